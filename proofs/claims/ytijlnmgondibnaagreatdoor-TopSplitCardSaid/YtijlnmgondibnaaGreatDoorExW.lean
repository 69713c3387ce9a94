import Derived.Test.YtijlnmgondibnaaGreatDoorExK8
import Derived.WalkKit
import Derived.ProofKit
import Derived.OpenShut
import Derived.JoinedCond
set_option linter.unusedVariables false
set_option linter.unusedSimpArgs false
set_option linter.unusedSectionVars false

namespace Go.Ex

/-! ### ranges: what every reading keeps -/
def b0i {α:Type} (p:α→Prop) (l:List α):Prop:=∀ x∈l,p x

def F4:(t:Ty)→t.den→Prop
 | .int k,n=>q9 k n
 | .bool,_=>True
 | .str,s=>List.length s≤maxLen
 | .unit,_=>True
 | .fn _,_=>True
 | .hole _,_=>True
 | .w5 t,x=>List.length x.2.1≤maxLen∧b0i (F4 t) x.2.1
 | .map _ k v,x=>match x with
  | none=>True
  | some l=>b0i (fun p=>F4 k p.1∧F4 v p.2) l
 | .box _ _ t,x=>match x with
  | none=>True
  | some y=>F4 t y
 | .pair a b,x=>F4 a x.1∧F4 b x.2
 | .arr n t,l=>List.length l=n∧b0i (F4 t) l
 | .d0 _ t,l=>List.length l≤maxLen∧b0i (F4 t) l

def AV.F4:AV→Prop
 | .val t x=>Ex.F4 t x
 | .L9 t x=>Ex.F4 t x
 | _=>True

def b8M:List (Nat×AV)→Prop
 | []=>True
 | (_,v)::l=>v.F4∧b8M l

def a9t:List (Nat×g8)→Prop
 | []=>True
 | (_,.var t x)::l=>Ex.F4 t x∧a9t l
 | (_,.own t x)::l=>Ex.F4 t x∧a9t l
 | (_,.I9)::l=>a9t l

def St.F4 (s:St):Prop:=b8M s.fr∧a9t s.hp

def PK.F4:(k:PK)→k.den→Prop
 | .v t,x=>Ex.F4 t x
 | .rd t,x=>Ex.F4 t x
 | .B8 _ ts,x=>b8e ts x
 | .own t,x=>Ex.F4 t x
 | .rw t,x=>Ex.F4 t x
 | .mu t,x=>Ex.F4 (.d0 true t) x
 | .S7,_=>True
 | .Y2 _ _,_=>True
 | .el _,_=>True
where b8e:(ts:List Ty)→DL ts→Prop
 | [],_=>True
 | t::ts,x=>Ex.F4 t x.1∧b8e ts x.2

def b8F:(ks:List PK)→DK ks→Prop
 | [],_=>True
 | k::ks,x=>k.F4 x.1∧b8F ks x.2

section
variable {E:Env} {B:D4} {S S':Nat→Prop} {ι:Ix} {s:St} {a:Act} {w:World} {hp:List (Nat×g8)} {H H':Array Go.Obj}

theorem i7.F4 {t:Ty} (hr:∀ {O:List Nat} {cs:List Value} {x:t.den},f7 H S t O cs x→Ex.F4 t x):∀ {l:List t.den} {O:List Nat} {cs:List Value},i7 (f7 H S t) t.size O cs l→b0i (Ex.F4 t) l
 | [],_,_,_=>by intro x hx; cases hx
 | x::l,_,_,⟨O1,O2,_,h1,h2⟩=>by
  intro y hy
  rcases List.mem_cons.1 hy with rfl|hy
  ·exact hr h1
  ·exact i7.F4 hr h2 y hy

theorem M6.F4 {t u:Ty} (hr:∀ {cs:List Value} {x:t.den},f7 H S t [] cs x→Ex.F4 t x) (hr':∀ {cs:List Value} {x:u.den},f7 H S u [] cs x→Ex.F4 u x):∀ {es:List MapEntry} {l:List (t.den×u.den)},M6 (f7 H S t []) (f7 H S u []) t u es l→b0i (fun p=>Ex.F4 t p.1∧Ex.F4 u p.2) l
 | [],l,h=>by rw [show l=[] from h]; intro x hx; cases hx
 | e::es,l,⟨x,y,l',cs,ds,e1,_,h1,_,h2,h3⟩=>by
  rw [e1]; intro p hp
  rcases List.mem_cons.1 hp with rfl|hp
  ·exact ⟨hr h1,hr' h2⟩
  ·exact M6.F4 hr hr' h3 p hp

theorem f7.F4:∀ {t:Ty} {O:List Nat} {cs:List Value} {x:t.den},f7 H S t O cs x→Ex.F4 t x:=by
 intro t
 induction t with
 | int k=>intro O cs x h; exact h.2.2
 | bool=>intro O cs x h; trivial
 | str=>intro O cs x h; exact h.2.2
 | fn f=>intro O cs x _; exact trivial
 | hole t _=>intro O cs x _; exact trivial
 | w5 t ih =>
  rintro O cs ⟨n,l,m⟩ h
  match n,h with
  | 0,h =>
   rcases h with ⟨_,_,h3⟩|⟨b,off,cap,O',c1,c2,c3,c4,c5,c6⟩
   ·subst h3; exact ⟨Nat.zero_le _,by intro x hx; cases hx⟩
   ·exact ⟨Nat.le_trans c2 c3.1,i7.F4 (fun h=>ih h) c5⟩
  | 1,h =>
   rcases h with ⟨_,_,h3⟩|⟨b,off,cap,O',c1,c2,c3,c4,c5,c6⟩
   ·subst h3; exact ⟨Nat.zero_le _,by intro x hx; cases hx⟩
   ·exact ⟨Nat.le_trans c2 c3.1,i7.F4 (fun h=>ih h) c5⟩
  | n+2,⟨b,off,O',c1,c2,c3,c4,c5⟩ =>
   have hr:=i7.F4 (fun h=>ih h) c4
   exact ⟨by have:=c2.1; show List.length l≤maxLen; omega,fun x hx=>hr x (List.mem_append.2 (.inl hx))⟩
 | map o k v ihk ihv =>
  rintro O cs x (⟨rfl,_⟩|⟨l,b,es,ck,rfl,_,_,h4,_⟩)
  ·trivial
  ·exact M6.F4 (fun h=>ihk h) (fun h=>ihv h) h4
 | box o g t ih =>
  rintro O cs x (⟨rfl,_⟩|⟨y,b,off,O',rfl,_,_,h3,_⟩)
  ·trivial
  ·exact ih h3
 | unit=>intro O cs x h; trivial
 | pair a c iha ihc=>rintro O cs x ⟨O1,O2,_,h1,h2⟩; exact ⟨iha h1,ihc h2⟩
 | arr n t ih=>rintro O cs x ⟨h1,h2⟩; exact ⟨h1,i7.F4 (fun h=>ih h) h2⟩
 | d0 o t ih =>
  rintro O cs x h
  rcases h with ⟨_,_,h3⟩|⟨b,off,cap,O',c1,c2,c3,c4,c5,c6⟩
  ·subst h3; exact ⟨Nat.zero_le _,by intro x hx; cases hx⟩
  ·exact ⟨Nat.le_trans c2 c3.1,i7.F4 (fun h=>ih h) c5⟩

theorem VX.F4 {v:AV} {vs:List Value} (h:VX H S ι hp v vs):v.F4:=by
 cases v<;>try trivial
 ·obtain ⟨cs,_,h⟩:=h; exact h.F4
 ·obtain ⟨b,off,_,_,_,h⟩:=h; exact h.F4

theorem RS.F4 (h:RS B S ι s a w) (h1:uniq s.fr) (h2:uniq s.hp):s.F4:=by
 have look_tail:∀ {α:Type} {n m:Nat} {x:α} {l:List (Nat×α)} {y:α},look m l=none→look n l=some y→look n ((m,x)::l)=some y:=by
  intro α n m x l y h1 h2
  simp only [look]
  cases hb:Nat.beq n m with
  | true =>
   have:=Nat.eq_of_beq_eq_true hb
   subst this
   rw [h1] at h2; cases h2
  | false=>exact h2
 have fr:∀ l:List (Nat×AV),uniq l→(∀ t v,look t l=some v→v.F4)→b8M l:=by
  intro l
  induction l with
  | nil=>intro _ _; trivial
  | cons q l ih =>
   obtain ⟨n,v⟩:=q
   rintro ⟨k0,k2⟩ k3
   have k1:=a3D k0
   exact ⟨k3 n v (by simp [look]),ih k2 (fun t v hv=>k3 t v (look_tail k1 hv))⟩
 have hpp:∀ l:List (Nat×g8),uniq l→(∀ t e,look t l=some e→Ex.F4 e.ty e.x)→a9t l:=by
  intro l
  induction l with
  | nil=>intro _ _; trivial
  | cons q l ih =>
   obtain ⟨n,e⟩:=q
   rintro ⟨k0,k2⟩ k3
   have k1:=a3D k0
   have h0:=k3 n e (by simp [look])
   have h3:=ih k2 (fun t e he=>k3 t e (look_tail k1 he))
   cases e<;>first|exact ⟨h0,h3⟩|exact h3
 refine ⟨fr _ h1 (fun t v hv=>(h.fr t v hv).F4),hpp _ h2 (fun i e he=>?_)⟩
 have:=h.hs.ob i e he
 cases e with
 | var t x=>obtain ⟨⟨O,_,hR⟩,_⟩:=this; exact hR.F4
 | own t x=>obtain ⟨⟨O,_,hR⟩,_⟩:=this; exact hR.F4
 | I9=>trivial

/-! ### the evaluator is sound -/
def D4.of (w:World) (S:Nat→Prop) (ps:List PK) (vs:List Value) (L:List Nat) (n:Nat) (gv:Value:=undef):D4:=⟨w,S,fun b=>b∈L,n,J7 ps vs 0,gv⟩

def GOk (gp:Option (List Step)) (gv:Value) (H:Array Go.Obj):(ps:List PK)→List Value→DL (F3 ps)→Prop
 | .rw t::_,vs,z=>(match gp,vs with
  | some p,.pointer (some ⟨b,off,none⟩)::_=>w4 t z.1 p∧∃ b' off',w7 H t p b off=some (b',off')∧gv=.pointer (some ⟨b',off',none⟩)
  | _,_=>True)
 | _,_,_=>True

def c7p (P:Program) (w0:World) (S0:Nat→Prop) (L:List Nat):Prop:=a0r P w0 S0∧∀ b,S0 b→b<w0.heap.size∧¬ b∈L

def Reach (E:Env) (fn:Func) (y:DL E.rs) (z:DL (F3 E.ps)) (k:List Item) (s:St):Prop :=
 ∀ (w0:World) (S0:Nat→Prop) (vs:List Value) (x:DK E.ps) (L:List Nat) (gv:Value) (S:Nat→Prop) (ι:Ix) (a:Act) (w:World),c7p E.P w0 S0 L→Q7 w0.heap S0 E.ps vs x L →
  RS (D4.of w0 S0 E.ps vs L fn.ntmps gv) S ι s a w→At E.P fn (fun e w'=>a2Z w0 S0 E.rs E.ps vs L y z e w'∧GOk E.gp gv w'.heap E.ps vs z) k a w

structure B0 (E:Env) (fn:Func):Prop where
 nt:fn.ntmps=E.nt
 res:fn.results.toList=E.res

theorem b7o:∀ {a b:List Ty} {x x':DL a} {y y':DL b},DL.app x y=DL.app x' y'→x=x'∧y=y'
 | [],_,_,_,_,_,h=>⟨rfl,h⟩
 | _::_,_,x,x',_,_,h=>by
  have h1:=congrArg Prod.fst h
  have h2:=congrArg Prod.snd h
  obtain ⟨h3,h4⟩:=b7o h2
  exact ⟨Prod.ext h1 h3,h4⟩

theorem a6o {fn:Func} {w0:World} {S0:Nat→Prop} {vs:List Value} {x:DK E.ps} {L:List Nat} {gv:Value} (hE:C2 E (D4.of w0 S0 E.ps vs L fn.ntmps gv)) (hf:B0 E fn) {y:DL E.rs} {z:DL (F3 E.ps)} {L':Code→List Item→St→Prop} (ht:(finish E s).holds L' (·=DL.app y z)) (hK:Q7 w0.heap S0 E.ps vs x L)
  (h:RS (D4.of w0 S0 E.ps vs L fn.ntmps gv) S ι s a w) (hG:a0F s E.ps 0=some z→GOk E.gp gv w.heap E.ps vs z) (e:Exit) (he:e=.normal∨e=.ret) :
  bodyPost E.P fn (fun e w'=>a2Z w0 S0 E.rs E.ps vs L y z e w'∧GOk E.gp gv w'.heap E.ps vs z) e a w:=by
 unfold finish at ht
 split at ht
 ·exact ht.elim
 ·rename_i l hl
  split at ht
  ·rename_i y' z' hy hz
   have ht:DL.app y' z'=DL.app y z:=ht
   obtain ⟨rfl,rfl⟩:=b7o ht
   obtain ⟨us,h1,h2⟩:=b5I hE h hf.res hl
   obtain ⟨O,k1,k2,k3⟩:=a9c h.hs hy h2
   obtain ⟨Lo,m1,m2,m3⟩:=a2Q h.hs hK (fun q hq=>hq) hz
   have hR:a2Z w0 S0 E.rs E.ps vs L y' z' (.returned (a3d us)) w:=by
    refine ⟨us,O,Lo,S,rfl,⟨h.hs.os,h.hs.tape,h.hs.out,h.hs.size,fun c hc hL=>h.hs.frame c hc hL⟩,h.hs.s0,fun b hb=>?_,k1,m1,List.nodup_append.2 ⟨k2,m2,?_⟩,fun b hb=>?_⟩
    ·rcases h.hs.s1 b hb with h1|h1
     ·exact .inl h1
     ·exact .inr ⟨h1,h.hs.slt b hb⟩
    ·rintro c hc d hd rfl
     obtain ⟨i,e,i0,ip,i1,i2⟩:=k3 c hc
     obtain ⟨j,e',j0,j1,j2⟩:=m3 c hd
     refine h.hs.dj i j e e' i1 j1 ?_ c i2 j2
     rintro rfl
     have:pinned i=true:=by simp only [pinned,Nat.ble_eq]; omega
     rw [ip] at this; cases this
    ·have:∃ i e,look i s.hp=some e∧b∈l6 ι i e:=by
      rcases List.mem_append.1 hb with hb|hb
      ·obtain ⟨i,e,_,_,n2,n3⟩:=k3 b hb; exact ⟨i,e,n2,n3⟩
      ·obtain ⟨i,e,_,n2,n3⟩:=m3 b hb; exact ⟨i,e,n2,n3⟩
     obtain ⟨i,e,n2,n3⟩:=this
     exact h.hs.bl i e n2 b n3
   rcases he with rfl|rfl
   ·exact ⟨h.dfr,_,h1,hR,hG hz⟩
   ·exact ⟨h.dfr,_,h1,hR,hG hz⟩
  ·exact ht.elim

theorem c3H {gv:Value} {H:Array Go.Obj}:∀ {ps:List PK} {vs:List Value} {z:DL (F3 ps)},GOk none gv H ps vs z
 | [],_,_=>trivial
 | k::_,_,_=>by cases k<;>trivial

theorem gok {H0:Array Go.Obj} {S0:Nat→Prop} {gv:Value} {p:List Step}:∀ {ps:List PK} {vs:List Value} {x:DK ps} {L:List Nat} {z:DL (F3 ps)},Q7 H0 S0 ps vs x L→a0F s ps 0=some z→(∀ q∈J7 ps vs 0,ι.root q.1=q.2.1)→VX H S ι s.hp (.ptr 2000000 p) [gv]→GOk (some p) gv H ps vs z
 | [],_,_,_,_,_,_,_,_=>trivial
 | k::ps,vs,x,L,z,⟨v,us,L1,L2,e1,_,hk,_⟩,hz,hp,hv=>by
  cases k with
  | rw t =>
   obtain ⟨b,off,O,rfl,_,_,_⟩:=hk
   subst e1
   have hr:ι.root 2000000=(b,off):=hp (2000000,(b,off),[]) (by simp [J7])
   obtain ⟨e,b',off',k1,k2,k3,k4⟩:=hv
   unfold a0F at hz
   split at hz
   ·rename_i u x0 y0 ho hy
    have ho:look 2000000 s.hp=some (.var u x0):=ho
    rw [k1] at ho; cases ho
    split at hz
    ·rename_i hu
     subst hu
     cases hz
     obtain ⟨p1,_⟩:=y9 k3
     have p1:w7 H u p (ι.root 2000000).1 (ι.root 2000000).2=some (b',off'):=p1
     rw [hr] at p1
     exact ⟨k2,b',off',p1,by simpa using k4⟩
    ·cases hz
   ·cases hz
  | _=>trivial

theorem a5N {fn:Func} {w0:World} {S0:Nat→Prop} {vs:List Value} {x:DK E.ps} {L:List Nat} {gv:Value} (hE:C2 E (D4.of w0 S0 E.ps vs L fn.ntmps gv)) (hf:B0 E fn) {y:DL E.rs} {z:DL (F3 E.ps)} {L':Code→List Item→St→Prop} (ht:(b0w E s).holds L' (·=DL.app y z)) (hK:Q7 w0.heap S0 E.ps vs x L)
  (h:RS (D4.of w0 S0 E.ps vs L fn.ntmps gv) S ι s a w) (e:Exit) (he:e=.normal∨e=.ret) :
  bodyPost E.P fn (fun e w'=>a2Z w0 S0 E.rs E.ps vs L y z e w'∧GOk E.gp gv w'.heap E.ps vs z) e a w:=by
 unfold b0w at ht
 split at ht
 ·rename_i hgp
  exact a6o hE hf ht hK h (fun _=>by rw [hgp]; exact c3H) e he
 ·rename_i p hgp
  split at ht
  ·rename_i i q hl
   obtain ⟨⟨rfl,rfl,hnt⟩,ht⟩:=ht
   have ht:=ht ⟨rfl,rfl,hnt⟩
   refine a6o hE hf ht hK h (fun hz=>?_) e he
   rw [hgp]
   refine gok (S:=S) (ι:=ι) hK hz (fun q hq=>(h.hs.pin q hq).2.2.1) ?_
   have hv:=h.fr H4 _ hl
   have hsz:¬ H4<a.tmps.size:=by rw [h.sz]; show ¬ H4<fn.ntmps; rw [hf.nt]; omega
   have:a.tmps.getD H4 (D4.gd (D4.of w0 S0 E.ps vs L fn.ntmps gv) H4)=gv:=by
    rw [Array.getD_eq_getD_getElem?,Array.getElem?_eq_none (by omega)]
    rfl
   rw [this] at hv
   exact hv
  ·exact ht.elim

theorem j8 {rs:List Ty} {L:Code→List Item→St→Prop} {R:DL rs→Prop} {b:Bool} {t e:Tree rs}:(cond b t e).holds L R↔(b=true→t.holds L R)∧(b=false→e.holds L R):=by
 cases b<;>simp

theorem Z6:∀ {ks:List PK} {H:Array Go.Obj} {S:Nat→Prop} {vs:List Value} {x:DK ks} {L:List Nat},ks.any PK.l5=false→Q7 H S ks vs x L→L=[]
 | [],_,_,_,_,_,_,h=>h.2
 | k::ks,_,_,_,_,_,hp,⟨v,us,L1,L2,_,e,h1,h2⟩=>by
  rw [List.any_cons,Bool.or_eq_false_iff] at hp
  have e2:=Z6 hp.2 h2
  have e1:L1=[]:=by
   cases k<;>first|(exfalso; simp [PK.l5] at hp; done)|exact h1.1|exact h1
  rw [e,e1,e2]; rfl

theorem j5 (hE:u7 E) {fn:Func} (hf:B0 E fn) {y:DL E.rs} {z:DL (F3 E.ps)}:∀ {n:Nat} {k:List Item} {s:St},(exec E n k s).holds (fun c k s=>Reach E fn y z (.code c::.inLoop c::k) s) (·=DL.app y z)→Reach E fn y z k s
 | 0,k,s,ht=>ht.elim
 | n+1,k,s,ht=>by
  intro w0 S0 vs x L gv S ι a w hS0 hK h
  have hB:C2 E (D4.of w0 S0 E.ps vs L fn.ntmps gv):=⟨hE,hS0⟩
  unfold exec at ht
  split at ht
  ·obtain ⟨S2,ι2,h2⟩:=V0 (E:=E) (l:=a3e E.res E.rs) (fun hp b hb=>by have hb:b∈L:=hb; rw [Z6 hp hK] at hb; cases hb) h
   exact At.done (a5N hB hf ht hK h2 _ (.inl rfl))
  ·refine At.step (fun b cs=>step_inBlock) ?_
   exact j5 hE hf ht w0 S0 vs x L gv S ι a w hS0 hK h
  ·rename_i c k'
   refine At.step (fun b cs=>step_inLoop) ?_
   obtain ⟨S2,ι2,h2⟩:=V0 (E:=E) (l:=(look (M0 c) E.y6).getD []) (fun hp b hb=>by have hb:b∈L:=hb; rw [Z6 hp hK] at hb; cases hb) h
   obtain ⟨ι',h'⟩:=h2.canon ((look (M0 c) E.y6).getD [])
   exact ht w0 S0 vs x L gv S2 ι' a w hS0 hK h'
  ·rename_i c k'
   split at ht
   ·exact At.step (fun b cs=>step_skip) (j5 hE hf ht w0 S0 vs x L gv S ι a w hS0 hK h)
   ·exact At.step (fun b cs=>step_seq) (j5 hE hf ht w0 S0 vs x L gv S ι a w hS0 hK h)
   ·rename_i xc c1 c2
    split at ht
    ·rename_i g hg
     have hgv:=VX.a14 (x8 h hg)
     refine At.step (fun b cs=>step_cond hgv) ?_
     cases g with
     | true=>exact j5 hE hf ht w0 S0 vs x L gv S ι a w hS0 hK h
     | false=>exact j5 hE hf ht w0 S0 vs x L gv S ι a w hS0 hK h
    ·exact ht.elim
   ·exact At.step (fun b cs=>step_block) (j5 hE hf ht w0 S0 vs x L gv S ι a w hS0 hK h)
   ·rename_i c'
    obtain ⟨S2,ι2,h2⟩:=V0 (E:=E) (l:=(look (M0 c') E.y6).getD []) (fun hp b hb=>by have hb:b∈L:=hb; rw [Z6 hp hK] at hb; cases hb) h
    obtain ⟨ι',h'⟩:=h2.canon ((look (M0 c') E.y6).getD [])
    exact At.step (fun b cs=>step_loop) (ht w0 S0 vs x L gv S2 ι' a w hS0 hK h')
   ·split at ht
    ·rename_i k2 hx
     exact At.step (fun b cs=>step_exit hx) (j5 hE hf ht w0 S0 vs x L gv S ι a w hS0 hK h)
    ·exact ht.elim
   ·obtain ⟨S2,ι2,h2⟩:=V0 (E:=E) (l:=a3e E.res E.rs) (fun hp b hb=>by have hb:b∈L:=hb; rw [Z6 hp hK] at hb; cases hb) h
    exact At.ret (a5N hB hf ht hK h2 _ (.inr rfl))
   ·rename_i id ops draw
    split at ht
    ·obtain ⟨S,ι,h⟩:=a9f (E:=E) (fun hp b hb=>by have hb:b∈L:=hb; rw [Z6 hp hK] at hb; cases hb) h ops
     refine At.region (wp_region_list ?_)
     exact T5 hB (by exact hf.nt) (fun hp b hb=>by have hb:b∈L:=hb; rw [Z6 hp hK] at hb; cases hb) (m:=0) (l:=ops.toList) (Q:=fun e a w=>e=.normal∧At E.P fn (fun e w'=>a2Z w0 S0 E.rs E.ps vs L y z e w'∧GOk E.gp gv w'.heap E.ps vs z) k' a w) (fun S' ι' s' a' w' h1 h2=>⟨rfl,j5 hE hf h2 w0 S0 vs x L gv S' ι' a' w' hS0 hK h1⟩) h ht
    ·skip
     obtain ⟨S,ι,h⟩:=b8g (E:=E) (fun hp b hb=>by have hb:b∈L:=hb; rw [Z6 hp hK] at hb; cases hb) h ops
     generalize b0p E ops s=s at h ht
     split at ht
     ·rename_i hd
      obtain ⟨s',h1,h2⟩:=a6a (acc':=[]) rfl (by simp) ht
      exact At.region (b3V hB (by exact hf.nt) hd h1 (fun S' ι' a' w' h3=>⟨rfl,j5 hE hf h2 w0 S0 vs x L gv S' ι' a' w' hS0 hK h3⟩) h.Q0)
     ·split at ht
      ·rename_i hd
       obtain ⟨s',h1,h2⟩:=a6a (acc':=[]) rfl (by simp) ht
       exact At.region (b2x hB (by exact hf.nt) hd h1 (fun S' ι' a' w' h3=>⟨rfl,j5 hE hf h2 w0 S0 vs x L gv S' ι' a' w' hS0 hK h3⟩) h.Q0)
      ·exact ht.elim
   ·exact ht.elim
  ·exact ht.elim

theorem Tree.holds.mono {rs:List Ty} {L L':Code→List Item→St→Prop} {R:DL rs→Prop}:∀ {t:Tree rs},t.holds L R→(∀ c k s,L c k s→L' c k s)→t.holds L' R
 | .f6 _ _,h,hl=>⟨h.1,fun hp=>(h.2 hp).mono hl⟩
 | .both _ _ _,h,hl=>⟨fun hp=>(h.1 hp).mono hl,h.2.mono hl⟩
 | .cut c k s,h,hl=>hl c k s h
 | .ret _,h,_=>h
 | .stuck _,h,_=>h

theorem Reach.loop (hE:u7 E) {fn:Func} (hf:B0 E fn) {y:DL E.rs} {z:DL (F3 E.ps)} {c:Code} {k:List Item} {α:Type} (mk:α→St) (I:α→Prop) (μ:α→Nat) (n:Nat) (hu:∀ x,uniq (mk x).fr∧uniq (mk x).hp)
  (h:∀ x,I x→(mk x).F4→(exec E n (.code c::.inLoop c::k) (mk x)).holds (fun c' k' s'=>(c'=c∧k'=k∧∃ x',s'=mk x'∧I x'∧μ x'<μ x)∨Reach E fn y z (.code c'::.inLoop c'::k') s') (·=DL.app y z)) :
  ∀ x,I x→Reach E fn y z (.code c::.inLoop c::k) (mk x):=by
 have key:∀ m x,μ x=m→I x→Reach E fn y z (.code c::.inLoop c::k) (mk x):=by
  intro m
  induction m using Nat.strongRecOn with
  | _ m ih =>
   intro x hm hI w0 S0 vs x0 L gv S ι a w hS0 hK hrs
   have hx:=h x hI (hrs.F4 (hu x).1 (hu x).2)
   refine j5 hE hf (hx.mono ?_) w0 S0 vs x0 L gv S ι a w hS0 hK hrs
   rintro c' k' s' (⟨rfl,rfl,x',rfl,h1,h2⟩|h1)
   ·exact ih (μ x') (hm▸h2) x' rfl h1
   ·exact h1
 exact fun x hI=>key (μ x) x rfl hI

end
end Go.Ex

namespace Go.Ex

section
variable {E:Env} {B:D4} {S S':Nat→Prop} {ι:Ix} {s:St} {a:Act} {w:World} {hp:List (Nat×g8)} {H H':Array Go.Obj}

theorem VX.has {v:AV} {i:Nat}:∀ {vs:List Value},VX H S ι hp v vs→v.i6 i=true→∃ e,look i hp=some e:=by
 induction v with
 | cons a b iha ihb =>
  rintro vs ⟨v,us,_,ha,hb⟩ hm
  simp only [AV.i6,Bool.or_eq_true] at hm
  exact hm.elim (iha ha) (ihb hb)
 | J6 l ih=>rintro vs ⟨us,_,h⟩ hm; exact ih h hm
 | B8 f l ih=>rintro vs ⟨us,_,h⟩ hm; exact ih h hm
 | bx l ih=>rintro vs ⟨_,_,u,_,_,_,_,h⟩ hm; exact ih h hm
 | rc f l ih=>rintro vs ⟨_,_,u,_,_,_,_,h⟩ hm; exact ih h hm
 | ptr j p=>rintro vs ⟨e,_,_,h1,_⟩ hm; have:=Nat.eq_of_beq_eq_true hm; subst this; exact ⟨e,h1⟩
 | at_ j p=>rintro vs ⟨e,_,_,_,h1,_⟩ hm; have:=Nat.eq_of_beq_eq_true hm; subst this; exact ⟨e,h1⟩
 | sub j p a b=>rintro vs ⟨e,_,h1,_⟩ hm; have:=Nat.eq_of_beq_eq_true hm; subst this; exact ⟨e,h1⟩
 | _=>intro vs _ hm; cases hm

structure b5D (B:D4) (S:Nat→Prop) (w:World) (ks:List PK) (vs:List Value) (x:DK ks) (L:List Nat) (i:Nat) (ι:Ix):Prop where
 hs:HS B S ι (D9 ks x i) w
 fr:∀ t v,look t (T3 ks x i)=some v→i≤t∧∃ val,vs[t - i]?=some val∧VX w.heap S ι (D9 ks x i) v [val]
 pins:∀ q∈J7 ks vs i,pinned q.1=true∧(∃ e,look q.1 (D9 ks x i)=some e)∧ι.root q.1=q.2.1∧ι.cells q.1=q.2.2
 keys:∀ k e,look k (D9 ks x i)=some e→∃ m,i≤m∧m<1000∧(k=1500000+m∨k=2000000+m)
 own:∀ k e,look k (D9 ks x i)=some e→∀ b∈l6 ι k e,b∈L
 rest:∀ k,look k (D9 ks x i)=none→ι.root k=(0,0)∧ι.cells k=[]

theorem c1F (hB:B.pins=[]) (hw:B.w0=w) (hS0:B.S0=S) (hS:∀ b,S b→b<w.heap.size):∀ {ks:List PK} {vs:List Value} {x:DK ks} {L:List Nat} {i:Nat},Q7 w.heap S ks vs x L→L.Nodup→(∀ b∈L,¬ S b∧B.M b∧b<w.heap.size)→i+ks.length≤1000→∃ ι,b5D B S w ks vs x L i ι
 | [],vs,x,L,i,hK,_,_,_=>by
  refine ⟨⟨fun _=>(0,0),fun _=>[],fun _=>[]⟩,⟨?_,?_,?_,?_,?_,fun k _=>⟨rfl,rfl⟩⟩⟩
  ·subst hw
   subst hS0
   refine ⟨rfl,.refl _,rfl,Nat.le_refl _,fun _ _ _=>rfl,hS,fun _ h=>h,fun b hb=>.inl hb,?_,?_,?_,?_⟩
   ·intro i e hi; cases hi
   ·intro i e hi; cases hi
   ·intro i j ei ej hi; cases hi
   ·intro q hq; rw [hB] at hq; cases hq
  ·intro t v h; cases h
  ·intro q hq; simp [J7] at hq
  ·intro k e h; cases h
  ·intro k e h; cases h
 | k::ks,vs,x,L,i,⟨v,us,L1,L2,e1,e2,hk,hK⟩,hn,hL,hi=>by
  subst e1 e2
  have hnL:=List.nodup_append.1 hn
  obtain ⟨ι,hb⟩:=c1F (i:=i+1) hB hw hS0 hS hK hnL.2.1 (fun b hb=>hL b (by simp [hb])) (by simp only [List.length_cons] at hi; omega)
  simp only [List.length_cons] at hi
  -- a parameter that is read alone
  have plain:∀ {v0:AV},T3 (k::ks) x i=(i,v0)::T3 ks x.2 (i+1)→D9 (k::ks) x i=D9 ks x.2 (i+1)→J7 (k::ks) (v::us) i=J7 ks us (i+1)→VX w.heap S ι (D9 ks x.2 (i+1)) v0 [v]→∃ ι,b5D B S w (k::ks) (v::us) x (L1++L2) i ι:=by
   intro v0 h1 h2 h3 h4
   refine ⟨ι,by rw [h2]; exact hb.hs,?_,by rw [h3,h2]; exact hb.pins,?_,?_,by rw [h2]; exact hb.rest⟩
   ·intro t u hu
    rw [h1] at hu
    simp only [look] at hu
    rw [h2]
    cases hbq:Nat.beq t i with
    | true =>
     rw [hbq] at hu
     have:=Nat.eq_of_beq_eq_true hbq
     subst this
     cases hu
     exact ⟨Nat.le_refl _,v,by simp,h4⟩
    | false =>
     rw [hbq] at hu
     obtain ⟨k1,val,k2,k3⟩:=hb.fr t u hu
     refine ⟨by omega,val,?_,k3⟩
     rw [show t - i=(t - (i+1))+1 from by omega]
     simpa using k2
   ·intro q e hq
    rw [h2] at hq
    obtain ⟨m,m1,m2,m3⟩:=hb.keys q e hq
    exact ⟨m,by omega,m2,m3⟩
   ·intro q e hq b hbb
    rw [h2] at hq
    exact List.mem_append_right _ (hb.own q e hq b hbb)
  -- a parameter with an object
  have obj:∀ {v0:AV} {d:Nat} {e:g8} {ι':Ix},T3 (k::ks) x i=(i,v0)::T3 ks x.2 (i+1)→D9 (k::ks) x i=Ex.put d e (D9 ks x.2 (i+1))→(d=1500000+i∨d=2000000+i) →
    (∀ q∈J7 (k::ks) (v::us) i,q∈J7 ks us (i+1)∨(pinned q.1=true∧q.1=d∧ι'.root d=q.2.1∧ι'.cells d=q.2.2))→(∀ j,j≠d→E0 ι ι' j)→OB w.heap S ι' d e→(∀ b∈l6 ι' d e,b∈L1) →
    VX w.heap S ι' (Ex.put d e (D9 ks x.2 (i+1))) v0 [v]→∃ ι,b5D B S w (k::ks) (v::us) x (L1++L2) i ι:=by
   intro v0 d e ι' h1 h2 hd h3 hs hob hbl h4
   have hnone:look d (D9 ks x.2 (i+1))=none:=by
    cases hlk:look d (D9 ks x.2 (i+1)) with
    | none=>rfl
    | some e'=>exfalso; obtain ⟨m,m1,m2,m3⟩:=hb.keys d e' hlk; omega
   have hF:C9 B S ι (D9 ks x.2 (i+1)) w L1:=by
    refine ⟨hnL.1,fun b hbb=>?_⟩
    obtain ⟨l1,l2,l3⟩:=hL b (by simp [hbb])
    exact ⟨l1,.inr l2,l3,fun j ej hj hbj=>hnL.2.2 b hbb b (hb.own j ej hj b hbj) rfl⟩
   have hns:∀ {u:AV} {us':List Value},VX w.heap S ι (D9 ks x.2 (i+1)) u us'→u.i6 d=false:=by
    intro u us' hu
    cases hm:u.i6 d with
    | false=>rfl
    | true=>obtain ⟨e',he'⟩:=hu.has hm; rw [hnone] at he'; cases he'
   refine ⟨ι',by rw [h2]; exact hb.hs.add hnone hs hob hbl hF,?_,?_,?_,?_,?_⟩
   ·intro t u hu
    rw [h1] at hu
    simp only [look] at hu
    rw [h2]
    cases hbq:Nat.beq t i with
    | true =>
     rw [hbq] at hu
     have:=Nat.eq_of_beq_eq_true hbq
     subst this
     cases hu
     exact ⟨Nat.le_refl _,v,by simp,h4⟩
    | false =>
     rw [hbq] at hu
     obtain ⟨k1,val,k2,k3⟩:=hb.fr t u hu
     refine ⟨by omega,val,?_,VX.add hs (hns k3) k3⟩
     rw [show t - i=(t - (i+1))+1 from by omega]
     simpa using k2
   ·intro q hq
    rw [h2]
    rcases h3 q hq with hq|⟨q1,q2,q3,q4⟩
    ·obtain ⟨r1,⟨e',r2⟩,r3,r4⟩:=hb.pins q hq
     have hne:q.1≠d:=by intro hqd; rw [hqd,hnone] at r2; cases r2
     obtain ⟨s1,s2,s3⟩:=hs q.1 hne
     exact ⟨r1,⟨e',by rw [o5,if_neg hne]; exact r2⟩,s1.trans r3,s2.trans r4⟩
    ·exact ⟨q1,⟨e,by rw [o5,if_pos q2]⟩,by rw [q2]; exact q3,by rw [q2]; exact q4⟩
   ·intro q e' hq
    rw [h2,o5] at hq
    split at hq
    ·rename_i hqd; exact ⟨i,Nat.le_refl _,by omega,by omega⟩
    ·obtain ⟨m,m1,m2,m3⟩:=hb.keys q e' hq
     exact ⟨m,by omega,m2,m3⟩
   ·intro q e' hq b hbb
    rw [h2,o5] at hq
    split at hq
    ·rename_i hqd; subst hqd; cases hq; exact List.mem_append_left _ (hbl b hbb)
    ·rename_i hqd
     rw [(hs q hqd).l6] at hbb
     exact List.mem_append_right _ (hb.own q e' hq b hbb)
   ·intro q hq
    rw [h2,o5] at hq
    split at hq
    ·cases hq
    ·rename_i hqd
     obtain ⟨s1,s2,s3⟩:=hs q hqd
     obtain ⟨r1,r2⟩:=hb.rest q hq
     exact ⟨s1.trans r1,s2.trans r2⟩
  have hrest:∀ d,d=1500000+i∨d=2000000+i→ι.root d=(0,0)∧ι.cells d=[]:=by
   intro d hd
   refine hb.rest d ?_
   cases hlk:look d (D9 ks x.2 (i+1)) with
   | none=>rfl
   | some e'=>exfalso; obtain ⟨m,m1,m2,m3⟩:=hb.keys d e' hlk; omega
  cases k with
  | v t=>obtain ⟨_,cs,e1,hR⟩:=hk; exact plain rfl rfl rfl ⟨cs,by rw [e1],hR⟩
  | S7=>exact plain rfl rfl rfl (by rw [hk.2]; rfl)
  | Y2 f n=>exact plain rfl rfl rfl ⟨_,rfl⟩
  | el q=>exact plain rfl rfl rfl ⟨_,rfl⟩
  | rd t=>obtain ⟨_,b,off,e1,k1,k2,k3⟩:=hk; exact plain rfl rfl rfl ⟨b,off,by rw [e1],k1,k2,k3⟩
  | B8 f ts =>
   obtain ⟨_,ws,e1,hl⟩:=hk
   refine plain rfl rfl rfl ⟨ws,by rw [e1],?_⟩
   have:∀ {ts:List Ty} {ws:List Value} {y:DL ts},RdL w.heap S ts ws y→VX w.heap S ι (D9 ks x.2 (i+1)) (T3.rdA ts y) ws:=by
    intro ts
    induction ts with
    | nil=>intro ws y h; exact h
    | cons t ts ih =>
     rintro ws y ⟨v,us,e,⟨b,off,e1,k1,k2,k3⟩,hl⟩
     exact ⟨v,us,e,⟨b,off,by rw [e1],k1,k2,k3⟩,ih hl⟩
   exact this hl
  | own t =>
   obtain ⟨cs,rfl,hR⟩:=hk
   refine obj (d:=1500000+i) (e:=.own t x.1) (ι':=ι.R2 (1500000+i) cs L1) rfl rfl (.inl rfl) (fun q hq=>.inl hq) (fun j hj=>a17 hj _ _) ⟨⟨L1,by simp [Ix.R2],by simpa [Ix.R2] using hR⟩,by simpa [Ix.R2] using hnL.1⟩ ?_ (a4I hR.length)
   intro b hb; simpa [l6,Ix.R2] using hb
  | rw t =>
   obtain ⟨b,off,O,rfl,hR,hf,rfl⟩:=hk
   refine obj (d:=2000000+i) (e:=.var t x.1) (ι':=ι.P9 (2000000+i) (b,off) O) rfl rfl (.inr rfl) ?_ (fun j hj=>a32 hj _ _) ⟨⟨O,by simp [Ix.P9],by simpa [Ix.P9] using hR⟩,by simpa [Ix.P9] using hf,by simpa [Ix.P9] using hnL.1⟩ ?_
    (b0n (s:=⟨[],D9 ks x.2 (i+1)⟩) (r:=(b,off)) (o:=O) hf.lt)
   ·intro q hq
    simp only [J7,List.mem_cons] at hq
    rcases hq with rfl|hq
    ·exact .inr ⟨by simp only [pinned,Nat.ble_eq]; omega,rfl,by simp [Ix.P9],by simpa [Ix.P9] using (hrest (2000000+i) (.inr rfl)).2⟩
    ·exact .inl hq
   ·intro c hc; simpa [l6,Ix.P9] using hc
  | mu t =>
   obtain ⟨cs,rfl,hR⟩:=hk
   have hcs:cs=[j7 (.d0 true t) cs]:=by
    have:=hR.length
    match cs,this with
    | [c],_=>rfl
   refine obj (d:=2000000+i) (e:=.own (.d0 true t) x.1) (ι':=ι.R2 (2000000+i) cs L1) rfl rfl (.inr rfl) ?_ (fun j hj=>a17 hj _ _) ⟨⟨L1,by simp [Ix.R2],by simpa [Ix.R2] using hR⟩,by simpa [Ix.R2] using hnL.1⟩ ?_ (a4I hR.length)
   ·intro q hq
    simp only [J7,List.mem_cons] at hq
    rcases hq with rfl|hq
    ·exact .inr ⟨by simp only [pinned,Nat.ble_eq]; omega,rfl,by simpa [Ix.R2] using (hrest (2000000+i) (.inr rfl)).1,by simpa [Ix.R2] using hcs⟩
    ·exact .inl hq
   ·intro b hb; simpa [l6,Ix.R2] using hb

theorem c07:∀ {ks:List PK} {vs:List Value} {x:DK ks} {L:List Nat},Q7 H S ks vs x L→b8F ks x
 | [],_,_,_,_=>trivial
 | k::ks,vs,x,L,⟨v1,us,L1,L2,e,_,h1,h2⟩=>by
  refine ⟨?_,c07 h2⟩
  cases k with
  | v t=>obtain ⟨_,cs,e1,hR⟩:=h1; exact hR.F4
  | rd t=>obtain ⟨_,b,off,e1,k1,k2,k3⟩:=h1; exact k3.F4
  | own t=>obtain ⟨cs,e1,hR⟩:=h1; exact hR.F4
  | rw t=>obtain ⟨b,off,O,e1,hR,_⟩:=h1; exact hR.F4
  | mu t=>obtain ⟨cs,e1,hR⟩:=h1; exact hR.F4
  | S7=>trivial
  | Y2 f n=>trivial
  | el q=>trivial
  | B8 f ts =>
   obtain ⟨_,ws,e1,hl⟩:=h1
   have:∀ {ts:List Ty} {ws:List Value} {y:DL ts},RdL H S ts ws y→PK.F4.b8e ts y:=by
    intro ts
    induction ts with
    | nil=>intro ws y h; trivial
    | cons t ts ih =>
     rintro ws y ⟨v,us,e,⟨b,off,e1,k1,k2,k3⟩,hl⟩
     exact ⟨k3.F4,ih hl⟩
   exact this hl

theorem c08:∀ {ks:List PK} {vs:List Value} {x:DK ks} {L:List Nat},Q7 H S ks vs x L→vs.length=ks.length
 | [],_,_,_,h=>by rw [h.1]; rfl
 | k::ks,vs,x,L,⟨v1,us,L1,L2,e,_,_,h2⟩=>by rw [e]; simp [c08 h2]

theorem a7W:∀ {ks:List PK} {x:DK ks} {i k:Nat} {e:g8},look k (D9 ks x i)=some e→∃ m,i≤m∧m<i+ks.length∧(k=1500000+m∨k=2000000+m)
 | [],_,_,_,_,h=>by cases h
 | k0::ks,x,i,k,e,h=>by
  have rest:look k (D9 ks x.2 (i+1))=some e→∃ m,i≤m∧m<i+(k0::ks).length∧(k=1500000+m∨k=2000000+m):=by
   intro h
   obtain ⟨m,h1,h2,h3⟩:=a7W h
   exact ⟨m,by omega,by simp only [List.length_cons]; omega,h3⟩
  have put_:∀ {d:Nat} {e0:g8},(d=1500000+i∨d=2000000+i)→look k (Ex.put d e0 (D9 ks x.2 (i+1)))=some e→∃ m,i≤m∧m<i+(k0::ks).length∧(k=1500000+m∨k=2000000+m):=by
   intro d e0 hd h
   rw [o5] at h
   split at h
   ·rename_i hk; subst hk; exact ⟨i,Nat.le_refl _,by simp only [List.length_cons]; omega,hd⟩
   ·exact rest h
  cases k0 with
  | own t=>exact put_ (.inl rfl) h
  | rw t=>exact put_ (.inr rfl) h
  | mu t=>exact put_ (.inr rfl) h
  | _=>exact rest h

def a2J (hp:List (Nat×g8)) (ι:Ix):(ks:List PK)→List Value→DK ks→Nat→Prop
 | [],_,_,_=>True
 | .rw t::ks,vs,x,i=>(look (2000000+i) hp=some (.var t x.1)∧∃ us,vs=.pointer (some ⟨(ι.root (2000000+i)).1,(ι.root (2000000+i)).2,none⟩)::us)∧a2J hp ι ks (vs.drop 1) x.2 (i+1)
 | .v _::ks,vs,x,i=>a2J hp ι ks (vs.drop 1) x.2 (i+1)
 | .rd _::ks,vs,x,i=>a2J hp ι ks (vs.drop 1) x.2 (i+1)
 | .B8 _ _::ks,vs,x,i=>a2J hp ι ks (vs.drop 1) x.2 (i+1)
 | .own _::ks,vs,x,i=>a2J hp ι ks (vs.drop 1) x.2 (i+1)
 | .mu _::ks,vs,x,i=>a2J hp ι ks (vs.drop 1) x.2 (i+1)
 | .S7::ks,vs,x,i=>a2J hp ι ks (vs.drop 1) x.2 (i+1)
 | .Y2 _ _::ks,vs,x,i=>a2J hp ι ks (vs.drop 1) x.2 (i+1)
 | .el _::ks,vs,x,i=>a2J hp ι ks (vs.drop 1) x.2 (i+1)

theorem a18:∀ {ks:List PK} {vs:List Value} {x:DK ks} {L:List Nat} {i:Nat},Q7 H S ks vs x L→i+ks.length≤1000→(∀ k e,look k (D9 ks x i)=some e→look k hp=some e)→(∀ q∈J7 ks vs i,ι.root q.1=q.2.1)→a2J hp ι ks vs x i
 | [],_,_,_,_,_,_,_,_=>trivial
 | k::ks,vs,x,L,i,⟨v,us,L1,L2,e1,_,hk,hK⟩,hi,hh,hp2=>by
  subst e1
  simp only [List.length_cons] at hi
  have sub:∀ {d:Nat} {e0:g8},(d=1500000+i∨d=2000000+i)→(∀ k e,look k (Ex.put d e0 (D9 ks x.2 (i+1)))=some e→look k hp=some e)→∀ k e,look k (D9 ks x.2 (i+1))=some e→look k hp=some e:=by
   intro d e0 hd hh k e h
   refine hh k e ?_
   rw [o5,if_neg]
   ·exact h
   ·rintro rfl
    obtain ⟨m,h1,h2,h3⟩:=a7W h
    omega
  cases k with
  | rw t =>
   obtain ⟨b,off,O,rfl,_,_,_⟩:=hk
   have hr:ι.root (2000000+i)=(b,off):=hp2 (2000000+i,(b,off),[]) (by simp [J7])
   refine ⟨⟨hh _ _ (by simp only [D9]; rw [o5,if_pos rfl]),us,by rw [hr]⟩,a18 hK (by omega) (sub (.inr rfl) hh) (fun q hq=>hp2 q (by simp only [J7]; exact List.mem_cons_of_mem _ hq))⟩
  | own t=>exact a18 (ks:=ks) hK (by omega) (sub (.inl rfl) hh) (fun q hq=>hp2 q hq)
  | mu t=>exact a18 (ks:=ks) hK (by omega) (sub (.inr rfl) hh) (fun q hq=>hp2 q (by simp only [J7]; exact List.mem_cons_of_mem _ hq))
  | v t=>exact a18 (ks:=ks) hK (by omega) hh (fun q hq=>hp2 q hq)
  | rd t=>exact a18 (ks:=ks) hK (by omega) hh (fun q hq=>hp2 q hq)
  | B8 f ts=>exact a18 (ks:=ks) hK (by omega) hh (fun q hq=>hp2 q hq)
  | S7=>exact a18 (ks:=ks) hK (by omega) hh (fun q hq=>hp2 q hq)
  | Y2 f n=>exact a18 (ks:=ks) hK (by omega) hh (fun q hq=>hp2 q hq)
  | el q=>exact a18 (ks:=ks) hK (by omega) hh (fun q hq=>hp2 q hq)

theorem b1s {fr:List (Nat×AV)}:∀ {n j:Nat} {us:List Value},us.length=n→(∀ t val v,us[t]?=some val→look (j+t) fr=some v→VX H S ι hp v [val])→VX H S ι hp (b8N fr j n) us
 | 0,j,us,hl,_=>by
  obtain rfl:=List.length_eq_zero_iff.1 hl
  rfl
 | n+1,j,u::us,hl,h=>by
  refine ⟨u,us,rfl,?_,b1s (by simpa using hl) (fun t val v ht hv=>h (t+1) val v (by simpa using ht) (by rw [← hv]; congr 1; omega))⟩
  cases hlk:look j fr with
  | none=>exact ⟨_,rfl⟩
  | some v=>exact h 0 u v rfl hlk

theorem b63:∀ {ks:List PK} {x:DK ks} {i:Nat} {fr:List (Nat×AV)} {pre vs:List Value} {cc:Option (Sigma Ty.den)},(∀ t v,look t fr=some v→∃ val,(pre.reverse++vs)[t]?=some val∧VX H S ι hp v [val])→i=pre.length →
  W7 H S ks cc pre vs x→vs.length=ks.length→a2J hp ι ks vs x i→(∀ r,cc=some r→∃ pre',pre=.pointer (some ⟨(ι.root (2000000+(i - 1))).1,(ι.root (2000000+(i - 1))).2,none⟩)::pre'∧look (2000000+(i - 1)) hp=some (.var r.1 r.2)) →
  ∀ t v,look t (a0j ks x i fr)=some v→∃ val,(pre.reverse++vs)[t]?=some val∧VX H S ι hp v [val]
 | [],_,_,_,_,_,_,h,_,_,_,_,_=>h
 | k::ks,x,i,fr,pre,vs,cc,h,hi,hk,hl,hr,hc=>by
  cases vs with
  | nil=>cases hl
  | cons v vs =>
   have hl:vs.length=ks.length:=by simpa using hl
   have happ:pre.reverse++v::vs=(v::pre).reverse++vs:=by simp
   have next:∀ {fr':List (Nat×AV)} {cc':Option (Sigma Ty.den)},(∀ t v',look t fr'=some v'→∃ val,(pre.reverse++v::vs)[t]?=some val∧VX H S ι hp v' [val])→W7 H S ks cc' (v::pre) vs x.2→a2J hp ι ks vs x.2 (i+1) →
     (∀ r,cc'=some r→v=.pointer (some ⟨(ι.root (2000000+i)).1,(ι.root (2000000+i)).2,none⟩)∧look (2000000+i) hp=some (.var r.1 r.2))→∀ t v',look t (a0j ks x.2 (i+1) fr')=some v'→∃ val,(pre.reverse++v::vs)[t]?=some val∧VX H S ι hp v' [val]:=by
    intro fr' cc' h1 h2 h3 h4
    rw [happ] at h1 ⊢
    refine b63 h1 (by simp [hi]) h2 hl h3 (fun r hr=>?_)
    rw [Nat.add_sub_cancel]
    obtain ⟨q1,q2⟩:=h4 r hr
    exact ⟨pre,by rw [q1],q2⟩
   have hat:(pre.reverse++v::vs)[i]?=some v:=by
    rw [List.getElem?_append_right (by simp [hi])]
    simp [hi]
   cases k with
   | v t=>exact next h hk hr (fun r hr=>by cases hr)
   | rd t=>exact next h hk hr (fun r hr=>by cases hr)
   | B8 f ts=>exact next h hk hr (fun r hr=>by cases hr)
   | own t=>exact next h hk hr (fun r hr=>by cases hr)
   | mu t=>exact next h hk hr (fun r hr=>by cases hr)
   | S7=>exact next h hk hr (fun r hr=>by cases hr)
   | rw t =>
    obtain ⟨⟨h1,us,h2⟩,hr⟩:=hr
    exact next h hk hr (fun r hr=>by cases hr; exact ⟨(List.cons.inj h2).1,h1⟩)
   | Y2 f n =>
    obtain ⟨⟨us,b,off,e1,h1,h2,h3,h4⟩,hk⟩:=hk
    obtain ⟨rfl,rfl⟩:=List.cons.inj e1
    refine next (fun t v' ht=>?_) hk hr (fun r hr=>by cases hr)
    rw [o5] at ht
    split at ht
    ·rename_i e; subst e; cases ht
     refine ⟨_,hat,_,_,_,rfl,h1,h2,h3,_,rfl,b,off,(pre.take n).reverse,rfl,h1,h2,h3,?_⟩
     refine b1s (by simp; omega) (fun t val v' ht hv=>?_)
     obtain ⟨val',g1,g2⟩:=h _ _ hv
     have htn:t<n:=by
      have:=(List.getElem?_eq_some_iff.1 ht).1
      simp at this; omega
     have:val'=val:=by
      rw [List.reverse_take,List.getElem?_drop] at ht
      rw [List.getElem?_append_left (by simp; omega)] at g1
      subst hi
      rw [g1] at ht; cases ht; rfl
     rw [this] at g2; exact g2
    ·exact h t v' ht
   | el q =>
    obtain ⟨⟨t,y,b0,off0,pre',b,off,us,e0,e1,e2,h1,h2,h3⟩,hk⟩:=hk
    obtain ⟨rfl,rfl⟩:=List.cons.inj e2
    obtain ⟨pre2,g1,g2⟩:=hc _ e0
    rw [e1] at g1
    simp only [List.cons.injEq,Value.pointer.injEq,Option.some.injEq,Addr.mk.injEq,and_true] at g1
    obtain ⟨⟨rfl,rfl⟩,rfl⟩:=g1
    refine next (fun t' v' ht=>?_) hk hr (fun r hr=>by cases hr)
    rw [o5] at ht
    split at ht
    ·rename_i e; subst e; cases ht
     exact ⟨_,hat,_,b,off,g2,h1,Z3 h2 h3,rfl⟩
    ·exact h t' v' ht

theorem c6d {E:Env} {fn:Func} {w:World} {vs:List Value} {x:DK E.ps} {L:List Nat}
  (hlen:E.ps.length≤fn.ntmps∧E.ps.length≤1000) (hS:∀ b,S b→b<w.heap.size) (hK:Q7 w.heap S E.ps vs x L) (hKl:W7 w.heap S E.ps none [] vs x) (hLn:L.Nodup) (hLb:∀ b∈L,¬ S b∧b<w.heap.size) :
  ∃ ι,∀ gv,RS (D4.of w S E.ps vs L fn.ntmps gv) S ι (s6 E.ps x) { tmps:=vs.toArray++Array.replicate (fn.ntmps - vs.toArray.size) undef,defers:=[] } w:=by
 obtain ⟨ι,hbg⟩:=c1F (B:=⟨w,S,fun b=>b∈L,fn.ntmps,[],undef⟩) (i:=0) rfl rfl rfl hS hK hLn (fun b hb=>⟨(hLb b hb).1,hb,(hLb b hb).2⟩) (by show 0+E.ps.length≤1000; omega)
 refine ⟨ι,fun gv=>?_⟩
 have hl:vs.length=E.ps.length:=c08 hK
 have hs:=hbg.hs
 refine ⟨⟨hs.os,hs.tape,hs.out,hs.size,hs.frame,hs.slt,hs.s0,hs.s1,hs.ob,hs.bl,hs.dj,fun q hq=>hbg.pins q hq⟩,rfl,?_,?_⟩
 ·simp only [Array.size_append,List.size_toArray,Array.size_replicate,D4.of]
  omega
 ·intro t v hv
  obtain ⟨val,k2,k3⟩:=b63 (pre:=[]) (vs:=vs) (i:=0) (fun t v ht=>by
   obtain ⟨_,val,k2,k3⟩:=hbg.fr t v ht
   exact ⟨val,by simpa using k2,k3⟩) rfl hKl hl (a18 hK (by show 0+E.ps.length≤1000; omega) (fun _ _ h=>h) (fun q hq=>(hbg.pins q hq).2.2.1)) (fun r hr=>by cases hr) t v hv
  simp only [List.reverse_nil,List.nil_append] at k2
  have:(vs.toArray++Array.replicate (fn.ntmps - vs.toArray.size) undef).getD t (D4.gd (D4.of w S E.ps vs L fn.ntmps gv) t)=val:=by
   have hlt:=(List.getElem?_eq_some_iff.1 k2).1
   simp only [Array.getD_eq_getD_getElem?]
   rw [Array.getElem?_append_left (by simpa using hlt)]
   simp [k2]
  rw [this]
  exact k3

theorem p7.o6 (_hE:u7 E) {f:FuncId} {fn:Func} {c:Code} {rs:List Ty} {ps:List PK} {pre:DK ps→Prop} {fn':DK ps→DL rs} {out:DK ps→DL (F3 ps)} (hrs:E.rs=rs) (hps:E.ps=ps) (hf:E.P.funcs[f]?=some fn) (hb:fn.body=some c) (hname:(fn.name == "runtime.NumGoroutine")=false) (_hF:B0 E fn)
  (hlen:(Nat.ble ps.length fn.ntmps && Nat.ble ps.length 1000)=true)
  (h:∀ x:DK ps,pre x→b8F ps x→Reach E fn (hrs▸fn' x) (hps▸out x) [.code c] (s6 ps x)):(p7.mk ps rs pre fn' out false).Valid E.P f:=by
 subst hrs
 subst hps
 simp only [Bool.and_eq_true,Nat.ble_eq] at hlen
 refine ⟨⟨fn,hf,hname,by rw [hb]; rfl⟩,?_,fun h=>by cases h⟩
 intro w S vs x L hS hgl hpre hK hKl hLn hLb
 refine Calls.mono (R:=fun e w'=>a2Z w S E.rs E.ps vs L (fn' x) (out x) e w'∧GOk E.gp undef w'.heap E.ps vs (out x)) ?_ (fun _ _ h=>h.1)
 refine b6n hf hb ?_
 obtain ⟨ι,hst⟩:=c6d hlen hS hK hKl hLn hLb
 exact h x hpre (c07 hK) w S vs x L undef S ι _ w ⟨hgl,fun b hb=>⟨hS b hb,fun hl=>(hLb b hl).1 hb⟩⟩ hK (hst undef)

end
end Go.Ex

namespace Go.Ex

/-! ### results that are handed out as shared -/
def shares:List Ty→List Ty→Bool
 | [],[]=>true
 | t::ts,t'::ts'=>(decide (t'=t) || (decide (t'=t.sh) && t.R8)) && shares ts ts'
 | _,_=>false

theorem c0J {t t':Ty} (h:(decide (t'=t) || (decide (t'=t.sh) && t.R8))=true):t.den=t'.den:=by
 simp only [Bool.or_eq_true,Bool.and_eq_true,decide_eq_true_eq] at h
 rcases h with rfl|⟨rfl,_⟩
 ·rfl
 ·exact (D7 t).symm

def a5X:(rs rs':List Ty)→shares rs rs'=true→DL rs→DL rs'
 | [],[],_,_=>()
 | t::ts,t'::ts',h,x=>(cast (c0J (by simp only [shares,Bool.and_eq_true] at h; exact h.1)) x.1,a5X ts ts' (by simp only [shares,Bool.and_eq_true] at h; exact h.2) x.2)
 | [],_::_,h,_=>by simp [shares] at h
 | _::_,[],h,_=>by simp [shares] at h

theorem b1d {H:Array Go.Obj} {S:Nat→Prop}:∀ {ts rs':List Ty} (h:shares ts rs'=true) {O:List Nat} {us:List Value} {x:DL ts},J1 H S ts O us x →
  ∃ O1 O2,O.Perm (O1++O2)∧∀ T:Nat→Prop,(∀ b,S b→T b)→(∀ b∈O2,T b)→J1 H T rs' O1 us (a5X ts rs' h x)
 | [],[],_,O,us,x,hR=>⟨[],[],by rw [hR.1]; exact List.Perm.refl _,fun T _ _=>⟨rfl,hR.2⟩⟩
 | [],_::_,h,_,_,_,_=>by simp [shares] at h
 | _::_,[],h,_,_,_,_=>by simp [shares] at h
 | t::ts,t'::ts',h,O,us,x,⟨v,us',P1,P2,cs,e1,e2,e3,h1,h2⟩=>by
  have hh:=h
  simp only [shares,Bool.and_eq_true] at hh
  obtain ⟨O1,O2,p,k⟩:=b1d hh.2 h2
  have hd:=hh.1
  simp only [Bool.or_eq_true,Bool.and_eq_true,decide_eq_true_eq] at hd
  subst e2
  rcases hd with rfl|⟨rfl,hnh⟩
  ·refine ⟨P1++O1,O2,by rw [List.append_assoc]; exact p.append_left P1,fun T hS hT=>⟨v,us',P1,O1,cs,e1,rfl,e3,?_,k T hS hT⟩⟩
   exact h1.r7 (fun _ _=>rfl) hS
  ·refine ⟨O1,P1++O2,?_,fun T hS hT=>⟨v,us',[],O1,cs,e1,rfl,by rw [e3]; exact (b3a (by rw [Ty.a7e]) cs).symm,?_,k T hS (fun b hb=>hT b (by simp [hb]))⟩⟩
   ·refine (p.append_left P1).trans ?_
    rw [← List.append_assoc,← List.append_assoc]
    exact List.perm_append_comm.append_right O2
   ·exact h1.a1s (fun b hb=>hT b (by simp [hb])) hS hnh

theorem c0P {ps:List PK} (h:ps.all PK.reads=true):F3 ps=[]:=by
 induction ps with
 | nil=>rfl
 | cons k ps ih =>
  simp only [List.all_cons,Bool.and_eq_true] at h
  have:=ih h.2
  cases k<;>first|exact this|(exfalso; simp [PK.reads] at h; done)

theorem b6Q {H:Array Go.Obj} {S:Nat→Prop}:∀ {ps:List PK},ps.all PK.reads=true→∀ {vs:List Value} {x:DK ps} {L:List Nat},Q7 H S ps vs x L→L=[]
 | [],_,_,_,_,h=>h.2
 | k::ps,h,vs,x,L,⟨v,us,L1,L2,e1,e2,h1,h2⟩=>by
  simp only [List.all_cons,Bool.and_eq_true] at h
  have hL2:=b6Q h.2 h2
  have hL1:L1=[]:=by
   cases k<;>first|exact h1.1|(exfalso; simp [PK.reads] at h; done)
  rw [e2,hL1,hL2]; rfl

theorem p7.Valid.share {P:Program} {f:FuncId} {c:p7} (h:c.Valid P f) (hps:c.ps.all PK.reads=true) (hno:c.rs.all Ty.H6=true) {rs':List Ty} (hrs:shares c.rs rs'=true) :
  (p7.mk c.ps rs' c.pre (fun x=>a5X c.rs rs' hrs (c.fn x)) c.out true).Valid P f:=by
 have core:∀ (w:World) (S:Nat→Prop) (vs:List Value) (x:DK c.ps) (L:List Nat),(∀ b,S b→b<w.heap.size)→a0r P w S→c.pre x→Q7 w.heap S c.ps vs x L→W7 w.heap S c.ps none [] vs x→L.Nodup→(∀ b∈L,¬ S b∧b<w.heap.size) →
   Calls P f vs.toArray w (fun e w'=>∃ us O Lo S',e=.returned (a3d us)∧y8 L w w'∧(∀ b,S b→S' b)∧(∀ b,S' b→S b∨((w.heap.size≤b∨b∈L)∧b<w'.heap.size)) ∧
    J1 w'.heap S' rs' O us (a5X c.rs rs' hrs (c.fn x))∧E9 w'.heap S' c.ps vs (c.out x) Lo∧(O++Lo).Nodup∧(∀ b∈O++Lo,¬ S' b∧(w.heap.size≤b∨b∈L)∧b<w'.heap.size) ∧
    J1 w'.heap (fun b=>S' b∧w.heap.size≤b) rs' O us (a5X c.rs rs' hrs (c.fn x))):=by
  intro w S vs x L hS hgl hpre hK hKl hLn hLb
  refine (h.run w S vs x L hS hgl hpre hK hKl hLn hLb).mono (fun e w' hr=>?_)
  obtain ⟨us,O,Lo,S',e1,hp,s1,s2,h1,h2,hnd,hb⟩:=hr
  have hL:=b6Q hps hK
  have hLo:Lo=[]:=U5 (c0P hps) h2
  subst hL
  subst hLo
  rw [List.append_nil] at hnd hb
  obtain ⟨O1,O2,p,k⟩:=b1d hrs (h1.H6 (S':=fun _=>False) hno)
  have hnd':=p.nodup_iff.1 hnd
  have hnewb:∀ b∈O2,¬ S' b∧w.heap.size≤b∧b<w'.heap.size:=fun b hb'=>by
   obtain ⟨q0,q1,q2⟩:=hb b (p.mem_iff.2 (List.mem_append_right _ hb'))
   rcases q1 with q1|q1
   ·exact ⟨q0,q1,q2⟩
   ·cases q1
  refine ⟨us,O1,[],fun b=>S' b∨b∈O2,e1,hp,fun b hb=>.inl (s1 b hb),?_,k _ (fun b hb=>hb.elim) (fun b hb=>.inr hb),?_,by rw [List.append_nil]; exact (List.nodup_append.1 hnd').1,?_,k _ (fun b hb=>hb.elim) (fun b hb=>⟨.inr hb,(hnewb b hb).2.1⟩)⟩
  ·rintro b (hb'|hb')
   ·exact s2 b hb'
   ·exact .inr ⟨.inl (hnewb b hb').2.1,(hnewb b hb').2.2⟩
  ·have hno:∀ {ks:List PK} {us:List Value} {y:DL (F3 ks)} {T:Nat→Prop},ks.all PK.reads=true→E9 w'.heap S' ks us y []→E9 w'.heap T ks us y []:=by
    intro ks
    induction ks with
    | nil=>intro us y T _ h; exact h
    | cons k ks ih =>
     intro us y T hk h
     simp only [List.all_cons,Bool.and_eq_true] at hk
     cases k<;>first
      | (obtain ⟨v,us',e,h⟩:=h; exact ⟨v,us',e,ih hk.2 h⟩)
      | (exfalso; simp [PK.reads] at hk; done)
   exact hno hps h2
  ·intro b hb1
   rw [List.append_nil] at hb1
   obtain ⟨q0,q1,q2⟩:=hb b (p.mem_iff.2 (List.mem_append_left _ hb1))
   refine ⟨?_,q1,q2⟩
   rintro (h9|h9)
   ·exact q0 h9
   ·exact (List.nodup_append.1 hnd').2.2 b hb1 b h9 rfl
 refine ⟨h.ent,fun w S vs x L hS hgl hpre hK hKl hLn hLb=>(core w S vs x L hS hgl hpre hK hKl hLn hLb).mono (fun e w' ⟨us,O,Lo,S',a1,a2,a3,a4,a5,a6,a7,a8,_⟩=>⟨us,O,Lo,S',a1,a2,a3,a4,a5,a6,a7,a8⟩),fun _=>core⟩

theorem p7.Valid.conv {P:Program} {f:FuncId} {c:p7} (h:c.Valid P f) {rs':List Ty} {fn':DK c.ps→DL rs'} (hc:∀ x,c.pre x→∀ (H:Array Go.Obj) (S:Nat→Prop) (O:List Nat) (us:List Value),J1 H S c.rs O us (c.fn x)→J1 H S rs' O us (fn' x)) :
  (p7.mk c.ps rs' c.pre fn' c.out c.new).Valid P f:=by
 refine ⟨h.ent,fun w S vs x L hS hgl hpre hK hKl hLn hLb=>?_,fun hn w S vs x L hS hgl hpre hK hKl hLn hLb=>?_⟩
 ·refine (h.run w S vs x L hS hgl hpre hK hKl hLn hLb).mono (fun e w' hr=>?_)
  obtain ⟨us,O,Lo,S',e1,hp,s1,s2,h1,h2⟩:=hr
  exact ⟨us,O,Lo,S',e1,hp,s1,s2,hc x hpre _ _ _ _ h1,h2⟩
 ·refine (h.fresh hn w S vs x L hS hgl hpre hK hKl hLn hLb).mono (fun e w' hr=>?_)
  obtain ⟨us,O,Lo,S',e1,hp,s1,s2,h1,h2,h3,h4,h5⟩:=hr
  exact ⟨us,O,Lo,S',e1,hp,s1,s2,hc x hpre _ _ _ _ h1,h2,h3,h4,hc x hpre _ _ _ _ h5⟩

end Go.Ex

namespace Go.Ex

/-! ### a function that overwrites a slice up to its capacity, by hand -/
abbrev OI:=TypeId×String×Array Edge
section
variable {P:Program} {fn:Func} {R:Ending→World→Prop} {k:List Item} {a:Act} {w:World} {S':Nat→Prop}

structure c7D (P:Program) (b:Nat) (ox:Op) (xv:Value) (X:Act→World→Prop):Prop where
 run:∀ a w,X a w→∀ o:Oper,o.op=ox→(execOp a.eval o).run P w=.ok (.value xv) w
 put:∀ a w d v,X a w→d≠1→d≠3→d<a.tmps.size→X (a.put (some d) v) w
 mem:∀ a w w',X a w→(∀ c,c≠b→w'.heap[c]?=w.heap[c]?)→X a w'

variable {S I T:Nat} {e:Nat→OI} {ox:Op} {t:Ty} {r:Nat} {xv:Value} {ds:List Value} {x:t.den} {b off cap:Nat} {A:Option Addr} {X:Act→World→Prop} {w0:World} {S0:Nat→Prop}

structure SpD (t:Ty) (ds:List Value) (b off cap:Nat) (w0:World) (i:Nat) (w:World):Prop where
 past:y8 [b] w0 w
 free:Q8 t.isB w.heap b (off+cap*t.size)
 cells:d8 w.heap b off (i*t.size)=(List.replicate i ds).flatten

end
end Go.Ex

namespace Go.Ex

def a65 (P:Program):List (FuncId×p7)→Prop
 | []=>True
 | (f,c)::l=>c.Valid P f∧a65 P l

theorem a65.look {P:Program}:∀ {l:List (FuncId×p7)} {f:FuncId} {c:p7},a65 P l→Ex.look f l=some c→c.Valid P f
 | [],_,_,_,h=>by cases h
 | (g,d)::l,f,c,h,hl=>by
  simp only [Ex.look] at hl
  cases hb:Nat.beq f g with
  | true =>
   rw [hb] at hl
   have:=Nat.eq_of_beq_eq_true hb
   subst this; cases hl; exact h.1
  | false=>rw [hb] at hl; exact a65.look h.2 hl

theorem b6F {P:Program}:∀ {l:List (TypeId×TI)} {T:TypeId} {i:TI},l.all (a4R P)=true→Ex.look T l=some i→a4R P (T,i)=true
 | [],_,_,_,h=>by cases h
 | (g,d)::l,T,i,h,hl=>by
  simp only [List.all_cons,Bool.and_eq_true] at h
  simp only [Ex.look] at hl
  cases hb:Nat.beq T g with
  | true =>
   rw [hb] at hl
   have:=Nat.eq_of_beq_eq_true hb
   subst this; cases hl; exact h.1
  | false=>rw [hb] at hl; exact b6F h.2 hl

def a4J (P:Program) (C0:List (FuncId×p7)):List (FuncId×List (Option Nat))→Prop
 | []=>True
 | (f,pat)::l=>(∀ c,Ex.look f C0=some c→c.Kept P f pat)∧a4J P C0 l

theorem a4J.look {P:Program} {C0:List (FuncId×p7)}:∀ {l:List (FuncId×List (Option Nat))} {f:FuncId} {pat:List (Option Nat)},a4J P C0 l→Ex.look f l=some pat→∀ c,Ex.look f C0=some c→c.Kept P f pat
 | [],_,_,_,h=>by cases h
 | (g,d)::l,f,pat,h,hl=>by
  simp only [Ex.look] at hl
  cases hb:Nat.beq f g with
  | true =>
   rw [hb] at hl
   have:=Nat.eq_of_beq_eq_true hb
   subst this; cases hl; exact h.1
  | false=>rw [hb] at hl; exact a4J.look h.2 hl

theorem x6 {E:Env} (ht:E.tt.all (a4R E.P)=true) (hc:a65 E.P E.C0) (hk:a4J E.P E.C0 E.keeps:=by trivial):u7 E :=
 ⟨fun _ _ h=>b6F ht h,fun _ _ h=>hc.look h,fun _ c _ h1 h2=>hk.look h2 c h1⟩

theorem g9 {rs:List Ty} {L:Code→List Item→St→Prop} {R:DL rs→Prop} {t t':Tree rs} (h:t=t') (h':t'.holds L R):t.holds L R:=h▸h'

theorem Reach.N3 {E:Env} (hE:u7 E) {fn:Func} (hf:B0 E fn) {y:DL E.rs} {z:DL (F3 E.ps)} {c:Code} {k:List Item} {α:Type} (mk:α→St) (I:α→Prop) (μ:α→Nat) (n:Nat) (hu:∀ x,uniq (mk x).fr∧uniq (mk x).hp)
  (h:∀ x,I x→(mk x).F4→(∀ x',I x'→μ x'<μ x→Reach E fn y z (.code c::.inLoop c::k) (mk x')) →
   (exec E n (.code c::.inLoop c::k) (mk x)).holds (fun c' k' s'=>Reach E fn y z (.code c'::.inLoop c'::k') s') (·=DL.app y z)) :
  ∀ x,I x→Reach E fn y z (.code c::.inLoop c::k) (mk x):=by
 have key:∀ m x,μ x=m→I x→Reach E fn y z (.code c::.inLoop c::k) (mk x):=by
  intro m
  induction m using Nat.strongRecOn with
  | _ m ih =>
   intro x hm hI w0 S0 vs x0 L gv S ι a w hS0 hK hrs
   have hx:=h x hI (hrs.F4 (hu x).1 (hu x).2) (fun x' h1 h2=>ih (μ x') (hm▸h2) x' rfl h1)
   exact j5 hE hf hx w0 S0 vs x0 L gv S ι a w hS0 hK hrs
 exact fun x hI=>key (μ x) x rfl hI

def d9 (P:Program) (f:Nat):Code:=((P.funcs[f]?).bind (·.body)).getD .skip

end Go.Ex

namespace Go.Ex
open Go.ChangeShapes Go.WideShapes Go.ChangeAt Go.RowKit

section
variable {P:Program} {X:Type} {enc:TypeId×Value→X} {W:World} {sp:Nat→Bool} {held:Bool}

/-! how many values and letters: of a reading, of what is read -/
def a0b {α:Type _} (f:α→Nat):List α→Nat
 | []=>0
 | x::l=>f x+a0b f l
def Ty.flat:Ty→Bool
 | .int _|.bool|.str|.unit=>true
 | .fn _=>false
 | .hole _=>false
 | .w5 _=>false
 | .map _ _ _=>false
 | .box _ _ _=>false
 | .pair a b=>a.flat && b.flat
 | .arr _ t=>t.flat
 | .d0 o t=>!o && t.flat
def Ty.V1:(t:Ty)→t.den→Nat
 | .int _,_=>1
 | .bool,_=>1
 | .str,s=>List.length s+1
 | .unit,_=>0
 | .fn _,_=>0
 | .hole _,_=>0
 | .w5 _,_=>0
 | .map _ _ _,_=>0
 | .box _ _ _,_=>0
 | .pair a b,x=>a.V1 x.1+b.V1 x.2
 | .arr _ t,l=>a0b t.V1 l
 | .d0 _ t,l=>a0b t.V1 l+1
mutual
def O6 {H:Type}:DataW H→Nat
 | .lit (.string bytes)=>bytes.length+1
 | .lit _=>1
 | .nil=>1
 | .ptr d=>O6 d+1
 | .slice elems spare=>a0a elems+a0a spare+1
 | .agg parts=>a0a parts+1
 | .iface _ d=>O6 d+1
 | .map entries=>a6M entries+1
 | .held _=>1
def a0a {H:Type}:List (DataW H)→Nat
 | []=>0
 | d::r=>O6 d+a0a r
def a6M {H:Type}:List (Lit×DataW H)→Nat
 | []=>0
 | x::r=>b9A x+a6M r
def b9A {H:Type}:Lit×DataW H→Nat
 | (.string bytes,d)=>bytes.length+O6 d+1
 | (_,d)=>O6 d+1
end
theorem a1J {H β:Type}:∀ (xs:List (DataW H×β)),a0a (xs.map (·.1))=a0b (fun x=>O6 x.1) xs
 | []=>rfl
 | x::xs=>by simp only [List.map_cons,a0a,a0b,a1J xs]

theorem b0j {α β:Type} {R:List Nat→List Value→α→Prop} {sz:Nat} {bk:α→Nat} {bw:β→Nat}:∀ {n:Nat} {cs:List Value} {xs:List β},xs.length=n→cs.length=n*sz→(∀ i,i<n→∃ y z,xs[i]?=some z∧R [] ((cs.drop (i*sz)).take sz) y∧bk y≤bw z) →
  ∃ l:List α,l.length=n∧i7 R sz [] cs l∧a0b bk l≤a0b bw xs
 | 0,cs,[],_,h,_=>⟨[],rfl,⟨rfl,by simpa using h⟩,Nat.le_refl _⟩
 | n+1,cs,x::xs,hx,h,hr=>by
  obtain ⟨y,z,hz,hy,hb⟩:=hr 0 (by omega)
  have e:(n+1)*sz=n*sz+sz:=Nat.succ_mul n sz
  obtain ⟨l,h1,h2,h3⟩:=b0j (R:=R) (bk:=bk) (bw:=bw) (n:=n) (cs:=cs.drop sz) (sz:=sz) (xs:=xs) (by simpa using hx) (by simp; omega) (fun i hi=>by
   obtain ⟨y,z,hz,hy,hb⟩:=hr (i+1) (by omega)
   refine ⟨y,z,by simpa using hz,?_,hb⟩
   rw [List.drop_drop]
   rw [show sz+i*sz=(i+1)*sz by rw [Nat.succ_mul]; omega]
   exact hy)
  have hz:x=z:=by simpa using hz
  subst hz
  exact ⟨y::l,by simp [h1],⟨[],[],rfl,by simpa using hy,h2⟩,by simp only [a0b]; omega⟩
 | 0,_,_::_,h,_,_=>by simp at h
 | _+1,_,[],h,_,_=>by simp at h

theorem a1H {n:Nat} {T:TypeId} {t:Ty} (h:n8 P n T t=true):P.cellsOf T=t.size:=by
 obtain ⟨i,h1,h2,_⟩:=Q9 h
 simp [Program.cellsOf,h1,h2]

theorem a9d:∀ (t:Ty),t.flat=true →
  (∀ {n:Nat} {T:TypeId} {fuel:Nat} {cs:List Value} {x:DataW X×List MemPlace},n8 P n T t=true→DataW.trod enc P W 0 sp held fuel T cs=some x→∃ y:t.den,f7 W.heap (fun b=>b<W.heap.size) t [] cs y∧t.V1 y≤O6 x.1) ∧
  (∀ {n:Nat} {fs:List Field} {off m:Nat} {cs:List Value} {xs:List (DataW X×List MemPlace)},l8 (n8 P n) fs off t=true→xs.length=fs.length→(∀ (i:Nat) (f:Field),fs[i]?=some f→DataW.trod enc P W 0 sp held m f.type ((cs.drop f.offset).take (P.cellsOf f.type))=xs[i]?) →
   ∃ y:t.den,f7 W.heap (fun b=>b<W.heap.size) t [] ((cs.drop off).take t.size) y∧t.V1 y≤a0b (fun x=>O6 x.1) xs):=by
 intro t
 have strct:∀ {t:Ty},(∀ {n:Nat} {fs:List Field} {off m:Nat} {cs:List Value} {xs:List (DataW X×List MemPlace)},l8 (n8 P n) fs off t=true→xs.length=fs.length→(∀ (i:Nat) (f:Field),fs[i]?=some f→DataW.trod enc P W 0 sp held m f.type ((cs.drop f.offset).take (P.cellsOf f.type))=xs[i]?) →
   ∃ y:t.den,f7 W.heap (fun b=>b<W.heap.size) t [] ((cs.drop off).take t.size) y∧t.V1 y≤a0b (fun x=>O6 x.1) xs)→t.agg=true→(∀ n u,t≠.arr n u) →
   ∀ {n:Nat} {T:TypeId} {fuel:Nat} {cs:List Value} {x:DataW X×List MemPlace},n8 P n T t=true→DataW.trod enc P W 0 sp held fuel T cs=some x→∃ y:t.den,f7 W.heap (fun b=>b<W.heap.size) t [] cs y∧t.V1 y≤O6 x.1:=by
  intro t hB hag hna n T fuel cs x hT h
  obtain ⟨fs,k',h1,h2⟩:=a3Z hT hag hna
  obtain ⟨xs,m,_,rfl,hl,hlen,hf⟩:=DataW.trod_struct h1 h
  obtain ⟨y,hy,hb⟩:=hB (cs:=cs) (m:=m) (xs:=xs) h2 (by simpa using hlen) (fun i f hf'=>hf i f (by simpa using hf'))
  refine ⟨y,?_,?_⟩
  ·rw [a1H hT] at hl
   rw [List.drop_zero,List.take_of_length_le (by omega)] at hy
   exact hy
  ·simp only [O6,a1J]; omega
 induction t with
 | int k =>
  intro _
  refine ⟨?_,by intro n fs off m cs xs h; cases fs<;>simp [l8] at h⟩
  intro n T fuel cs x hT h
  obtain ⟨z,rfl,rfl,hw⟩:=DataW.trod_int (X1 hT) h
  simp only [Lit.wf,Bool.and_eq_true,decide_eq_true_eq] at hw
  exact ⟨z,⟨rfl,rfl,hw⟩,by simp [Ty.V1,O6]⟩
 | bool =>
  intro _
  refine ⟨?_,by intro n fs off m cs xs h; cases fs<;>simp [l8] at h⟩
  intro n T fuel cs x hT h
  obtain ⟨b,rfl,rfl⟩:=DataW.trod_bool (a1g hT) h
  exact ⟨b,⟨rfl,rfl⟩,by simp [Ty.V1,O6]⟩
 | str =>
  intro _
  refine ⟨?_,by intro n fs off m cs xs h; cases fs<;>simp [l8] at h⟩
  intro n T fuel cs x hT h
  obtain ⟨s,rfl,rfl,hl⟩:=DataW.trod_string (S6 hT) h
  exact ⟨s.data.toList,⟨rfl,rfl,hl⟩,by simp [Ty.V1,O6]⟩
 | unit =>
  intro _
  have hB:∀ {n:Nat} {fs:List Field} {off m:Nat} {cs:List Value} {xs:List (DataW X×List MemPlace)},l8 (n8 P n) fs off .unit=true→xs.length=fs.length→(∀ (i:Nat) (f:Field),fs[i]?=some f→DataW.trod enc P W 0 sp held m f.type ((cs.drop f.offset).take (P.cellsOf f.type))=xs[i]?) →
    ∃ y:(.unit:Ty).den,f7 W.heap (fun b=>b<W.heap.size) .unit [] ((cs.drop off).take (.unit:Ty).size) y∧(.unit:Ty).V1 y≤a0b (fun x=>O6 x.1) xs:=fun _ _ _=>⟨(),⟨rfl,by simp [Ty.size]⟩,by simp [Ty.V1]⟩
  exact ⟨strct hB rfl (by simp),hB⟩
 | fn f=>intro h; cases h
 | hole t _=>intro h; cases h
 | w5 t _=>intro h; cases h
 | map o a b=>intro h; cases h
 | box o g t=>intro h; cases h
 | pair a b iha ihb =>
  intro hflat
  simp only [Ty.flat,Bool.and_eq_true] at hflat
  have hB:∀ {n:Nat} {fs:List Field} {off m:Nat} {cs:List Value} {xs:List (DataW X×List MemPlace)},l8 (n8 P n) fs off (.pair a b)=true→xs.length=fs.length→(∀ (i:Nat) (f:Field),fs[i]?=some f→DataW.trod enc P W 0 sp held m f.type ((cs.drop f.offset).take (P.cellsOf f.type))=xs[i]?) →
    ∃ y:((.pair a b):Ty).den,f7 W.heap (fun b=>b<W.heap.size) (.pair a b) [] ((cs.drop off).take ((.pair a b):Ty).size) y∧((.pair a b):Ty).V1 y≤a0b (fun x=>O6 x.1) xs:=by
   intro n fs off m cs xs hf hlx hx
   cases fs with
   | nil=>simp [l8] at hf
   | cons f fs =>
    cases xs with
    | nil=>simp at hlx
    | cons x xs =>
    simp only [l8,Bool.and_eq_true] at hf
    obtain ⟨⟨⟨⟨h1,_⟩,h3⟩,_⟩,h5⟩:=hf
    have h1:f.offset=off:=Nat.eq_of_beq_eq_true h1
    have hx0:=hx 0 f (by simp)
    rw [h1,a1H h3] at hx0
    obtain ⟨y1,hy1,hb1⟩:=(iha hflat.1).1 h3 (hx0.trans (by simp:_=some x))
    obtain ⟨y2,hy2,hb2⟩:=(ihb hflat.2).2 (cs:=cs) (m:=m) (xs:=xs) h5 (by simpa using hlx) (fun i f hf=>by simpa using hx (i+1) f (by simpa using hf))
    refine ⟨(y1,y2),⟨[],[],rfl,?_,?_⟩,?_⟩
    ·rw [List.take_take,Nat.min_eq_left (by simp [Ty.size])]; exact hy1
    ·rw [← List.drop_drop] at hy2
     rw [List.drop_take,show (Ty.pair a b).size - a.size=b.size by simp [Ty.size]]; exact hy2
    ·simp only [Ty.V1,a0b]; omega
  exact ⟨strct hB rfl (by simp),hB⟩
 | arr n t ih =>
  intro hflat
  refine ⟨?_,by intro n fs off m cs xs h; cases fs<;>simp [l8] at h⟩
  intro k T fuel cs x hT h
  obtain ⟨e,k',h1,h2,h3⟩:=U1 hT
  obtain ⟨xs,m,_,rfl,hl,hlen,hf⟩:=DataW.trod_array h1 h
  rw [a1H hT] at hl
  have hs:(Ty.arr n t).size=n*t.size:=rfl
  rw [hs] at hl
  obtain ⟨l,g1,g2,g3⟩:=b0j (R:=f7 W.heap (fun b=>b<W.heap.size) t) (bk:=t.V1) (bw:=fun x:DataW X×List MemPlace=>O6 x.1) hlen hl (fun i hi=>by
   have:=hf i hi
   rw [a1H h3] at this
   have e:=List.getElem?_eq_getElem (l:=xs) (i:=i) (by omega)
   obtain ⟨y,hy,hb⟩:=(ih hflat).1 h3 (this.trans e)
   exact ⟨y,_,e,hy,hb⟩)
  exact ⟨l,⟨g1,g2⟩,by simp only [Ty.V1,O6,a1J]; omega⟩
 | d0 o t ih =>
  intro hflat
  simp only [Ty.flat,Bool.and_eq_true,Bool.not_eq_true'] at hflat
  obtain ⟨rfl,hsh⟩:=hflat
  refine ⟨?_,by intro n fs off m cs xs h; cases fs<;>simp [l8] at h⟩
  intro k T fuel cs x hT h
  obtain ⟨e,k',h1,h2,h3⟩:=E5 hT
  have hsz:=a1H h3
  rcases DataW.trod_slice h1 h with ⟨rfl,rfl⟩|⟨a,len,cap,elems,rest,n,_,rfl,rfl,_,hlc,hcm,hel,hf,_,_⟩
  ·exact ⟨([]:List t.den),.inl ⟨rfl,⟨none,0,rfl,by simp⟩,rfl⟩,by simp [Ty.V1,O6,a0b]⟩
  ·rw [hsz] at hf
   by_cases h0:len=0
   ·subst h0
    exact ⟨([]:List t.den),.inl ⟨rfl,⟨some a,cap,rfl,by simp⟩,rfl⟩,by simp [Ty.V1,O6,a0b]⟩
   ·have hcell:∀ i,i<len→∃ ci y z,W.cells? 0 (a.add (i*t.size)) t.size=some ci∧f7 W.heap (fun b=>b<W.heap.size) t [] ci y∧elems[i]?=some z∧t.V1 y≤O6 z.1:=by
     intro i hi
     have:=hf i hi
     have e:=List.getElem?_eq_getElem (l:=elems) (i:=i) (by omega)
     rw [e] at this
     obtain ⟨ci,k1,k2⟩:=Option.bind_eq_some_iff.1 this
     obtain ⟨y,hy,hb⟩:=(ih hsh).1 h3 k2
     exact ⟨ci,y,_,k1,hy,e,hb⟩
    obtain ⟨c0,_,_,k1,_⟩:=hcell 0 (by omega)
    obtain ⟨_,l0,g0⟩:=World.cells?_some k1
    obtain ⟨b,off,spot⟩:=a
    have hone:=g0 0 (by omega)
    have hsome:∃ v,W.cell? (Addr.mk b off spot)=some v:=by
     have:c0[0]?=some c0[0]:=List.getElem?_eq_getElem (by omega)
     rw [this,Nat.zero_mul] at hone
     exact ⟨_,hone⟩
    obtain ⟨v0,hv0⟩:=hsome
    obtain ⟨arr,T0,fz,hh,hspot⟩:∃ arr T0 fz,W.heap[b]?=some (.cells arr T0 fz)∧spot=none:=by
     unfold World.cell? at hv0
     split at hv0
     ·rename_i c T0 fz hh
      split at hv0
      ·cases hv0
      ·rename_i hs
       exact ⟨c,T0,fz,hh,by simpa using hs⟩
     ·cases hv0
    subst hspot
    have hblk:s5 W.heap b=arr.toList:=by simp only [s5,hh]
    have hci:∀ i ci,i<len→W.cells? 0 ((Addr.mk b off none).add (i*t.size)) t.size=some ci→off+i*t.size+t.size≤(s5 W.heap b).length∧ci=d8 W.heap b (off+i*t.size) t.size:=by
     intro i ci hi hc
     obtain ⟨_,l1,g1⟩:=World.cells?_some hc
     have hj:∀ j,j<t.size→(s5 W.heap b)[off+i*t.size+j]?=ci[j]?:=by
      intro j hj
      have:=g1 j hj
      rw [Addr.F6,Addr.F6] at this
      simp only [World.cell?,hh] at this
      rw [hblk,← this]; simp
     have hle:off+i*t.size+t.size≤(s5 W.heap b).length:=by
      have:=hj (t.size - 1) (by omega)
      rw [List.getElem?_eq_getElem (by omega:t.size - 1<ci.length)] at this
      have:=(List.getElem?_eq_some_iff.1 this).1
      omega
     refine ⟨hle,List.ext_getElem? (fun j=>?_)⟩
     by_cases hjt:j<t.size
     ·rw [← hj j hjt]
      simp only [d8,List.getElem?_take,if_pos hjt,List.getElem?_drop]
     ·rw [List.getElem?_eq_none (by omega),List.getElem?_eq_none (by rw [a12 _ _ _ hle]; omega)]
    have hlen:off+len*t.size≤(s5 W.heap b).length:=by
     obtain ⟨ci,y,_,q1,_⟩:=hcell (len - 1) (by omega)
     have:=(hci (len - 1) ci (by omega) q1).1
     have e:len*t.size=(len - 1)*t.size+t.size:=by
      rw [← Nat.succ_mul]; congr 1; omega
     omega
    obtain ⟨l,q1,q2,q3⟩:=b0j (R:=f7 W.heap (fun b=>b<W.heap.size) t) (bk:=t.V1) (bw:=fun x:DataW X×List MemPlace=>O6 x.1) (n:=len) (sz:=t.size) (cs:=d8 W.heap b off (len*t.size)) hel (a12 _ _ _ hlen) (fun i hi=>by
     obtain ⟨ci,y,z,r1,r2,r3,r4⟩:=hcell i hi
     have hle:i*t.size+t.size≤len*t.size:=by rw [← Nat.succ_mul]; exact Nat.mul_le_mul_right _ hi
     rw [n5,m0 _ _ _ _ (by omega),← (hci i ci hi r1).2]
     exact ⟨y,z,r3,r2,r4⟩)
    have hblt:b<W.heap.size:=(Array.getElem?_eq_some_iff.1 hh).1
    subst q1
    exact ⟨l,.inr ⟨b,off,cap,[],rfl,hlc,⟨hcm,by simp⟩,hlen,q2,rfl,rfl,hblt⟩,by simp only [Ty.V1,O6,a1J]; omega⟩

end
end Go.Ex

namespace Go.Ex
open Go.ChangeShapes Go.WideShapes Go.ChangeAt Go.RowKit

section
variable {P:Program} {X:Type} {enc:TypeId×Value→X} {W W':World} {sp:Nat→Bool} {held:Bool}

theorem b6k {k:Nat} {T:TypeId} {t:Ty} (hT:n8 P k T t=true) {r:Go.Reach} {base:Nat} {v:Value} (h:Value.okWide P W r base T v):v=j7 t v.cells.toList:=by
 obtain ⟨d,hd,hag⟩:=M4 hT
 unfold Value.okWide at h
 rw [hd] at h
 cases t with
 | int q =>
  have hu:=X1 hT
  rw [hd] at hu; cases hu
  simp only [Cell.okWide,hd,Cell.ok] at h
  cases v<;>simp_all [j7,Ty.agg,Value.cells]
 | bool =>
  have hu:=a1g hT
  rw [hd] at hu; cases hu
  simp only [Cell.okWide,hd,Cell.ok] at h
  cases v<;>simp_all [j7,Ty.agg,Value.cells]
 | str =>
  have hu:=S6 hT
  rw [hd] at hu; cases hu
  simp only [Cell.okWide,hd,Cell.ok] at h
  cases v<;>simp_all [j7,Ty.agg,Value.cells]
 | fn f =>
  obtain ⟨_,_,_,hu⟩:=b6E hT
  rw [hd] at hu; cases hu
  simp only [Cell.okWide,hd,Cell.ok] at h
  cases v<;>simp_all [j7,Ty.agg,Value.cells]
 | map o a b =>
  obtain ⟨_,_,_,hu,_⟩:=a4Q hT
  rw [hd] at hu; cases hu
  simp only [Cell.okWide,hd,Cell.ok] at h
  cases v<;>simp_all [j7,Ty.agg,Value.cells]
 | box o g a =>
  cases g with
  | none =>
   obtain ⟨_,_,hu,_⟩:=a77 hT
   rw [hd] at hu; cases hu
   simp only [Cell.okWide,hd,Cell.ok] at h
   cases v<;>simp_all [j7,Ty.agg,Value.cells]
  | some f =>
   obtain ⟨_,_,_,hu⟩:=b06 hT
   rw [hd] at hu; cases hu
   simp only [Cell.okWide,hd,Cell.ok] at h
   cases v<;>simp_all [j7,Ty.agg,Value.cells]
 | d0 o u =>
  obtain ⟨e,_,hu,_⟩:=E5 hT
  rw [hd] at hu; cases hu
  simp only [Cell.okWide,hd,Cell.ok] at h
  cases v<;>simp_all [j7,Ty.agg,Value.cells]
 | hole u =>
  obtain ⟨e,hu⟩:=b05 hT
  rw [hd] at hu; cases hu
  simp only [Cell.okWide,hd,Cell.ok] at h
  cases v<;>simp_all [j7,Ty.agg,Value.cells]
 | w5 u =>
  obtain ⟨e,hu⟩:=b27 hT
  rw [hd] at hu; cases hu
  simp only [Cell.okWide,hd,Cell.ok] at h
  cases v<;>simp_all [j7,Ty.agg,Value.cells]
 | _ =>
  cases d<;>first|(exact (Bool.false_ne_true hag.symm).elim)|skip
  all_goals
   obtain ⟨cs,rfl,_⟩:=h
   simp [j7,Ty.agg,Value.cells]

def a4P (P:Program):List TypeId→List Ty→Bool
 | [],[]=>true
 | T::ts,t::us=>n8 P 100 T t && t.flat && P.readableRec T && decide (T<P.types.size) && a4P P ts us
 | _,_=>false

def b2R:(us:List Ty)→DK (us.map .v)→Nat
 | [],_=>0
 | t::us,x=>t.V1 x.1+b2R us x.2

theorem a9o:∀ {ts:List TypeId} {us:List Ty},a4P P ts us=true→∀ {vs:List Value} {ds:List (DataW X)} {ps:List MemPlace} {base:Nat} {r:Go.Reach},DataW.TrodAll enc P W 0 sp held ts vs ds ps →
  (∀ (j:Nat) T v,ts[j]?=some T→vs[j]?=some v→Value.okWide P W r base T v)→∃ x:DK (us.map .v),Q7 W.heap (fun b=>b<W.heap.size) (us.map .v) vs x []∧ds.length=ts.length∧b2R us x≤a0a ds
 | [],[],_,vs,ds,ps,base,r,h,_=>by
  obtain ⟨rfl,rfl,rfl⟩:=trodAll_nil h
  exact ⟨(),⟨rfl,rfl⟩,rfl,Nat.le_refl _⟩
 | [],_::_,h,_,_,_,_,_,_,_=>by cases h
 | _::_,[],h,_,_,_,_,_,_,_=>by cases h
 | T::ts,t::us,hty,vs,ds,ps,base,r,h,hok=>by
  simp only [a4P,Bool.and_eq_true] at hty
  obtain ⟨⟨⟨⟨h1,h2⟩,_⟩,_⟩,h5⟩:=hty
  obtain ⟨v,vs',d,ds',p,q,rfl,rfl,rfl,⟨fuel,hv⟩,hr⟩:=trodAll_cons h
  obtain ⟨y,hy,hb⟩:=(a9d t h2).1 h1 hv
  obtain ⟨x,hx,hl,hb2⟩:=a9o h5 hr (fun j T v hT hv=>hok (j+1) T v (by simpa using hT) (by simpa using hv))
  exact ⟨(y,x),⟨v,vs',[],[],rfl,rfl,⟨rfl,_,b6k h1 (hok 0 T v rfl rfl),hy⟩,hx⟩,by simp [hl],by simp only [b2R,a0a]; exact Nat.add_le_add hb hb2⟩

theorem a5J (hl:laidOutB P=true) (hb:Below W.heap.size W W'):∀ {ts:List TypeId} {us:List Ty},a4P P ts us=true→∀ {vs:List Value} {ds:List (DataW X)} {ps:List MemPlace},DataW.TrodAll enc P W 0 (fun _=>true) true ts vs ds ps →
  (∀ p∈ps,p.block<W.heap.size)→(∀ p∈ps,sp p.block=true)→DataW.TrodAll enc P W' 0 sp true ts vs ds ps
 | [],[],_,vs,ds,ps,h,_,_=>by
  obtain ⟨rfl,rfl,rfl⟩:=trodAll_nil h
  rfl
 | [],_::_,h,_,_,_,_,_,_=>by cases h
 | _::_,[],h,_,_,_,_,_,_=>by cases h
 | T::ts,t::us,hty,vs,ds,ps,h,hlt,hsp=>by
  simp only [a4P,Bool.and_eq_true] at hty
  obtain ⟨⟨⟨⟨_,_⟩,h3⟩,h4⟩,h5⟩:=hty
  obtain ⟨v,vs',d,ds',p,q,rfl,rfl,rfl,hv,hr⟩:=trodAll_cons h
  refine trodAll_cons_mk (WideElems.Trod_stays hl h3 (of_decide_eq_true h4) hv (fun x hx=>hb.same (hlt x (by simp [hx]))) (fun x hx=>hsp x (by simp [hx]))) ?_
  exact a5J hl hb h5 hr (fun x hx=>hlt x (by simp [hx])) (fun x hx=>hsp x (by simp [hx]))

def b8E (us:List Ty) (pre:DK (us.map .v)→Prop):p7:={ ps:=us.map .v,rs:=[.bool],pre:=pre,fn:=fun _=>(true,()),out:=fun _=>c4q us }
where c4q:(us:List Ty)→DL (F3 (us.map .v))
 | []=>()
 | _::us=>c4q us

theorem b60:∀ us:List Ty,(us.map PK.v).any PK.lnk=false
 | []=>rfl
 | _::us=>b60 us

theorem c06 {C:Checked} {f:FuncId} {fn:Func} {s:ChangeSpec} {apart fresh handsOn again:Bool} {us:List Ty} {tb:TypeId} {pre:DK (us.map .v)→Prop}
  (hl:laidOutB C.prog=true) (hty:a4P C.prog fn.params.toList us=true) (hvars:s.vars=[]) (hs:∀ ds:List (DataW X),ds.length=fn.params.toList.length→s.fn X ds={ results:=[.lit (.bool true)],args:=ds })
  (hres:fn.resultTypes=#[tb]) (htb:C.prog.underlying tb=some .bool) (hv:(b8E us pre).Valid C.prog f)
  {W:World} (hgl:a0r C.prog W (fun b=>b<W.heap.size)) {base:Nat} {args:Array Value} {ds gs:List (DataW X)} {before:List MemPlace} {rr:Go.Reach} (hpre:∀ x,b2R us x≤a0a ds→pre x)
  (hval:∀ (j:Nat) t v,fn.params[j]?=some t→args[j]?=some v→Value.okWide C.prog W rr base t v) (hW:DataW.Whole enc C.prog fn.params.toList s.vars apart W args.toList ds gs before) :
  Calls C.prog f args W fun e W'=>∃ v,e=.returned v∧s.post enc C.prog fn apart fresh handsOn again W args v W':=by
 have hlt:=DataW.Whole.lt hW
 have hW':=hW
 obtain ⟨p,q,hA,hV,rfl,hz,hn⟩:=hW
 rw [hvars] at hV
 obtain ⟨rfl,rfl⟩:=trodVars_none hV
 simp only [List.append_nil] at hlt hz hn hW'
 obtain ⟨x,hx,hlen,hbk⟩:=a9o hty hA (fun j T v hT hv=>hval j T v (by simpa using hT) (by simpa using hv))
 have hc:=hv.run W (fun b=>b<W.heap.size) args.toList x [] (fun _ h=>h) hgl (hpre x hbk) hx (a1z (b60 us)) List.nodup_nil (by simp)
 refine Calls.mono (by simpa using hc) ?_
 rintro e w' ⟨us',O,Lo,S',rfl,hpast,_,_,⟨v,us2,O1,O2,cs,rfl,rfl,rfl,hR,hR2⟩,_,_,_⟩
 have hb:RowKit.Below W.heap.size W w':=⟨hpast.os,hpast.tape.1,hpast.out,hpast.size,fun k hk=>hpast.frame k hk (by simp)⟩
 obtain ⟨rfl,rfl⟩:=hR2
 obtain ⟨_,rfl⟩:=hR
 have hret:a3d [j7 .bool [.bool ((b8E us pre).fn x).1]]=.bool true:=rfl
 rw [hret]
 have hfn':=hs ds hlen
 have hargs:∀ sp:Nat→Bool,(∀ x∈p,sp x.block=true)→DataW.TrodAll enc C.prog w' 0 sp true fn.params.toList args.toList ds p:=fun sp hsp=>a5J hl hb hty hA hlt hsp
 have hrs:∀ (b:Nat) (sp:Nat→Bool) (hd:Bool),DataW.TrodAll enc C.prog w' b sp hd fn.resultTypes.toList ((Value.bool true).resultList fn.resultTypes.size) [.lit (.bool true)] []:=by
  intro b sp hd
  rw [hres]
  exact trodAll_cons_mk (shut_bool htb _) trodAll_mk0
 have hvs:∀ sp:Nat→Bool,DataW.TrodVars enc C.prog w' sp s.vars [] []:=by intro sp; rw [hvars]; rfl
 have hold:∀ x∈p,(fun b=>decide (b<W.heap.size)) x.block=true:=fun x hx=>by simpa using hlt x hx
 refine ⟨_,rfl,ds,[],p,[],p,[],hW',?_,?_,?_,?_,?_⟩
 ·rw [List.append_nil,hfn']; exact hrs _ _ _
 ·rw [List.append_nil,hfn']; exact hargs _ hold
 ·rw [List.append_nil,hfn']; exact hvs _
 ·exact hb.frame _
 ·intro _
  refine ⟨ok_one hres rfl (okWide_bool_mk htb _),.lit (.bool true)::ds,[],p,⟨[]++p,[],trodAll_append (hargs _ (fun _ _=>rfl)) (hrs _ _ _),hvs _,by simp,?_,?_⟩,fun x hx _=>by simpa using hx⟩
  ·intro b off hp
   rw [hb.frozen (hlt _ hp)]
   exact hz b off hp
  ·exact hn

end
end Go.Ex
