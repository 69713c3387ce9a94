import Derived.Test.YtijlnmgondibnaaGreatDoorExK8
import Derived.WalkKit
import Derived.ProofKit
import Derived.OpenShut
import Derived.JoinedCond
set_option linter.unusedVariables false
set_option linter.unusedSimpArgs false
set_option linter.unusedSectionVars false
namespace Go.Ex
def b0G {α:Type} (p:α->Prop) (l:List α):Prop:=∀ x∈l,p x
def F5:(t:Ty)->t.den->Prop
 | .int k,n=>r7 k n
 | .bool,_=>True
 | .str,s=>List.length s<=maxLen
 | .unit,_=>True
 | .fn _,_=>True
 | .hole _,_=>True
 | .w6 t,x=>List.length x.2.1<=maxLen/\b0G (F5 t) x.2.1
 | .map _ k v,x=>match x with
  | none=>True
  | some l=>b0G (λ p=>F5 k p.1/\F5 v p.2) l
 | .box _ _ t,x=>match x with
  | none=>True
  | some y=>F5 t y
 | .pair a b,x=>F5 a x.1/\F5 b x.2
 | .arr n t,l=>List.length l=n/\b0G (F5 t) l
 | .d0 _ t,l=>List.length l<=maxLen/\b0G (F5 t) l
def AV.F5:AV->Prop
 | .val t x=>Ex.F5 t x
 | .M4 t x=>Ex.F5 t x
 | _=>True
def b9g:List (Nat×AV)->Prop
 | []=>True
 | (_,v)::l=>v.F5/\b9g l
def a9R:List (Nat×g8)->Prop
 | []=>True
 | (_,.var t x)::l=>Ex.F5 t x/\a9R l
 | (_,.own t x)::l=>Ex.F5 t x/\a9R l
 | (_,.J0)::l=>a9R l
def St.F5 (s:St):Prop:=b9g s.fr/\a9R s.hp
def PK.F5:(k:PK)->k.den->Prop
 | .v t,x=>Ex.F5 t x
 | .rd t,x=>Ex.F5 t x
 | .B8 _ ts,x=>b8I ts x
 | .own t,x=>Ex.F5 t x
 | .rw t,x=>Ex.F5 t x
 | .mu t,x=>Ex.F5 (.d0 true t) x
 | .T3,_=>True
 | .Y6 _ _,_=>True
 | .el _,_=>True
where b8I:(ts:List Ty)->DL ts->Prop
 | [],_=>True
 | t::ts,x=>Ex.F5 t x.1/\b8I ts x.2
def b89:(ks:List PK)->DK ks->Prop
 | [],_=>True
 | k::ks,x=>k.F5 x.1/\b89 ks x.2
section
variable {E:Env} {B:D4} {S S':Nat->Prop} {ι:Ix} {s:St} {a:Act} {w:World} {hp:List (Nat×g8)} {H H':Array Go.Obj}
theorem i7.F5 {t:Ty} (hr:∀ {O:List Nat} {cs:List Value} {x:t.den},f8 H S t O cs x->Ex.F5 t x):∀ {l:List t.den} {O:List Nat} {cs:List Value},i7 (f8 H S t) t.size O cs l->b0G (Ex.F5 t) l
 | [],_,_,_=>by intro x hx; cases hx
 | x::l,_,_,⟨O1,O2,_,h1,h2⟩=>by
  intro y hy;rcases List.mem_cons.1 hy with rfl|hy
  ·exact hr h1
  ·exact i7.F5 hr h2 y hy
theorem N2.F5 {t u:Ty} (hr:∀ {cs:List Value} {x:t.den},f8 H S t [] cs x->Ex.F5 t x) (jC:∀ {cs:List Value} {x:u.den},f8 H S u [] cs x->Ex.F5 u x):∀ {es:List MapEntry} {l:List (t.den×u.den)},N2 (f8 H S t []) (f8 H S u []) t u es l->b0G (λ p=>Ex.F5 t p.1/\Ex.F5 u p.2) l
 | [],l,h=>by rw [show l=[] from h]; intro x hx; cases hx
 | e::es,l,⟨x,y,l',cs,ds,e1,_,h1,_,h2,h3⟩=>by
  rw [e1]; intro p hp;rcases List.mem_cons.1 hp with rfl|hp
  ·exact ⟨hr h1,jC h2⟩
  ·exact N2.F5 hr jC h3 p hp
theorem f8.F5:∀ {t:Ty} {O:List Nat} {cs:List Value} {x:t.den},f8 H S t O cs x->Ex.F5 t x:=by
 intro t
 induction t with
 | int k=>intro O cs x h; exact h.2.2
 | bool=>intro O cs x h; trivial
 | str=>intro O cs x h; exact h.2.2
 | fn f=>intro O cs x _; exact trivial
 | hole t _=>intro O cs x _; exact trivial
 | w6 t ih =>
  rintro O cs ⟨n,l,m⟩ h
  match n,h with
  | 0,h =>
   rcases h with ⟨_,_,h3⟩|⟨b,off,cap,O',c1,c2,c3,c4,c5,c6⟩
   ·subst h3; exact ⟨Nat.zero_le _,by intro x hx; cases hx⟩
   ·exact ⟨Nat.le_trans c2 c3.1,i7.F5 (λ h=>ih h) c5⟩
  | 1,h =>
   rcases h with ⟨_,_,h3⟩|⟨b,off,cap,O',c1,c2,c3,c4,c5,c6⟩
   ·subst h3; exact ⟨Nat.zero_le _,by intro x hx; cases hx⟩
   ·exact ⟨Nat.le_trans c2 c3.1,i7.F5 (λ h=>ih h) c5⟩
  | n+2,⟨b,off,O',c1,c2,c3,c4,c5⟩ =>
   have hr:=i7.F5 (λ h=>ih h) c4;exact ⟨by have:=c2.1; show List.length l<=maxLen; omega,λ x hx=>hr x (List.mem_append.2 (.inl hx))⟩
 | map o k v ihk ihv =>
  rintro O cs x (⟨rfl,_⟩|⟨l,b,es,ck,rfl,_,_,h4,_⟩)
  ·trivial
  ·exact N2.F5 (λ h=>ihk h) (λ h=>ihv h) h4
 | box o g t ih =>
  rintro O cs x (⟨rfl,_⟩|⟨y,b,off,O',rfl,_,_,h3,_⟩)
  ·trivial
  ·exact ih h3
 | unit=>intro O cs x h; trivial
 | pair a c iha ihc=>rintro O cs x ⟨O1,O2,_,h1,h2⟩; exact ⟨iha h1,ihc h2⟩
 | arr n t ih=>rintro O cs x ⟨h1,h2⟩; exact ⟨h1,i7.F5 (λ h=>ih h) h2⟩
 | d0 o t ih =>
  rintro O cs x h;rcases h with ⟨_,_,h3⟩|⟨b,off,cap,O',c1,c2,c3,c4,c5,c6⟩
  ·subst h3; exact ⟨Nat.zero_le _,by intro x hx; cases hx⟩
  ·exact ⟨Nat.le_trans c2 c3.1,i7.F5 (λ h=>ih h) c5⟩
theorem VX.F5 {v:AV} {vs:List Value} (h:VX H S ι hp v vs):v.F5:=by
 cases v<;>try trivial
 ·obtain ⟨cs,_,h⟩:=h; exact h.F5
 ·obtain ⟨b,off,_,_,_,h⟩:=h; exact h.F5
theorem RS.F5 (h:RS B S ι s a w) (h1:uniq s.fr) (h2:uniq s.hp):s.F5:=by
 have look_tail:∀ {α:Type} {n m:Nat} {x:α} {l:List (Nat×α)} {y:α},look m l=none->look n l=some y->look n ((m,x)::l)=some y:=by
  intro α n m x l y h1 h2;simp only [look];cases hb:Nat.beq n m with
  | true =>
   have:=Nat.eq_of_beq_eq_true hb;subst this;rw [h1] at h2; cases h2
  | false=>exact h2
 have fr:∀ l:List (Nat×AV),uniq l->(∀ t v,look t l=some v->v.F5)->b9g l:=by
  intro l
  induction l with
  | nil=>intro _ _; trivial
  | cons q l ih =>
   obtain ⟨n,v⟩:=q;rintro ⟨k0,k2⟩ k3;have k1:=a3T k0;exact ⟨k3 n v (by simp [look]),ih k2 (λ t v hv=>k3 t v (look_tail k1 hv))⟩
 have kG:∀ l:List (Nat×g8),uniq l->(∀ t e,look t l=some e->Ex.F5 e.ty e.x)->a9R l:=by
  intro l
  induction l with
  | nil=>intro _ _; trivial
  | cons q l ih =>
   obtain ⟨n,e⟩:=q;rintro ⟨k0,k2⟩ k3;have k1:=a3T k0;have h0:=k3 n e (by simp [look]);have h3:=ih k2 (λ t e he=>k3 t e (look_tail k1 he));cases e<;>first|exact ⟨h0,h3⟩|exact h3
 refine ⟨fr _ h1 (λ t v hv=>(h.fr t v hv).F5),kG _ h2 (λ i e he=>?_)⟩;have:=h.hs.ob i e he;cases e with
 | var t x=>obtain ⟨⟨O,_,hR⟩,_⟩:=this; exact hR.F5
 | own t x=>obtain ⟨⟨O,_,hR⟩,_⟩:=this; exact hR.F5
 | J0=>trivial
def D4.of (w:World) (S:Nat->Prop) (ps:List PK) (vs:List Value) (L:List Nat) (n:Nat) (gv:Value:=undef):D4:=⟨w,S,λ b=>b∈L,n,K0 ps vs 0,gv⟩
def GOk (gp:Option (List Step)) (gv:Value) (H:Array Go.Obj):(ps:List PK)->List Value->DL (F4 ps)->Prop
 | .rw t::_,vs,z=>(match gp,vs with
  | some p,.pointer (some ⟨b,off,none⟩)::_=>w5 t z.1 p/\∃ b' aq,w8 H t p b off=some (b',aq)/\gv=.pointer (some ⟨b',aq,none⟩)
  | _,_=>True)
 | _,_,_=>True
def c70 (P:Program) (w0:World) (S0:Nat->Prop) (L:List Nat):Prop:=a0v P w0 S0/\∀ b,S0 b->b<w0.heap.size/\¬ b∈L
def Reach (E:Env) (fn:Func) (y:DL E.rs) (z:DL (F4 E.ps)) (k:List Item) (s:St):Prop :=
 ∀ (w0:World) (S0:Nat->Prop) (vs:List Value) (x:DK E.ps) (L:List Nat) (gv:Value) (S:Nat->Prop) (ι:Ix) (a:Act) (w:World),c70 E.P w0 S0 L->R2 w0.heap S0 E.ps vs x L ->
  RS (D4.of w0 S0 E.ps vs L fn.ntmps gv) S ι s a w->At E.P fn (λ e w'=>a3e w0 S0 E.rs E.ps vs L y z e w'/\GOk E.gp gv w'.heap E.ps vs z) k a w
structure y7 (E:Env) (fn:Func):Prop where
 nt:fn.ntmps=E.nt
 res:fn.results.toList=E.res
theorem b7S:∀ {a b:List Ty} {x x':DL a} {y y':DL b},DL.app x y=DL.app x' y'->x=x'/\y=y'
 | [],_,_,_,_,_,h=>⟨rfl,h⟩
 | _::_,_,x,x',_,_,h=>by
  have h1:=congrArg Prod.fst h;have h2:=congrArg Prod.snd h;obtain ⟨h3,h4⟩:=b7S h2;exact ⟨Prod.ext h1 h3,h4⟩
theorem a6J {fn:Func} {w0:World} {S0:Nat->Prop} {vs:List Value} {x:DK E.ps} {L:List Nat} {gv:Value} (hE:C2 E (D4.of w0 S0 E.ps vs L fn.ntmps gv)) (hf:y7 E fn) {y:DL E.rs} {z:DL (F4 E.ps)} {L':Code->List Item->St->Prop} (ht:(finish E s).holds L' (·=DL.app y z)) (hK:R2 w0.heap S0 E.ps vs x L)
  (h:RS (D4.of w0 S0 E.ps vs L fn.ntmps gv) S ι s a w) (hG:a0J s E.ps 0=some z->GOk E.gp gv w.heap E.ps vs z) (e:Exit) (he:e=.normal\/e=.ret) :
  bodyPost E.P fn (λ e w'=>a3e w0 S0 E.rs E.ps vs L y z e w'/\GOk E.gp gv w'.heap E.ps vs z) e a w:=by
 unfold finish at ht;split at ht
 ·exact ht.elim
 ·rename_i l hl
  split at ht
  ·rename_i y' z' hy hz
   have ht:DL.app y' z'=DL.app y z:=ht;obtain ⟨rfl,rfl⟩:=b7S ht;obtain ⟨us,h1,h2⟩:=b6d hE h hf.res hl;obtain ⟨O,k1,k2,k3⟩:=a9A h.hs hy h2;obtain ⟨Lo,m1,m2,m3⟩:=a24 h.hs hK (λ q hq=>hq) hz;have hR:a3e w0 S0 E.rs E.ps vs L y' z' (.returned (a3t us)) w:=by
    refine ⟨us,O,Lo,S,rfl,⟨h.hs.os,h.hs.tape,h.hs.out,h.hs.size,λ c hc hL=>h.hs.frame c hc hL⟩,h.hs.s0,λ b hb=>?_,k1,m1,List.nodup_append.2 ⟨k2,m2,?_⟩,λ b hb=>?_⟩
    ·rcases h.hs.s1 b hb with h1|h1
     ·exact .inl h1
     ·exact .inr ⟨h1,h.hs.slt b hb⟩
    ·rintro c hc d hd rfl
     obtain ⟨i,e,i0,ip,i1,i2⟩:=k3 c hc;obtain ⟨j,e',j0,j1,j2⟩:=m3 c hd;refine h.hs.dj i j e e' i1 j1 ?_ c i2 j2;rintro rfl;have:pinned i=true:=by simp only [pinned,Nat.ble_eq]; omega
     rw [ip] at this; cases this
    ·have:∃ i e,look i s.hp=some e/\b∈l6 ι i e:=by
      rcases List.mem_append.1 hb with hb|hb
      ·obtain ⟨i,e,_,_,n2,n3⟩:=k3 b hb; exact ⟨i,e,n2,n3⟩
      ·obtain ⟨i,e,_,n2,n3⟩:=m3 b hb; exact ⟨i,e,n2,n3⟩
     obtain ⟨i,e,n2,n3⟩:=this;exact h.hs.bl i e n2 b n3
   rcases he with rfl|rfl
   ·exact ⟨h.dfr,_,h1,hR,hG hz⟩
   ·exact ⟨h.dfr,_,h1,hR,hG hz⟩
  ·exact ht.elim
theorem c4h {gv:Value} {H:Array Go.Obj}:∀ {ps:List PK} {vs:List Value} {z:DL (F4 ps)},GOk none gv H ps vs z
 | [],_,_=>trivial
 | k::_,_,_=>by cases k<;>trivial
theorem gok {H0:Array Go.Obj} {S0:Nat->Prop} {gv:Value} {p:List Step}:∀ {ps:List PK} {vs:List Value} {x:DK ps} {L:List Nat} {z:DL (F4 ps)},R2 H0 S0 ps vs x L->a0J s ps 0=some z->(∀ q∈K0 ps vs 0,ι.root q.1=q.2.1)->VX H S ι s.hp (.ptr 2000000 p) [gv]->GOk (some p) gv H ps vs z
 | [],_,_,_,_,_,_,_,_=>trivial
 | k::ps,vs,x,L,z,⟨v,us,L1,L2,e1,_,hk,_⟩,hz,hp,hv=>by
  cases k with
  | rw t =>
   obtain ⟨b,off,O,rfl,_,_,_⟩:=hk;subst e1;have hr:ι.root 2000000=(b,off):=hp (2000000,(b,off),[]) (by simp [K0]);obtain ⟨e,b',aq,k1,k2,k3,k4⟩:=hv;unfold a0J at hz;split at hz
   ·rename_i u x0 y0 ho hy
    have ho:look 2000000 s.hp=some (.var u x0):=ho;rw [k1] at ho; cases ho;split at hz
    ·rename_i hu
     subst hu;cases hz;obtain ⟨p1,_⟩:=B0 k3;have p1:w8 H u p (ι.root 2000000).1 (ι.root 2000000).2=some (b',aq):=p1;rw [hr] at p1;exact ⟨k2,b',aq,p1,by simpa using k4⟩
    ·cases hz
   ·cases hz
  | _=>trivial
theorem a6a {fn:Func} {w0:World} {S0:Nat->Prop} {vs:List Value} {x:DK E.ps} {L:List Nat} {gv:Value} (hE:C2 E (D4.of w0 S0 E.ps vs L fn.ntmps gv)) (hf:y7 E fn) {y:DL E.rs} {z:DL (F4 E.ps)} {L':Code->List Item->St->Prop} (ht:(b0U E s).holds L' (·=DL.app y z)) (hK:R2 w0.heap S0 E.ps vs x L)
  (h:RS (D4.of w0 S0 E.ps vs L fn.ntmps gv) S ι s a w) (e:Exit) (he:e=.normal\/e=.ret) :
  bodyPost E.P fn (λ e w'=>a3e w0 S0 E.rs E.ps vs L y z e w'/\GOk E.gp gv w'.heap E.ps vs z) e a w:=by
 unfold b0U at ht;split at ht
 ·rename_i eA
  exact a6J hE hf ht hK h (λ _=>by rw [eA]; exact c4h) e he
 ·rename_i p eA
  split at ht
  ·rename_i i q hl
   obtain ⟨⟨rfl,rfl,qG⟩,ht⟩:=ht;have ht:=ht ⟨rfl,rfl,qG⟩;refine a6J hE hf ht hK h (λ hz=>?_) e he;rw [eA];refine gok (S:=S) (ι:=ι) hK hz (λ q hq=>(h.hs.pin q hq).2.2.1) ?_;have hv:=h.fr H7 _ hl;have bn:¬ H7<a.tmps.size:=by rw [h.sz]; show ¬ H7<fn.ntmps; rw [hf.nt]; omega
   have:a.tmps.getD H7 (D4.gd (D4.of w0 S0 E.ps vs L fn.ntmps gv) H7)=gv:=by
    rw [Array.getD_eq_getD_getElem?,Array.getElem?_eq_none (by omega)];rfl
   rw [this] at hv;exact hv
  ·exact ht.elim
theorem j6 {rs:List Ty} {L:Code->List Item->St->Prop} {R:DL rs->Prop} {b:Bool} {t e:Tree rs}:(cond b t e).holds L R↔(b=true->t.holds L R)/\(b=false->e.holds L R):=by
 cases b<;>simp
theorem a0a:∀ {ks:List PK} {H:Array Go.Obj} {S:Nat->Prop} {vs:List Value} {x:DK ks} {L:List Nat},ks.any PK.l5=false->R2 H S ks vs x L->L=[]
 | [],_,_,_,_,_,_,h=>h.2
 | k::ks,_,_,_,_,_,hp,⟨v,us,L1,L2,_,e,h1,h2⟩=>by
  rw [List.any_cons,Bool.or_eq_false_iff] at hp;have e2:=a0a hp.2 h2;have e1:L1=[]:=by
   cases k<;>first|(exfalso; simp [PK.l5] at hp; done)|exact h1.1|exact h1
  rw [e,e1,e2]; rfl
theorem j5 (hE:u6 E) {fn:Func} (hf:y7 E fn) {y:DL E.rs} {z:DL (F4 E.ps)}:∀ {n:Nat} {k:List Item} {s:St},(exec E n k s).holds (λ c k s=>Reach E fn y z (.code c::.inLoop c::k) s) (·=DL.app y z)->Reach E fn y z k s
 | 0,k,s,ht=>ht.elim
 | n+1,k,s,ht=>by
  intro w0 S0 vs x L gv S ι a w ew hK h;have hB:C2 E (D4.of w0 S0 E.ps vs L fn.ntmps gv):=⟨hE,ew⟩;unfold exec at ht;split at ht
  ·obtain ⟨S2,ι2,h2⟩:=V8 (E:=E) (l:=a3u E.res E.rs) (λ hp b hb=>by have hb:b∈L:=hb; rw [a0a hp hK] at hb; cases hb) h
   exact At.done (a6a hB hf ht hK h2 _ (.inl rfl))
  ·refine At.step (λ b cs=>step_inBlock) ?_
   exact j5 hE hf ht w0 S0 vs x L gv S ι a w ew hK h
  ·rename_i c k'
   refine At.step (λ b cs=>step_inLoop) ?_;obtain ⟨S2,ι2,h2⟩:=V8 (E:=E) (l:=(look (M5 c) E.y5).getD []) (λ hp b hb=>by have hb:b∈L:=hb; rw [a0a hp hK] at hb; cases hb) h;obtain ⟨ι',h'⟩:=h2.canon ((look (M5 c) E.y5).getD []);exact ht w0 S0 vs x L gv S2 ι' a w ew hK h'
  ·rename_i c k'
   split at ht
   ·exact At.step (λ b cs=>step_skip) (j5 hE hf ht w0 S0 vs x L gv S ι a w ew hK h)
   ·exact At.step (λ b cs=>step_seq) (j5 hE hf ht w0 S0 vs x L gv S ι a w ew hK h)
   ·rename_i xc c1 c2
    split at ht
    ·rename_i g hg
     have cC:=VX.a2c (x8 h hg);refine At.step (λ b cs=>step_cond cC) ?_;cases g with
     | true=>exact j5 hE hf ht w0 S0 vs x L gv S ι a w ew hK h
     | false=>exact j5 hE hf ht w0 S0 vs x L gv S ι a w ew hK h
    ·exact ht.elim
   ·exact At.step (λ b cs=>step_block) (j5 hE hf ht w0 S0 vs x L gv S ι a w ew hK h)
   ·rename_i c'
    obtain ⟨S2,ι2,h2⟩:=V8 (E:=E) (l:=(look (M5 c') E.y5).getD []) (λ hp b hb=>by have hb:b∈L:=hb; rw [a0a hp hK] at hb; cases hb) h;obtain ⟨ι',h'⟩:=h2.canon ((look (M5 c') E.y5).getD []);exact At.step (λ b cs=>step_loop) (ht w0 S0 vs x L gv S2 ι' a w ew hK h')
   ·split at ht
    ·rename_i k2 hx
     exact At.step (λ b cs=>step_exit hx) (j5 hE hf ht w0 S0 vs x L gv S ι a w ew hK h)
    ·exact ht.elim
   ·obtain ⟨S2,ι2,h2⟩:=V8 (E:=E) (l:=a3u E.res E.rs) (λ hp b hb=>by have hb:b∈L:=hb; rw [a0a hp hK] at hb; cases hb) h
    exact At.ret (a6a hB hf ht hK h2 _ (.inr rfl))
   ·rename_i id ops draw
    split at ht
    ·obtain ⟨S,ι,h⟩:=a9D (E:=E) (λ hp b hb=>by have hb:b∈L:=hb; rw [a0a hp hK] at hb; cases hb) h ops
     refine At.region (wp_region_list ?_);exact U0 hB (by exact hf.nt) (λ hp b hb=>by have hb:b∈L:=hb; rw [a0a hp hK] at hb; cases hb) (m:=0) (l:=ops.toList) (Q:=λ e a w=>e=.normal/\At E.P fn (λ e w'=>a3e w0 S0 E.rs E.ps vs L y z e w'/\GOk E.gp gv w'.heap E.ps vs z) k' a w) (λ S' ι' s' a' w' h1 h2=>⟨rfl,j5 hE hf h2 w0 S0 vs x L gv S' ι' a' w' ew hK h1⟩) h ht
    ·skip
     obtain ⟨S,ι,h⟩:=b8K (E:=E) (λ hp b hb=>by have hb:b∈L:=hb; rw [a0a hp hK] at hb; cases hb) h ops;generalize b0N E ops s=s at h ht;split at ht
     ·rename_i hd
      obtain ⟨s',h1,h2⟩:=a6v (cQ:=[]) rfl (by simp) ht;exact At.region (b4q hB (by exact hf.nt) hd h1 (λ S' ι' a' w' h3=>⟨rfl,j5 hE hf h2 w0 S0 vs x L gv S' ι' a' w' ew hK h3⟩) h.Q7)
     ·split at ht
      ·rename_i hd
       obtain ⟨s',h1,h2⟩:=a6v (cQ:=[]) rfl (by simp) ht;exact At.region (b2Y hB (by exact hf.nt) hd h1 (λ S' ι' a' w' h3=>⟨rfl,j5 hE hf h2 w0 S0 vs x L gv S' ι' a' w' ew hK h3⟩) h.Q7)
      ·exact ht.elim
   ·exact ht.elim
  ·exact ht.elim
theorem Tree.holds.mono {rs:List Ty} {L L':Code->List Item->St->Prop} {R:DL rs->Prop}:∀ {t:Tree rs},t.holds L R->(∀ c k s,L c k s->L' c k s)->t.holds L' R
 | .f6 _ _,h,hl=>⟨h.1,λ hp=>(h.2 hp).mono hl⟩
 | .both _ _ _,h,hl=>⟨λ hp=>(h.1 hp).mono hl,h.2.mono hl⟩
 | .cut c k s,h,hl=>hl c k s h
 | .ret _,h,_=>h
 | .stuck _,h,_=>h
theorem Reach.loop (hE:u6 E) {fn:Func} (hf:y7 E fn) {y:DL E.rs} {z:DL (F4 E.ps)} {c:Code} {k:List Item} {α:Type} (mk:α->St) (I:α->Prop) (μ:α->Nat) (n:Nat) (hu:∀ x,uniq (mk x).fr/\uniq (mk x).hp)
  (h:∀ x,I x->(mk x).F5->(exec E n (.code c::.inLoop c::k) (mk x)).holds (λ c' k' s'=>(c'=c/\k'=k/\∃ x',s'=mk x'/\I x'/\μ x'<μ x)\/Reach E fn y z (.code c'::.inLoop c'::k') s') (·=DL.app y z)) :
  ∀ x,I x->Reach E fn y z (.code c::.inLoop c::k) (mk x):=by
 have key:∀ m x,μ x=m->I x->Reach E fn y z (.code c::.inLoop c::k) (mk x):=by
  intro m
  induction m using Nat.strongRecOn with
  | _ m ih =>
   intro x hm hI w0 S0 vs x0 L gv S ι a w ew hK cR;have hx:=h x hI (cR.F5 (hu x).1 (hu x).2);refine j5 hE hf (hx.mono ?_) w0 S0 vs x0 L gv S ι a w ew hK cR;rintro c' k' s' (⟨rfl,rfl,x',rfl,h1,h2⟩|h1)
   ·exact ih (μ x') (hm▸h2) x' rfl h1
   ·exact h1
 exact λ x hI=>key (μ x) x rfl hI
end
end Go.Ex
namespace Go.Ex
section
variable {E:Env} {B:D4} {S S':Nat->Prop} {ι:Ix} {s:St} {a:Act} {w:World} {hp:List (Nat×g8)} {H H':Array Go.Obj}
theorem VX.has {v:AV} {i:Nat}:∀ {vs:List Value},VX H S ι hp v vs->v.i6 i=true->∃ e,look i hp=some e:=by
 induction v with
 | cons a b iha ihb =>
  rintro vs ⟨v,us,_,ha,hb⟩ hm;simp only [AV.i6,Bool.or_eq_true] at hm;exact hm.elim (iha ha) (ihb hb)
 | J8 l ih=>rintro vs ⟨us,_,h⟩ hm; exact ih h hm
 | B8 f l ih=>rintro vs ⟨us,_,h⟩ hm; exact ih h hm
 | bx l ih=>rintro vs ⟨_,_,u,_,_,_,_,h⟩ hm; exact ih h hm
 | rc f l ih=>rintro vs ⟨_,_,u,_,_,_,_,h⟩ hm; exact ih h hm
 | ptr j p=>rintro vs ⟨e,_,_,h1,_⟩ hm; have:=Nat.eq_of_beq_eq_true hm; subst this; exact ⟨e,h1⟩
 | at_ j p=>rintro vs ⟨e,_,_,_,h1,_⟩ hm; have:=Nat.eq_of_beq_eq_true hm; subst this; exact ⟨e,h1⟩
 | sub j p a b=>rintro vs ⟨e,_,h1,_⟩ hm; have:=Nat.eq_of_beq_eq_true hm; subst this; exact ⟨e,h1⟩
 | _=>intro vs _ hm; cases hm
structure b58 (B:D4) (S:Nat->Prop) (w:World) (ks:List PK) (vs:List Value) (x:DK ks) (L:List Nat) (i:Nat) (ι:Ix):Prop where
 hs:HS B S ι (D9 ks x i) w
 fr:∀ t v,look t (T7 ks x i)=some v->i<=t/\∃ val,vs[t - i]?=some val/\VX w.heap S ι (D9 ks x i) v [val]
 pins:∀ q∈K0 ks vs i,pinned q.1=true/\(∃ e,look q.1 (D9 ks x i)=some e)/\ι.root q.1=q.2.1/\ι.cells q.1=q.2.2
 keys:∀ k e,look k (D9 ks x i)=some e->∃ m,i<=m/\m<1000/\(k=1500000+m\/k=2000000+m)
 own:∀ k e,look k (D9 ks x i)=some e->∀ b∈l6 ι k e,b∈L
 rest:∀ k,look k (D9 ks x i)=none->ι.root k=(0,0)/\ι.cells k=[]
theorem c2m (hB:B.pins=[]) (hw:B.w0=w) (ew:B.S0=S) (hS:∀ b,S b->b<w.heap.size):∀ {ks:List PK} {vs:List Value} {x:DK ks} {L:List Nat} {i:Nat},R2 w.heap S ks vs x L->L.Nodup->(∀ b∈L,¬ S b/\B.M b/\b<w.heap.size)->i+ks.length<=1000->∃ ι,b58 B S w ks vs x L i ι
 | [],vs,x,L,i,hK,_,_,_=>by
  refine ⟨⟨λ _=>(0,0),λ _=>[],λ _=>[]⟩,⟨?_,?_,?_,?_,?_,λ k _=>⟨rfl,rfl⟩⟩⟩
  ·subst hw
   subst ew;refine ⟨rfl,.refl _,rfl,Nat.le_refl _,λ _ _ _=>rfl,hS,λ _ h=>h,λ b hb=>.inl hb,?_,?_,?_,?_⟩
   ·intro i e hi; cases hi
   ·intro i e hi; cases hi
   ·intro i j ei ej hi; cases hi
   ·intro q hq; rw [hB] at hq; cases hq
  ·intro t v h; cases h
  ·intro q hq; simp [K0] at hq
  ·intro k e h; cases h
  ·intro k e h; cases h
 | k::ks,vs,x,L,i,⟨v,us,L1,L2,e1,e2,hk,hK⟩,hn,hL,hi=>by
  subst e1 e2;have kJ:=List.nodup_append.1 hn;obtain ⟨ι,hb⟩:=c2m (i:=i+1) hB hw ew hS hK kJ.2.1 (λ b hb=>hL b (by simp [hb])) (by simp only [List.length_cons] at hi; omega);simp only [List.length_cons] at hi;have plain:∀ {v0:AV},T7 (k::ks) x i=(i,v0)::T7 ks x.2 (i+1)->D9 (k::ks) x i=D9 ks x.2 (i+1)->K0 (k::ks) (v::us) i=K0 ks us (i+1)->VX w.heap S ι (D9 ks x.2 (i+1)) v0 [v]->∃ ι,b58 B S w (k::ks) (v::us) x (L1++L2) i ι:=by
   intro v0 h1 h2 h3 h4;refine ⟨ι,by rw [h2]; exact hb.hs,?_,by rw [h3,h2]; exact hb.pins,?_,?_,by rw [h2]; exact hb.rest⟩
   ·intro t u hu
    rw [h1] at hu;simp only [look] at hu;rw [h2];cases kg:Nat.beq t i with
    | true =>
     rw [kg] at hu;have:=Nat.eq_of_beq_eq_true kg;subst this;cases hu;exact ⟨Nat.le_refl _,v,by simp,h4⟩
    | false =>
     rw [kg] at hu;obtain ⟨k1,val,k2,k3⟩:=hb.fr t u hu;refine ⟨by omega,val,?_,k3⟩;rw [show t - i=(t - (i+1))+1 from by omega];simpa using k2
   ·intro q e hq
    rw [h2] at hq;obtain ⟨m,m1,m2,m3⟩:=hb.keys q e hq;exact ⟨m,by omega,m2,m3⟩
   ·intro q e hq b dL
    rw [h2] at hq;exact List.mem_append_right _ (hb.own q e hq b dL)
  have obj:∀ {v0:AV} {d:Nat} {e:g8} {ι':Ix},T7 (k::ks) x i=(i,v0)::T7 ks x.2 (i+1)->D9 (k::ks) x i=Ex.put d e (D9 ks x.2 (i+1))->(d=1500000+i\/d=2000000+i) ->
    (∀ q∈K0 (k::ks) (v::us) i,q∈K0 ks us (i+1)\/(pinned q.1=true/\q.1=d/\ι'.root d=q.2.1/\ι'.cells d=q.2.2))->(∀ j,j≠d->E0 ι ι' j)->OB w.heap S ι' d e->(∀ b∈l6 ι' d e,b∈L1) ->
    VX w.heap S ι' (Ex.put d e (D9 ks x.2 (i+1))) v0 [v]->∃ ι,b58 B S w (k::ks) (v::us) x (L1++L2) i ι:=by
   intro v0 d e ι' h1 h2 hd h3 hs aX bI h4;have ec:look d (D9 ks x.2 (i+1))=none:=by
    cases eQ:look d (D9 ks x.2 (i+1)) with
    | none=>rfl
    | some e'=>exfalso; obtain ⟨m,m1,m2,m3⟩:=hb.keys d e' eQ; omega
   have hF:C9 B S ι (D9 ks x.2 (i+1)) w L1:=by
    refine ⟨kJ.1,λ b dL=>?_⟩;obtain ⟨l1,l2,l3⟩:=hL b (by simp [dL]);exact ⟨l1,.inr l2,l3,λ j ej hj ik=>kJ.2.2 b dL b (hb.own j ej hj b ik) rfl⟩
   have fT:∀ {u:AV} {us':List Value},VX w.heap S ι (D9 ks x.2 (i+1)) u us'->u.i6 d=false:=by
    intro u us' hu;cases hm:u.i6 d with
    | false=>rfl
    | true=>obtain ⟨e',dR⟩:=hu.has hm; rw [ec] at dR; cases dR
   refine ⟨ι',by rw [h2]; exact hb.hs.add ec hs aX bI hF,?_,?_,?_,?_,?_⟩
   ·intro t u hu
    rw [h1] at hu;simp only [look] at hu;rw [h2];cases kg:Nat.beq t i with
    | true =>
     rw [kg] at hu;have:=Nat.eq_of_beq_eq_true kg;subst this;cases hu;exact ⟨Nat.le_refl _,v,by simp,h4⟩
    | false =>
     rw [kg] at hu;obtain ⟨k1,val,k2,k3⟩:=hb.fr t u hu;refine ⟨by omega,val,?_,VX.add hs (fT k3) k3⟩;rw [show t - i=(t - (i+1))+1 from by omega];simpa using k2
   ·intro q hq
    rw [h2];rcases h3 q hq with hq|⟨q1,q2,q3,q4⟩
    ·obtain ⟨r1,⟨e',r2⟩,r3,r4⟩:=hb.pins q hq
     have bK:q.1≠d:=by intro iZ; rw [iZ,ec] at r2; cases r2
     obtain ⟨s1,s2,s3⟩:=hs q.1 bK;exact ⟨r1,⟨e',by rw [o7,if_neg bK]; exact r2⟩,s1.trans r3,s2.trans r4⟩
    ·exact ⟨q1,⟨e,by rw [o7,if_pos q2]⟩,by rw [q2]; exact q3,by rw [q2]; exact q4⟩
   ·intro q e' hq
    rw [h2,o7] at hq;split at hq
    ·rename_i iZ; exact ⟨i,Nat.le_refl _,by omega,by omega⟩
    ·obtain ⟨m,m1,m2,m3⟩:=hb.keys q e' hq
     exact ⟨m,by omega,m2,m3⟩
   ·intro q e' hq b dL
    rw [h2,o7] at hq;split at hq
    ·rename_i iZ; subst iZ; cases hq; exact List.mem_append_left _ (bI b dL)
    ·rename_i iZ
     rw [(hs q iZ).l6] at dL;exact List.mem_append_right _ (hb.own q e' hq b dL)
   ·intro q hq
    rw [h2,o7] at hq;split at hq
    ·cases hq
    ·rename_i iZ
     obtain ⟨s1,s2,s3⟩:=hs q iZ;obtain ⟨r1,r2⟩:=hb.rest q hq;exact ⟨s1.trans r1,s2.trans r2⟩
  have iY:∀ d,d=1500000+i\/d=2000000+i->ι.root d=(0,0)/\ι.cells d=[]:=by
   intro d hd;refine hb.rest d ?_;cases eQ:look d (D9 ks x.2 (i+1)) with
   | none=>rfl
   | some e'=>exfalso; obtain ⟨m,m1,m2,m3⟩:=hb.keys d e' eQ; omega
  cases k with
  | v t=>obtain ⟨_,cs,e1,hR⟩:=hk; exact plain rfl rfl rfl ⟨cs,by rw [e1],hR⟩
  | T3=>exact plain rfl rfl rfl (by rw [hk.2]; rfl)
  | Y6 f n=>exact plain rfl rfl rfl ⟨_,rfl⟩
  | el q=>exact plain rfl rfl rfl ⟨_,rfl⟩
  | rd t=>obtain ⟨_,b,off,e1,k1,k2,k3⟩:=hk; exact plain rfl rfl rfl ⟨b,off,by rw [e1],k1,k2,k3⟩
  | B8 f ts =>
   obtain ⟨_,ws,e1,hl⟩:=hk;refine plain rfl rfl rfl ⟨ws,by rw [e1],?_⟩;have:∀ {ts:List Ty} {ws:List Value} {y:DL ts},RdL w.heap S ts ws y->VX w.heap S ι (D9 ks x.2 (i+1)) (T7.rdA ts y) ws:=by
    intro ts
    induction ts with
    | nil=>intro ws y h; exact h
    | cons t ts ih =>
     rintro ws y ⟨v,us,e,⟨b,off,e1,k1,k2,k3⟩,hl⟩;exact ⟨v,us,e,⟨b,off,by rw [e1],k1,k2,k3⟩,ih hl⟩
   exact this hl
  | own t =>
   obtain ⟨cs,rfl,hR⟩:=hk;refine obj (d:=1500000+i) (e:=.own t x.1) (ι':=ι.R6 (1500000+i) cs L1) rfl rfl (.inl rfl) (λ q hq=>.inl hq) (λ j hj=>a2f hj _ _) ⟨⟨L1,by simp [Ix.R6],by simpa [Ix.R6] using hR⟩,by simpa [Ix.R6] using kJ.1⟩ ?_ (a4X hR.length);intro b hb; simpa [l6,Ix.R6] using hb
  | rw t =>
   obtain ⟨b,off,O,rfl,hR,hf,rfl⟩:=hk;refine obj (d:=2000000+i) (e:=.var t x.1) (ι':=ι.Q6 (2000000+i) (b,off) O) rfl rfl (.inr rfl) ?_ (λ j hj=>a4i hj _ _) ⟨⟨O,by simp [Ix.Q6],by simpa [Ix.Q6] using hR⟩,by simpa [Ix.Q6] using hf,by simpa [Ix.Q6] using kJ.1⟩ ?_
    (b0L (s:=⟨[],D9 ks x.2 (i+1)⟩) (r:=(b,off)) (o:=O) hf.lt)
   ·intro q hq
    simp only [K0,List.mem_cons] at hq;rcases hq with rfl|hq
    ·exact .inr ⟨by simp only [pinned,Nat.ble_eq]; omega,rfl,by simp [Ix.Q6],by simpa [Ix.Q6] using (iY (2000000+i) (.inr rfl)).2⟩
    ·exact .inl hq
   ·intro c hc; simpa [l6,Ix.Q6] using hc
  | mu t =>
   obtain ⟨cs,rfl,hR⟩:=hk;have hcs:cs=[j9 (.d0 true t) cs]:=by
    have:=hR.length
    match cs,this with
    | [c],_=>rfl
   refine obj (d:=2000000+i) (e:=.own (.d0 true t) x.1) (ι':=ι.R6 (2000000+i) cs L1) rfl rfl (.inr rfl) ?_ (λ j hj=>a2f hj _ _) ⟨⟨L1,by simp [Ix.R6],by simpa [Ix.R6] using hR⟩,by simpa [Ix.R6] using kJ.1⟩ ?_ (a4X hR.length)
   ·intro q hq
    simp only [K0,List.mem_cons] at hq;rcases hq with rfl|hq
    ·exact .inr ⟨by simp only [pinned,Nat.ble_eq]; omega,rfl,by simpa [Ix.R6] using (iY (2000000+i) (.inr rfl)).1,by simpa [Ix.R6] using hcs⟩
    ·exact .inl hq
   ·intro b hb; simpa [l6,Ix.R6] using hb
theorem c1C:∀ {ks:List PK} {vs:List Value} {x:DK ks} {L:List Nat},R2 H S ks vs x L->b89 ks x
 | [],_,_,_,_=>trivial
 | k::ks,vs,x,L,⟨v1,us,L1,L2,e,_,h1,h2⟩=>by
  refine ⟨?_,c1C h2⟩;cases k with
  | v t=>obtain ⟨_,cs,e1,hR⟩:=h1; exact hR.F5
  | rd t=>obtain ⟨_,b,off,e1,k1,k2,k3⟩:=h1; exact k3.F5
  | own t=>obtain ⟨cs,e1,hR⟩:=h1; exact hR.F5
  | rw t=>obtain ⟨b,off,O,e1,hR,_⟩:=h1; exact hR.F5
  | mu t=>obtain ⟨cs,e1,hR⟩:=h1; exact hR.F5
  | T3=>trivial
  | Y6 f n=>trivial
  | el q=>trivial
  | B8 f ts =>
   obtain ⟨_,ws,e1,hl⟩:=h1;have:∀ {ts:List Ty} {ws:List Value} {y:DL ts},RdL H S ts ws y->PK.F5.b8I ts y:=by
    intro ts
    induction ts with
    | nil=>intro ws y h; trivial
    | cons t ts ih =>
     rintro ws y ⟨v,us,e,⟨b,off,e1,k1,k2,k3⟩,hl⟩;exact ⟨k3.F5,ih hl⟩
   exact this hl
theorem c1D:∀ {ks:List PK} {vs:List Value} {x:DK ks} {L:List Nat},R2 H S ks vs x L->vs.length=ks.length
 | [],_,_,_,h=>by rw [h.1]; rfl
 | k::ks,vs,x,L,⟨v1,us,L1,L2,e,_,_,h2⟩=>by rw [e]; simp [c1D h2]
theorem a8m:∀ {ks:List PK} {x:DK ks} {i k:Nat} {e:g8},look k (D9 ks x i)=some e->∃ m,i<=m/\m<i+ks.length/\(k=1500000+m\/k=2000000+m)
 | [],_,_,_,_,h=>by cases h
 | k0::ks,x,i,k,e,h=>by
  have rest:look k (D9 ks x.2 (i+1))=some e->∃ m,i<=m/\m<i+(k0::ks).length/\(k=1500000+m\/k=2000000+m):=by
   intro h;obtain ⟨m,h1,h2,h3⟩:=a8m h;exact ⟨m,by omega,by simp only [List.length_cons]; omega,h3⟩
  have put_:∀ {d:Nat} {e0:g8},(d=1500000+i\/d=2000000+i)->look k (Ex.put d e0 (D9 ks x.2 (i+1)))=some e->∃ m,i<=m/\m<i+(k0::ks).length/\(k=1500000+m\/k=2000000+m):=by
   intro d e0 hd h;rw [o7] at h;split at h
   ·rename_i hk; subst hk; exact ⟨i,Nat.le_refl _,by simp only [List.length_cons]; omega,hd⟩
   ·exact rest h
  cases k0 with
  | own t=>exact put_ (.inl rfl) h
  | rw t=>exact put_ (.inr rfl) h
  | mu t=>exact put_ (.inr rfl) h
  | _=>exact rest h
def a2U (hp:List (Nat×g8)) (ι:Ix):(ks:List PK)->List Value->DK ks->Nat->Prop
 | [],_,_,_=>True
 | .rw t::ks,vs,x,i=>(look (2000000+i) hp=some (.var t x.1)/\∃ us,vs=.pointer (some ⟨(ι.root (2000000+i)).1,(ι.root (2000000+i)).2,none⟩)::us)/\a2U hp ι ks (vs.drop 1) x.2 (i+1)
 | .v _::ks,vs,x,i=>a2U hp ι ks (vs.drop 1) x.2 (i+1)
 | .rd _::ks,vs,x,i=>a2U hp ι ks (vs.drop 1) x.2 (i+1)
 | .B8 _ _::ks,vs,x,i=>a2U hp ι ks (vs.drop 1) x.2 (i+1)
 | .own _::ks,vs,x,i=>a2U hp ι ks (vs.drop 1) x.2 (i+1)
 | .mu _::ks,vs,x,i=>a2U hp ι ks (vs.drop 1) x.2 (i+1)
 | .T3::ks,vs,x,i=>a2U hp ι ks (vs.drop 1) x.2 (i+1)
 | .Y6 _ _::ks,vs,x,i=>a2U hp ι ks (vs.drop 1) x.2 (i+1)
 | .el _::ks,vs,x,i=>a2U hp ι ks (vs.drop 1) x.2 (i+1)
theorem a2g:∀ {ks:List PK} {vs:List Value} {x:DK ks} {L:List Nat} {i:Nat},R2 H S ks vs x L->i+ks.length<=1000->(∀ k e,look k (D9 ks x i)=some e->look k hp=some e)->(∀ q∈K0 ks vs i,ι.root q.1=q.2.1)->a2U hp ι ks vs x i
 | [],_,_,_,_,_,_,_,_=>trivial
 | k::ks,vs,x,L,i,⟨v,us,L1,L2,e1,_,hk,hK⟩,hi,hh,eO=>by
  subst e1;simp only [List.length_cons] at hi;have sub:∀ {d:Nat} {e0:g8},(d=1500000+i\/d=2000000+i)->(∀ k e,look k (Ex.put d e0 (D9 ks x.2 (i+1)))=some e->look k hp=some e)->∀ k e,look k (D9 ks x.2 (i+1))=some e->look k hp=some e:=by
   intro d e0 hd hh k e h;refine hh k e ?_;rw [o7,if_neg]
   ·exact h
   ·rintro rfl
    obtain ⟨m,h1,h2,h3⟩:=a8m h;omega
  cases k with
  | rw t =>
   obtain ⟨b,off,O,rfl,_,_,_⟩:=hk;have hr:ι.root (2000000+i)=(b,off):=eO (2000000+i,(b,off),[]) (by simp [K0]);refine ⟨⟨hh _ _ (by simp only [D9]; rw [o7,if_pos rfl]),us,by rw [hr]⟩,a2g hK (by omega) (sub (.inr rfl) hh) (λ q hq=>eO q (by simp only [K0]; exact List.mem_cons_of_mem _ hq))⟩
  | own t=>exact a2g (ks:=ks) hK (by omega) (sub (.inl rfl) hh) (λ q hq=>eO q hq)
  | mu t=>exact a2g (ks:=ks) hK (by omega) (sub (.inr rfl) hh) (λ q hq=>eO q (by simp only [K0]; exact List.mem_cons_of_mem _ hq))
  | v t=>exact a2g (ks:=ks) hK (by omega) hh (λ q hq=>eO q hq)
  | rd t=>exact a2g (ks:=ks) hK (by omega) hh (λ q hq=>eO q hq)
  | B8 f ts=>exact a2g (ks:=ks) hK (by omega) hh (λ q hq=>eO q hq)
  | T3=>exact a2g (ks:=ks) hK (by omega) hh (λ q hq=>eO q hq)
  | Y6 f n=>exact a2g (ks:=ks) hK (by omega) hh (λ q hq=>eO q hq)
  | el q=>exact a2g (ks:=ks) hK (by omega) hh (λ q hq=>eO q hq)
theorem b1U {fr:List (Nat×AV)}:∀ {n j:Nat} {us:List Value},us.length=n->(∀ t val v,us[t]?=some val->look (j+t) fr=some v->VX H S ι hp v [val])->VX H S ι hp (b9h fr j n) us
 | 0,j,us,hl,_=>by
  obtain rfl:=List.length_eq_zero_iff.1 hl;rfl
 | n+1,j,u::us,hl,h=>by
  refine ⟨u,us,rfl,?_,b1U (by simpa using hl) (λ t val v ht hv=>h (t+1) val v (by simpa using ht) (by rw [<- hv]; congr 1; omega))⟩;cases eQ:look j fr with
  | none=>exact ⟨_,rfl⟩
  | some v=>exact h 0 u v rfl eQ
theorem b7x:∀ {ks:List PK} {x:DK ks} {i:Nat} {fr:List (Nat×AV)} {pre vs:List Value} {cc:Option (Sigma Ty.den)},(∀ t v,look t fr=some v->∃ val,(pre.reverse++vs)[t]?=some val/\VX H S ι hp v [val])->i=pre.length ->
  X3 H S ks cc pre vs x->vs.length=ks.length->a2U hp ι ks vs x i->(∀ r,cc=some r->∃ pre',pre=.pointer (some ⟨(ι.root (2000000+(i - 1))).1,(ι.root (2000000+(i - 1))).2,none⟩)::pre'/\look (2000000+(i - 1)) hp=some (.var r.1 r.2)) ->
  ∀ t v,look t (a0m ks x i fr)=some v->∃ val,(pre.reverse++vs)[t]?=some val/\VX H S ι hp v [val]
 | [],_,_,_,_,_,_,h,_,_,_,_,_=>h
 | k::ks,x,i,fr,pre,vs,cc,h,hi,hk,hl,hr,hc=>by
  cases vs with
  | nil=>cases hl
  | cons v vs =>
   have hl:vs.length=ks.length:=by simpa using hl
   have cg:pre.reverse++v::vs=(v::pre).reverse++vs:=by simp
   have next:∀ {fr':List (Nat×AV)} {cc':Option (Sigma Ty.den)},(∀ t v',look t fr'=some v'->∃ val,(pre.reverse++v::vs)[t]?=some val/\VX H S ι hp v' [val])->X3 H S ks cc' (v::pre) vs x.2->a2U hp ι ks vs x.2 (i+1) ->
     (∀ r,cc'=some r->v=.pointer (some ⟨(ι.root (2000000+i)).1,(ι.root (2000000+i)).2,none⟩)/\look (2000000+i) hp=some (.var r.1 r.2))->∀ t v',look t (a0m ks x.2 (i+1) fr')=some v'->∃ val,(pre.reverse++v::vs)[t]?=some val/\VX H S ι hp v' [val]:=by
    intro fr' cc' h1 h2 h3 h4;rw [cg] at h1 ⊢;refine b7x h1 (by simp [hi]) h2 hl h3 (λ r hr=>?_);rw [Nat.add_sub_cancel];obtain ⟨q1,q2⟩:=h4 r hr;exact ⟨pre,by rw [q1],q2⟩
   have iQ:(pre.reverse++v::vs)[i]?=some v:=by
    rw [List.getElem?_append_right (by simp [hi])];simp [hi]
   cases k with
   | v t=>exact next h hk hr (λ r hr=>by cases hr)
   | rd t=>exact next h hk hr (λ r hr=>by cases hr)
   | B8 f ts=>exact next h hk hr (λ r hr=>by cases hr)
   | own t=>exact next h hk hr (λ r hr=>by cases hr)
   | mu t=>exact next h hk hr (λ r hr=>by cases hr)
   | T3=>exact next h hk hr (λ r hr=>by cases hr)
   | rw t =>
    obtain ⟨⟨h1,us,h2⟩,hr⟩:=hr;exact next h hk hr (λ r hr=>by cases hr; exact ⟨(List.cons.inj h2).1,h1⟩)
   | Y6 f n =>
    obtain ⟨⟨us,b,off,e1,h1,h2,h3,h4⟩,hk⟩:=hk;obtain ⟨rfl,rfl⟩:=List.cons.inj e1;refine next (λ t v' ht=>?_) hk hr (λ r hr=>by cases hr)
    rw [o7] at ht;split at ht
    ·rename_i e; subst e; cases ht
     refine ⟨_,iQ,_,_,_,rfl,h1,h2,h3,_,rfl,b,off,(pre.take n).reverse,rfl,h1,h2,h3,?_⟩;refine b1U (by simp; omega) (λ t val v' ht hv=>?_);obtain ⟨val',g1,g2⟩:=h _ _ hv;have py:t<n:=by
      have:=(List.getElem?_eq_some_iff.1 ht).1;simp at this; omega
     have:val'=val:=by
      rw [List.reverse_take,List.getElem?_drop] at ht;rw [List.getElem?_append_left (by simp; omega)] at g1;subst hi;rw [g1] at ht; cases ht; rfl
     rw [this] at g2; exact g2
    ·exact h t v' ht
   | el q =>
    obtain ⟨⟨t,y,b0,off0,pre',b,off,us,e0,e1,e2,h1,h2,h3⟩,hk⟩:=hk;obtain ⟨rfl,rfl⟩:=List.cons.inj e2;obtain ⟨pre2,g1,g2⟩:=hc _ e0;rw [e1] at g1;simp only [List.cons.injEq,Value.pointer.injEq,Option.some.injEq,Addr.mk.injEq,and_true] at g1;obtain ⟨⟨rfl,rfl⟩,rfl⟩:=g1;refine next (λ t' v' ht=>?_) hk hr (λ r hr=>by cases hr)
    rw [o7] at ht;split at ht
    ·rename_i e; subst e; cases ht
     exact ⟨_,iQ,_,b,off,g2,h1,Z7 h2 h3,rfl⟩
    ·exact h t' v' ht
theorem c6O {E:Env} {fn:Func} {w:World} {vs:List Value} {x:DK E.ps} {L:List Nat}
  (hlen:E.ps.length<=fn.ntmps/\E.ps.length<=1000) (hS:∀ b,S b->b<w.heap.size) (hK:R2 w.heap S E.ps vs x L) (gj:X3 w.heap S E.ps none [] vs x) (eW:L.Nodup) (dD:∀ b∈L,¬ S b/\b<w.heap.size) :
  ∃ ι,∀ gv,RS (D4.of w S E.ps vs L fn.ntmps gv) S ι (s5 E.ps x) { tmps:=vs.toArray++Array.replicate (fn.ntmps - vs.toArray.size) undef,defers:=[] } w:=by
 obtain ⟨ι,kj⟩:=c2m (B:=⟨w,S,λ b=>b∈L,fn.ntmps,[],undef⟩) (i:=0) rfl rfl rfl hS hK eW (λ b hb=>⟨(dD b hb).1,hb,(dD b hb).2⟩) (by show 0+E.ps.length<=1000; omega);refine ⟨ι,λ gv=>?_⟩;have hl:vs.length=E.ps.length:=c1D hK;have hs:=kj.hs;refine ⟨⟨hs.os,hs.tape,hs.out,hs.size,hs.frame,hs.slt,hs.s0,hs.s1,hs.ob,hs.bl,hs.dj,λ q hq=>kj.pins q hq⟩,rfl,?_,?_⟩
 ·simp only [Array.size_append,List.size_toArray,Array.size_replicate,D4.of]
  omega
 ·intro t v hv
  obtain ⟨val,k2,k3⟩:=b7x (pre:=[]) (vs:=vs) (i:=0) (λ t v ht=>by
   obtain ⟨_,val,k2,k3⟩:=kj.fr t v ht;exact ⟨val,by simpa using k2,k3⟩) rfl gj hl (a2g hK (by show 0+E.ps.length<=1000; omega) (λ _ _ h=>h) (λ q hq=>(kj.pins q hq).2.2.1)) (λ r hr=>by cases hr) t v hv
  simp only [List.reverse_nil,List.nil_append] at k2;have:(vs.toArray++Array.replicate (fn.ntmps - vs.toArray.size) undef).getD t (D4.gd (D4.of w S E.ps vs L fn.ntmps gv) t)=val:=by
   have bo:=(List.getElem?_eq_some_iff.1 k2).1;simp only [Array.getD_eq_getD_getElem?];rw [Array.getElem?_append_left (by simpa using bo)];simp [k2]
  rw [this];exact k3
theorem p9.o5 (_hE:u6 E) {f:FuncId} {fn:Func} {c:Code} {rs:List Ty} {ps:List PK} {pre:DK ps->Prop} {fn':DK ps->DL rs} {out:DK ps->DL (F4 ps)} (cR:E.rs=rs) (fq:E.ps=ps) (hf:E.P.funcs[f]?=some fn) (hb:fn.body=some c) (fh:(fn.name == "runtime.NumGoroutine")=false) (_hF:y7 E fn)
  (hlen:(Nat.ble ps.length fn.ntmps && Nat.ble ps.length 1000)=true)
  (h:∀ x:DK ps,pre x->b89 ps x->Reach E fn (cR▸fn' x) (fq▸out x) [.code c] (s5 ps x)):(p9.mk ps rs pre fn' out false).Valid E.P f:=by
 subst cR;subst fq;simp only [Bool.and_eq_true,Nat.ble_eq] at hlen;refine ⟨⟨fn,hf,fh,by rw [hb]; rfl⟩,?_,λ h=>by cases h⟩;intro w S vs x L hS dk bm hK gj eW dD;refine Calls.mono (R:=λ e w'=>a3e w S E.rs E.ps vs L (fn' x) (out x) e w'/\GOk E.gp undef w'.heap E.ps vs (out x)) ?_ (λ _ _ h=>h.1);refine b6R hf hb ?_;obtain ⟨ι,bN⟩:=c6O hlen hS hK gj eW dD;exact h x bm (c1C hK) w S vs x L undef S ι _ w ⟨dk,λ b hb=>⟨hS b hb,λ hl=>(dD b hl).1 hb⟩⟩ hK (bN undef)
end
end Go.Ex
namespace Go.Ex
def shares:List Ty->List Ty->Bool
 | [],[]=>true
 | t::ts,t'::ts'=>(decide (t'=t) || (decide (t'=t.sh) && t.S4)) && shares ts ts'
 | _,_=>false
theorem c1e {t t':Ty} (h:(decide (t'=t) || (decide (t'=t.sh) && t.S4))=true):t.den=t'.den:=by
 simp only [Bool.or_eq_true,Bool.and_eq_true,decide_eq_true_eq] at h;rcases h with rfl|⟨rfl,_⟩
 ·rfl
 ·exact (D7 t).symm
def a6l:(rs rs':List Ty)->shares rs rs'=true->DL rs->DL rs'
 | [],[],_,_=>()
 | t::ts,t'::ts',h,x=>(cast (c1e (by simp only [shares,Bool.and_eq_true] at h; exact h.1)) x.1,a6l ts ts' (by simp only [shares,Bool.and_eq_true] at h; exact h.2) x.2)
 | [],_::_,h,_=>by simp [shares] at h
 | _::_,[],h,_=>by simp [shares] at h
theorem b1E {H:Array Go.Obj} {S:Nat->Prop}:∀ {ts rs':List Ty} (h:shares ts rs'=true) {O:List Nat} {us:List Value} {x:DL ts},J1 H S ts O us x ->
  ∃ O1 O2,O.Perm (O1++O2)/\∀ T:Nat->Prop,(∀ b,S b->T b)->(∀ b∈O2,T b)->J1 H T rs' O1 us (a6l ts rs' h x)
 | [],[],_,O,us,x,hR=>⟨[],[],by rw [hR.1]; exact List.Perm.refl _,λ T _ _=>⟨rfl,hR.2⟩⟩
 | [],_::_,h,_,_,_,_=>by simp [shares] at h
 | _::_,[],h,_,_,_,_=>by simp [shares] at h
 | t::ts,t'::ts',h,O,us,x,⟨v,us',P1,P2,cs,e1,e2,e3,h1,h2⟩=>by
  have hh:=h;simp only [shares,Bool.and_eq_true] at hh;obtain ⟨O1,O2,p,k⟩:=b1E hh.2 h2;have hd:=hh.1;simp only [Bool.or_eq_true,Bool.and_eq_true,decide_eq_true_eq] at hd;subst e2;rcases hd with rfl|⟨rfl,qK⟩
  ·refine ⟨P1++O1,O2,by rw [List.append_assoc]; exact p.append_left P1,λ T hS hT=>⟨v,us',P1,O1,cs,e1,rfl,e3,?_,k T hS hT⟩⟩
   exact h1.r8 (λ _ _=>rfl) hS
  ·refine ⟨O1,P1++O2,?_,λ T hS hT=>⟨v,us',[],O1,cs,e1,rfl,by rw [e3]; exact (b3F (by rw [Ty.a7y]) cs).symm,?_,k T hS (λ b hb=>hT b (by simp [hb]))⟩⟩
   ·refine (p.append_left P1).trans ?_
    rw [<- List.append_assoc,<- List.append_assoc];exact List.perm_append_comm.append_right O2
   ·exact h1.a1y (λ b hb=>hT b (by simp [hb])) hS qK
theorem c1k {ps:List PK} (h:ps.all PK.reads=true):F4 ps=[]:=by
 induction ps with
 | nil=>rfl
 | cons k ps ih =>
  simp only [List.all_cons,Bool.and_eq_true] at h;have:=ih h.2;cases k<;>first|exact this|(exfalso; simp [PK.reads] at h; done)
theorem b7k {H:Array Go.Obj} {S:Nat->Prop}:∀ {ps:List PK},ps.all PK.reads=true->∀ {vs:List Value} {x:DK ps} {L:List Nat},R2 H S ps vs x L->L=[]
 | [],_,_,_,_,h=>h.2
 | k::ps,h,vs,x,L,⟨v,us,L1,L2,e1,e2,h1,h2⟩=>by
  simp only [List.all_cons,Bool.and_eq_true] at h;have pf:=b7k h.2 h2;have rY:L1=[]:=by
   cases k<;>first|exact h1.1|(exfalso; simp [PK.reads] at h; done)
  rw [e2,rY,pf]; rfl
theorem p9.Valid.share {P:Program} {f:FuncId} {c:p9} (h:c.Valid P f) (fq:c.ps.all PK.reads=true) (fN:c.rs.all Ty.H9=true) {rs':List Ty} (cR:shares c.rs rs'=true) :
  (p9.mk c.ps rs' c.pre (λ x=>a6l c.rs rs' cR (c.fn x)) c.out true).Valid P f:=by
 have core:∀ (w:World) (S:Nat->Prop) (vs:List Value) (x:DK c.ps) (L:List Nat),(∀ b,S b->b<w.heap.size)->a0v P w S->c.pre x->R2 w.heap S c.ps vs x L->X3 w.heap S c.ps none [] vs x->L.Nodup->(∀ b∈L,¬ S b/\b<w.heap.size) ->
   Calls P f vs.toArray w (λ e w'=>∃ us O Lo S',e=.returned (a3t us)/\y9 L w w'/\(∀ b,S b->S' b)/\(∀ b,S' b->S b\/((w.heap.size<=b\/b∈L)/\b<w'.heap.size)) /\
    J1 w'.heap S' rs' O us (a6l c.rs rs' cR (c.fn x))/\F0 w'.heap S' c.ps vs (c.out x) Lo/\(O++Lo).Nodup/\(∀ b∈O++Lo,¬ S' b/\(w.heap.size<=b\/b∈L)/\b<w'.heap.size) /\
    J1 w'.heap (λ b=>S' b/\w.heap.size<=b) rs' O us (a6l c.rs rs' cR (c.fn x))):=by
  intro w S vs x L hS dk bm hK gj eW dD;refine (h.run w S vs x L hS dk bm hK gj eW dD).mono (λ e w' hr=>?_);obtain ⟨us,O,Lo,S',e1,hp,s1,s2,h1,h2,aI,hb⟩:=hr;have hL:=b7k fq hK;have kS:Lo=[]:=V3 (c1k fq) h2;subst hL;subst kS;rw [List.append_nil] at aI hb;obtain ⟨O1,O2,p,k⟩:=b1E cR (h1.H9 (S':=λ _=>False) fN);have dN:=p.nodup_iff.1 aI;have gL:∀ b∈O2,¬ S' b/\w.heap.size<=b/\b<w'.heap.size:=λ b cX=>by
   obtain ⟨q0,q1,q2⟩:=hb b (p.mem_iff.2 (List.mem_append_right _ cX));rcases q1 with q1|q1
   ·exact ⟨q0,q1,q2⟩
   ·cases q1
  refine ⟨us,O1,[],λ b=>S' b\/b∈O2,e1,hp,λ b hb=>.inl (s1 b hb),?_,k _ (λ b hb=>hb.elim) (λ b hb=>.inr hb),?_,by rw [List.append_nil]; exact (List.nodup_append.1 dN).1,?_,k _ (λ b hb=>hb.elim) (λ b hb=>⟨.inr hb,(gL b hb).2.1⟩)⟩
  ·rintro b (cX|cX)
   ·exact s2 b cX
   ·exact .inr ⟨.inl (gL b cX).2.1,(gL b cX).2.2⟩
  ·have fN:∀ {ks:List PK} {us:List Value} {y:DL (F4 ks)} {T:Nat->Prop},ks.all PK.reads=true->F0 w'.heap S' ks us y []->F0 w'.heap T ks us y []:=by
    intro ks
    induction ks with
    | nil=>intro us y T _ h; exact h
    | cons k ks ih =>
     intro us y T hk h;simp only [List.all_cons,Bool.and_eq_true] at hk;cases k<;>first
      | (obtain ⟨v,us',e,h⟩:=h; exact ⟨v,us',e,ih hk.2 h⟩)
      | (exfalso; simp [PK.reads] at hk; done)
   exact fN fq h2
  ·intro b dh
   rw [List.append_nil] at dh;obtain ⟨q0,q1,q2⟩:=hb b (p.mem_iff.2 (List.mem_append_left _ dh));refine ⟨?_,q1,q2⟩;rintro (h9|h9)
   ·exact q0 h9
   ·exact (List.nodup_append.1 dN).2.2 b dh b h9 rfl
 refine ⟨h.ent,λ w S vs x L hS dk bm hK gj eW dD=>(core w S vs x L hS dk bm hK gj eW dD).mono (λ e w' ⟨us,O,Lo,S',a1,a2,a3,a4,a5,a6,a7,a8,_⟩=>⟨us,O,Lo,S',a1,a2,a3,a4,a5,a6,a7,a8⟩),λ _=>core⟩
theorem p9.Valid.conv {P:Program} {f:FuncId} {c:p9} (h:c.Valid P f) {rs':List Ty} {fn':DK c.ps->DL rs'} (hc:∀ x,c.pre x->∀ (H:Array Go.Obj) (S:Nat->Prop) (O:List Nat) (us:List Value),J1 H S c.rs O us (c.fn x)->J1 H S rs' O us (fn' x)) :
  (p9.mk c.ps rs' c.pre fn' c.out c.new).Valid P f:=by
 refine ⟨h.ent,λ w S vs x L hS dk bm hK gj eW dD=>?_,λ hn w S vs x L hS dk bm hK gj eW dD=>?_⟩
 ·refine (h.run w S vs x L hS dk bm hK gj eW dD).mono (λ e w' hr=>?_)
  obtain ⟨us,O,Lo,S',e1,hp,s1,s2,h1,h2⟩:=hr;exact ⟨us,O,Lo,S',e1,hp,s1,s2,hc x bm _ _ _ _ h1,h2⟩
 ·refine (h.fresh hn w S vs x L hS dk bm hK gj eW dD).mono (λ e w' hr=>?_)
  obtain ⟨us,O,Lo,S',e1,hp,s1,s2,h1,h2,h3,h4,h5⟩:=hr;exact ⟨us,O,Lo,S',e1,hp,s1,s2,hc x bm _ _ _ _ h1,h2,h3,h4,hc x bm _ _ _ _ h5⟩
end Go.Ex
namespace Go.Ex
abbrev OI:=TypeId×String×Array Edge
section
variable {P:Program} {fn:Func} {R:Ending->World->Prop} {k:List Item} {a:Act} {w:World} {S':Nat->Prop}
structure c8e (P:Program) (b:Nat) (ox:Op) (xv:Value) (X:Act->World->Prop):Prop where
 run:∀ a w,X a w->∀ o:Oper,o.op=ox->(execOp a.eval o).run P w=.ok (.value xv) w
 put:∀ a w d v,X a w->d≠1->d≠3->d<a.tmps.size->X (a.put (some d) v) w
 mem:∀ a w w',X a w->(∀ c,c≠b->w'.heap[c]?=w.heap[c]?)->X a w'
variable {S I T:Nat} {e:Nat->OI} {ox:Op} {t:Ty} {r:Nat} {xv:Value} {ds:List Value} {x:t.den} {b off cap:Nat} {A:Option Addr} {X:Act->World->Prop} {w0:World} {S0:Nat->Prop}
structure SpD (t:Ty) (ds:List Value) (b off cap:Nat) (w0:World) (i:Nat) (w:World):Prop where
 past:y9 [b] w0 w
 free:R3 t.isB w.heap b (off+cap*t.size)
 cells:d9 w.heap b off (i*t.size)=(List.replicate i ds).flatten
end
end Go.Ex
namespace Go.Ex
def a7p (P:Program):List (FuncId×p9)->Prop
 | []=>True
 | (f,c)::l=>c.Valid P f/\a7p P l
theorem a7p.look {P:Program}:∀ {l:List (FuncId×p9)} {f:FuncId} {c:p9},a7p P l->Ex.look f l=some c->c.Valid P f
 | [],_,_,_,h=>by cases h
 | (g,d)::l,f,c,h,hl=>by
  simp only [Ex.look] at hl;cases hb:Nat.beq f g with
  | true =>
   rw [hb] at hl;have:=Nat.eq_of_beq_eq_true hb;subst this; cases hl; exact h.1
  | false=>rw [hb] at hl; exact a7p.look h.2 hl
theorem b7a {P:Program}:∀ {l:List (TypeId×TI)} {T:TypeId} {i:TI},l.all (a48 P)=true->Ex.look T l=some i->a48 P (T,i)=true
 | [],_,_,_,h=>by cases h
 | (g,d)::l,T,i,h,hl=>by
  simp only [List.all_cons,Bool.and_eq_true] at h;simp only [Ex.look] at hl;cases hb:Nat.beq T g with
  | true =>
   rw [hb] at hl;have:=Nat.eq_of_beq_eq_true hb;subst this; cases hl; exact h.1
  | false=>rw [hb] at hl; exact b7a h.2 hl
def a4Z (P:Program) (C0:List (FuncId×p9)):List (FuncId×List (Option Nat))->Prop
 | []=>True
 | (f,pat)::l=>(∀ c,Ex.look f C0=some c->c.Kept P f pat)/\a4Z P C0 l
theorem a4Z.look {P:Program} {C0:List (FuncId×p9)}:∀ {l:List (FuncId×List (Option Nat))} {f:FuncId} {pat:List (Option Nat)},a4Z P C0 l->Ex.look f l=some pat->∀ c,Ex.look f C0=some c->c.Kept P f pat
 | [],_,_,_,h=>by cases h
 | (g,d)::l,f,pat,h,hl=>by
  simp only [Ex.look] at hl;cases hb:Nat.beq f g with
  | true =>
   rw [hb] at hl;have:=Nat.eq_of_beq_eq_true hb;subst this; cases hl; exact h.1
  | false=>rw [hb] at hl; exact a4Z.look h.2 hl
theorem w9 {E:Env} (ht:E.tt.all (a48 E.P)=true) (hc:a7p E.P E.C0) (hk:a4Z E.P E.C0 E.keeps:=by trivial):u6 E :=
 ⟨λ _ _ h=>b7a ht h,λ _ _ h=>hc.look h,λ _ c _ h1 h2=>hk.look h2 c h1⟩
theorem g9 {rs:List Ty} {L:Code->List Item->St->Prop} {R:DL rs->Prop} {t t':Tree rs} (h:t=t') (h':t'.holds L R):t.holds L R:=h▸h'
theorem Reach.K3 {E:Env} (hE:u6 E) {fn:Func} (hf:y7 E fn) {y:DL E.rs} {z:DL (F4 E.ps)} {c:Code} {k:List Item} {α:Type} (mk:α->St) (I:α->Prop) (μ:α->Nat) (n:Nat) (hu:∀ x,uniq (mk x).fr/\uniq (mk x).hp)
  (h:∀ x,I x->(mk x).F5->(∀ x',I x'->μ x'<μ x->Reach E fn y z (.code c::.inLoop c::k) (mk x')) ->
   (exec E n (.code c::.inLoop c::k) (mk x)).holds (λ c' k' s'=>Reach E fn y z (.code c'::.inLoop c'::k') s') (·=DL.app y z)) :
  ∀ x,I x->Reach E fn y z (.code c::.inLoop c::k) (mk x):=by
 have key:∀ m x,μ x=m->I x->Reach E fn y z (.code c::.inLoop c::k) (mk x):=by
  intro m
  induction m using Nat.strongRecOn with
  | _ m ih =>
   intro x hm hI w0 S0 vs x0 L gv S ι a w ew hK cR;have hx:=h x hI (cR.F5 (hu x).1 (hu x).2) (λ x' h1 h2=>ih (μ x') (hm▸h2) x' rfl h1);exact j5 hE hf hx w0 S0 vs x0 L gv S ι a w ew hK cR
 exact λ x hI=>key (μ x) x rfl hI
def d8 (P:Program) (f:Nat):Code:=((P.funcs[f]?).bind (·.body)).getD .skip
end Go.Ex
namespace Go.Ex
open Go.ChangeShapes Go.WideShapes Go.ChangeAt Go.RowKit
section
variable {P:Program} {X:Type} {enc:TypeId×Value->X} {W:World} {sp:Nat->Bool} {held:Bool}
def W0 {α:Type _} (f:α->Nat):List α->Nat
 | []=>0
 | x::l=>f x+W0 f l
def Ty.flat:Ty->Bool
 | .int _|.bool|.str|.unit=>true
 | .fn _=>false
 | .hole _=>false
 | .w6 _=>false
 | .map _ _ _=>false
 | .box _ _ _=>false
 | .pair a b=>a.flat && b.flat
 | .arr _ t=>t.flat
 | .d0 o t=>!o && t.flat
def Ty.R9:(t:Ty)->t.den->Nat
 | .int _,_=>1
 | .bool,_=>1
 | .str,s=>List.length s+1
 | .unit,_=>0
 | .fn _,_=>0
 | .hole _,_=>0
 | .w6 _,_=>0
 | .map _ _ _,_=>0
 | .box _ _ _,_=>0
 | .pair a b,x=>a.R9 x.1+b.R9 x.2
 | .arr _ t,l=>W0 t.R9 l
 | .d0 _ t,l=>W0 t.R9 l+1
mutual
def I4 {H:Type}:DataW H->Nat
 | .lit (.string bytes)=>bytes.length+1
 | .lit _=>1
 | .nil=>1
 | .ptr d=>I4 d+1
 | .slice elems spare=>Q8 elems+Q8 spare+1
 | .agg parts=>Q8 parts+1
 | .iface _ d=>I4 d+1
 | .map entries=>a0Q entries+1
 | .held _=>1
def Q8 {H:Type}:List (DataW H)->Nat
 | []=>0
 | d::r=>I4 d+Q8 r
def a0Q {H:Type}:List (Lit×DataW H)->Nat
 | []=>0
 | x::r=>a5M x+a0Q r
def a5M {H:Type}:Lit×DataW H->Nat
 | (.string bytes,d)=>bytes.length+I4 d+1
 | (_,d)=>I4 d+1
end
theorem a1P {H β:Type}:∀ (xs:List (DataW H×β)),Q8 (xs.map (·.1))=W0 (λ x=>I4 x.1) xs
 | []=>rfl
 | x::xs=>by simp only [List.map_cons,Q8,W0,a1P xs]
theorem b0H {α β:Type} {R:List Nat->List Value->α->Prop} {sz:Nat} {bk:α->Nat} {bw:β->Nat}:∀ {n:Nat} {cs:List Value} {xs:List β},xs.length=n->cs.length=n*sz->(∀ i,i<n->∃ y z,xs[i]?=some z/\R [] ((cs.drop (i*sz)).take sz) y/\bk y<=bw z) ->
  ∃ l:List α,l.length=n/\i7 R sz [] cs l/\W0 bk l<=W0 bw xs
 | 0,cs,[],_,h,_=>⟨[],rfl,⟨rfl,by simpa using h⟩,Nat.le_refl _⟩
 | n+1,cs,x::xs,hx,h,hr=>by
  obtain ⟨y,z,hz,hy,hb⟩:=hr 0 (by omega);have e:(n+1)*sz=n*sz+sz:=Nat.succ_mul n sz;obtain ⟨l,h1,h2,h3⟩:=b0H (R:=R) (bk:=bk) (bw:=bw) (n:=n) (cs:=cs.drop sz) (sz:=sz) (xs:=xs) (by simpa using hx) (by simp; omega) (λ i hi=>by
   obtain ⟨y,z,hz,hy,hb⟩:=hr (i+1) (by omega);refine ⟨y,z,by simpa using hz,?_,hb⟩;rw [List.drop_drop];rw [show sz+i*sz=(i+1)*sz by rw [Nat.succ_mul]; omega];exact hy)
  have hz:x=z:=by simpa using hz
  subst hz;exact ⟨y::l,by simp [h1],⟨[],[],rfl,by simpa using hy,h2⟩,by simp only [W0]; omega⟩
 | 0,_,_::_,h,_,_=>by simp at h
 | _+1,_,[],h,_,_=>by simp at h
theorem a1N {n:Nat} {T:TypeId} {t:Ty} (h:n8 P n T t=true):P.cellsOf T=t.size:=by
 obtain ⟨i,h1,h2,_⟩:=R4 h;simp [Program.cellsOf,h1,h2]
theorem a9B:∀ (t:Ty),t.flat=true ->
  (∀ {n:Nat} {T:TypeId} {fuel:Nat} {cs:List Value} {x:DataW X×List MemPlace},n8 P n T t=true->DataW.trod enc P W 0 sp held fuel T cs=some x->∃ y:t.den,f8 W.heap (λ b=>b<W.heap.size) t [] cs y/\t.R9 y<=I4 x.1) /\
  (∀ {n:Nat} {fs:List Field} {off m:Nat} {cs:List Value} {xs:List (DataW X×List MemPlace)},l8 (n8 P n) fs off t=true->xs.length=fs.length->(∀ (i:Nat) (f:Field),fs[i]?=some f->DataW.trod enc P W 0 sp held m f.type ((cs.drop f.offset).take (P.cellsOf f.type))=xs[i]?) ->
   ∃ y:t.den,f8 W.heap (λ b=>b<W.heap.size) t [] ((cs.drop off).take t.size) y/\t.R9 y<=W0 (λ x=>I4 x.1) xs):=by
 intro t;have strct:∀ {t:Ty},(∀ {n:Nat} {fs:List Field} {off m:Nat} {cs:List Value} {xs:List (DataW X×List MemPlace)},l8 (n8 P n) fs off t=true->xs.length=fs.length->(∀ (i:Nat) (f:Field),fs[i]?=some f->DataW.trod enc P W 0 sp held m f.type ((cs.drop f.offset).take (P.cellsOf f.type))=xs[i]?) ->
   ∃ y:t.den,f8 W.heap (λ b=>b<W.heap.size) t [] ((cs.drop off).take t.size) y/\t.R9 y<=W0 (λ x=>I4 x.1) xs)->t.agg=true->(∀ n u,t≠.arr n u) ->
   ∀ {n:Nat} {T:TypeId} {fuel:Nat} {cs:List Value} {x:DataW X×List MemPlace},n8 P n T t=true->DataW.trod enc P W 0 sp held fuel T cs=some x->∃ y:t.den,f8 W.heap (λ b=>b<W.heap.size) t [] cs y/\t.R9 y<=I4 x.1:=by
  intro t hB cV nS n T fuel cs x hT h;obtain ⟨fs,k',h1,h2⟩:=a4g hT cV nS;obtain ⟨xs,m,_,rfl,hl,hlen,hf⟩:=DataW.trod_struct h1 h;obtain ⟨y,hy,hb⟩:=hB (cs:=cs) (m:=m) (xs:=xs) h2 (by simpa using hlen) (λ i f oz=>hf i f (by simpa using oz));refine ⟨y,?_,?_⟩
  ·rw [a1N hT] at hl
   rw [List.drop_zero,List.take_of_length_le (by omega)] at hy;exact hy
  ·simp only [I4,a1P]; omega
 induction t with
 | int k =>
  intro _;refine ⟨?_,by intro n fs off m cs xs h; cases fs<;>simp [l8] at h⟩;intro n T fuel cs x hT h;obtain ⟨z,rfl,rfl,hw⟩:=DataW.trod_int (X7 hT) h;simp only [Lit.wf,Bool.and_eq_true,decide_eq_true_eq] at hw;exact ⟨z,⟨rfl,rfl,hw⟩,by simp [Ty.R9,I4]⟩
 | bool =>
  intro _;refine ⟨?_,by intro n fs off m cs xs h; cases fs<;>simp [l8] at h⟩;intro n T fuel cs x hT h;obtain ⟨b,rfl,rfl⟩:=DataW.trod_bool (a1l hT) h;exact ⟨b,⟨rfl,rfl⟩,by simp [Ty.R9,I4]⟩
 | str =>
  intro _;refine ⟨?_,by intro n fs off m cs xs h; cases fs<;>simp [l8] at h⟩;intro n T fuel cs x hT h;obtain ⟨s,rfl,rfl,hl⟩:=DataW.trod_string (S9 hT) h;exact ⟨s.data.toList,⟨rfl,rfl,hl⟩,by simp [Ty.R9,I4]⟩
 | unit =>
  intro _;have hB:∀ {n:Nat} {fs:List Field} {off m:Nat} {cs:List Value} {xs:List (DataW X×List MemPlace)},l8 (n8 P n) fs off .unit=true->xs.length=fs.length->(∀ (i:Nat) (f:Field),fs[i]?=some f->DataW.trod enc P W 0 sp held m f.type ((cs.drop f.offset).take (P.cellsOf f.type))=xs[i]?) ->
    ∃ y:(.unit:Ty).den,f8 W.heap (λ b=>b<W.heap.size) .unit [] ((cs.drop off).take (.unit:Ty).size) y/\(.unit:Ty).R9 y<=W0 (λ x=>I4 x.1) xs:=λ _ _ _=>⟨(),⟨rfl,by simp [Ty.size]⟩,by simp [Ty.R9]⟩
  exact ⟨strct hB rfl (by simp),hB⟩
 | fn f=>intro h; cases h
 | hole t _=>intro h; cases h
 | w6 t _=>intro h; cases h
 | map o a b=>intro h; cases h
 | box o g t=>intro h; cases h
 | pair a b iha ihb =>
  intro dK;simp only [Ty.flat,Bool.and_eq_true] at dK;have hB:∀ {n:Nat} {fs:List Field} {off m:Nat} {cs:List Value} {xs:List (DataW X×List MemPlace)},l8 (n8 P n) fs off (.pair a b)=true->xs.length=fs.length->(∀ (i:Nat) (f:Field),fs[i]?=some f->DataW.trod enc P W 0 sp held m f.type ((cs.drop f.offset).take (P.cellsOf f.type))=xs[i]?) ->
    ∃ y:((.pair a b):Ty).den,f8 W.heap (λ b=>b<W.heap.size) (.pair a b) [] ((cs.drop off).take ((.pair a b):Ty).size) y/\((.pair a b):Ty).R9 y<=W0 (λ x=>I4 x.1) xs:=by
   intro n fs off m cs xs hf pI hx;cases fs with
   | nil=>simp [l8] at hf
   | cons f fs =>
    cases xs with
    | nil=>simp at pI
    | cons x xs =>
    simp only [l8,Bool.and_eq_true] at hf;obtain ⟨⟨⟨⟨h1,_⟩,h3⟩,_⟩,h5⟩:=hf;have h1:f.offset=off:=Nat.eq_of_beq_eq_true h1;have gD:=hx 0 f (by simp);rw [h1,a1N h3] at gD;obtain ⟨y1,mY,dh⟩:=(iha dK.1).1 h3 (gD.trans (by simp:_=some x));obtain ⟨y2,mw,eL⟩:=(ihb dK.2).2 (cs:=cs) (m:=m) (xs:=xs) h5 (by simpa using pI) (λ i f hf=>by simpa using hx (i+1) f (by simpa using hf));refine ⟨(y1,y2),⟨[],[],rfl,?_,?_⟩,?_⟩
    ·rw [List.take_take,Nat.min_eq_left (by simp [Ty.size])]; exact mY
    ·rw [<- List.drop_drop] at mw
     rw [List.drop_take,show (Ty.pair a b).size - a.size=b.size by simp [Ty.size]]; exact mw
    ·simp only [Ty.R9,W0]; omega
  exact ⟨strct hB rfl (by simp),hB⟩
 | arr n t ih =>
  intro dK;refine ⟨?_,by intro n fs off m cs xs h; cases fs<;>simp [l8] at h⟩;intro k T fuel cs x hT h;obtain ⟨e,k',h1,h2,h3⟩:=U9 hT;obtain ⟨xs,m,_,rfl,hl,hlen,hf⟩:=DataW.trod_array h1 h;rw [a1N hT] at hl;have hs:(Ty.arr n t).size=n*t.size:=rfl;rw [hs] at hl;obtain ⟨l,g1,g2,g3⟩:=b0H (R:=f8 W.heap (λ b=>b<W.heap.size) t) (bk:=t.R9) (bw:=λ x:DataW X×List MemPlace=>I4 x.1) hlen hl (λ i hi=>by
   have:=hf i hi;rw [a1N h3] at this;have e:=List.getElem?_eq_getElem (l:=xs) (i:=i) (by omega);obtain ⟨y,hy,hb⟩:=(ih dK).1 h3 (this.trans e);exact ⟨y,_,e,hy,hb⟩)
  exact ⟨l,⟨g1,g2⟩,by simp only [Ty.R9,I4,a1P]; omega⟩
 | d0 o t ih =>
  intro dK;simp only [Ty.flat,Bool.and_eq_true,Bool.not_eq_true'] at dK;obtain ⟨rfl,bT⟩:=dK;refine ⟨?_,by intro n fs off m cs xs h; cases fs<;>simp [l8] at h⟩;intro k T fuel cs x hT h;obtain ⟨e,k',h1,h2,h3⟩:=E6 hT;have bn:=a1N h3;rcases DataW.trod_slice h1 h with ⟨rfl,rfl⟩|⟨a,len,cap,elems,rest,n,_,rfl,rfl,_,pJ,dC,mK,hf,_,_⟩
  ·exact ⟨([]:List t.den),.inl ⟨rfl,⟨none,0,rfl,by simp⟩,rfl⟩,by simp [Ty.R9,I4,W0]⟩
  ·rw [bn] at hf
   by_cases h0:len=0
   ·subst h0
    exact ⟨([]:List t.den),.inl ⟨rfl,⟨some a,cap,rfl,by simp⟩,rfl⟩,by simp [Ty.R9,I4,W0]⟩
   ·have bH:∀ i,i<len->∃ ci y z,W.cells? 0 (a.add (i*t.size)) t.size=some ci/\f8 W.heap (λ b=>b<W.heap.size) t [] ci y/\elems[i]?=some z/\t.R9 y<=I4 z.1:=by
     intro i hi;have:=hf i hi;have e:=List.getElem?_eq_getElem (l:=elems) (i:=i) (by omega);rw [e] at this;obtain ⟨ci,k1,k2⟩:=Option.bind_eq_some_iff.1 this;obtain ⟨y,hy,hb⟩:=(ih bT).1 h3 k2;exact ⟨ci,y,_,k1,hy,e,hb⟩
    obtain ⟨c0,_,_,k1,_⟩:=bH 0 (by omega);obtain ⟨_,l0,g0⟩:=World.cells?_some k1;obtain ⟨b,off,spot⟩:=a;have lr:=g0 0 (by omega);have ca:∃ v,W.cell? (Addr.mk b off spot)=some v:=by
     have:c0[0]?=some c0[0]:=List.getElem?_eq_getElem (by omega);rw [this,Nat.zero_mul] at lr;exact ⟨_,lr⟩
    obtain ⟨v0,eD⟩:=ca;obtain ⟨arr,T0,fz,hh,kY⟩:∃ arr T0 fz,W.heap[b]?=some (.cells arr T0 fz)/\spot=none:=by
     unfold World.cell? at eD;split at eD
     ·rename_i c T0 fz hh
      split at eD
      ·cases eD
      ·rename_i hs
       exact ⟨c,T0,fz,hh,by simpa using hs⟩
     ·cases eD
    subst kY;have dn:s9 W.heap b=arr.toList:=by simp only [s9,hh]
    have lZ:∀ i ci,i<len->W.cells? 0 ((Addr.mk b off none).add (i*t.size)) t.size=some ci->off+i*t.size+t.size<=(s9 W.heap b).length/\ci=d9 W.heap b (off+i*t.size) t.size:=by
     intro i ci hi hc;obtain ⟨_,l1,g1⟩:=World.cells?_some hc;have hj:∀ j,j<t.size->(s9 W.heap b)[off+i*t.size+j]?=ci[j]?:=by
      intro j hj;have:=g1 j hj;rw [Addr.F8,Addr.F8] at this;simp only [World.cell?,hh] at this;rw [dn,<- this]; simp
     have hle:off+i*t.size+t.size<=(s9 W.heap b).length:=by
      have:=hj (t.size - 1) (by omega);rw [List.getElem?_eq_getElem (by omega:t.size - 1<ci.length)] at this;have:=(List.getElem?_eq_some_iff.1 this).1;omega
     refine ⟨hle,List.ext_getElem? (λ j=>?_)⟩;by_cases pL:j<t.size
     ·rw [<- hj j pL]
      simp only [d9,List.getElem?_take,if_pos pL,List.getElem?_drop]
     ·rw [List.getElem?_eq_none (by omega),List.getElem?_eq_none (by rw [a2a _ _ _ hle]; omega)]
    have hlen:off+len*t.size<=(s9 W.heap b).length:=by
     obtain ⟨ci,y,_,q1,_⟩:=bH (len - 1) (by omega);have:=(lZ (len - 1) ci (by omega) q1).1;have e:len*t.size=(len - 1)*t.size+t.size:=by
      rw [<- Nat.succ_mul]; congr 1; omega
     omega
    obtain ⟨l,q1,q2,q3⟩:=b0H (R:=f8 W.heap (λ b=>b<W.heap.size) t) (bk:=t.R9) (bw:=λ x:DataW X×List MemPlace=>I4 x.1) (n:=len) (sz:=t.size) (cs:=d9 W.heap b off (len*t.size)) mK (a2a _ _ _ hlen) (λ i hi=>by
     obtain ⟨ci,y,z,r1,r2,r3,r4⟩:=bH i hi;have hle:i*t.size+t.size<=len*t.size:=by rw [<- Nat.succ_mul]; exact Nat.mul_le_mul_right _ hi
     rw [n6,m0 _ _ _ _ (by omega),<- (lZ i ci hi r1).2];exact ⟨y,z,r3,r2,r4⟩)
    have db:b<W.heap.size:=(Array.getElem?_eq_some_iff.1 hh).1;subst q1;exact ⟨l,.inr ⟨b,off,cap,[],rfl,pJ,⟨dC,by simp⟩,hlen,q2,rfl,rfl,db⟩,by simp only [Ty.R9,I4,a1P]; omega⟩
end
end Go.Ex
namespace Go.Ex
open Go.ChangeShapes Go.WideShapes Go.ChangeAt Go.RowKit
section
variable {P:Program} {X:Type} {enc:TypeId×Value->X} {W W':World} {sp:Nat->Bool} {held:Bool}
theorem b6O {k:Nat} {T:TypeId} {t:Ty} (hT:n8 P k T t=true) {r:Go.Reach} {base:Nat} {v:Value} (h:Value.okWide P W r base T v):v=j9 t v.cells.toList:=by
 obtain ⟨d,hd,cV⟩:=N0 hT;unfold Value.okWide at h;rw [hd] at h;cases t with
 | int q =>
  have hu:=X7 hT;rw [hd] at hu; cases hu;simp only [Cell.okWide,hd,Cell.ok] at h;cases v<;>simp_all [j9,Ty.agg,Value.cells]
 | bool =>
  have hu:=a1l hT;rw [hd] at hu; cases hu;simp only [Cell.okWide,hd,Cell.ok] at h;cases v<;>simp_all [j9,Ty.agg,Value.cells]
 | str =>
  have hu:=S9 hT;rw [hd] at hu; cases hu;simp only [Cell.okWide,hd,Cell.ok] at h;cases v<;>simp_all [j9,Ty.agg,Value.cells]
 | fn f =>
  obtain ⟨_,_,_,hu⟩:=b69 hT;rw [hd] at hu; cases hu;simp only [Cell.okWide,hd,Cell.ok] at h;cases v<;>simp_all [j9,Ty.agg,Value.cells]
 | map o a b =>
  obtain ⟨_,_,_,hu,_⟩:=a47 hT;rw [hd] at hu; cases hu;simp only [Cell.okWide,hd,Cell.ok] at h;cases v<;>simp_all [j9,Ty.agg,Value.cells]
 | box o g a =>
  cases g with
  | none =>
   obtain ⟨_,_,hu,_⟩:=a8v hT;rw [hd] at hu; cases hu;simp only [Cell.okWide,hd,Cell.ok] at h;cases v<;>simp_all [j9,Ty.agg,Value.cells]
  | some f =>
   obtain ⟨_,_,_,hu⟩:=b1x hT;rw [hd] at hu; cases hu;simp only [Cell.okWide,hd,Cell.ok] at h;cases v<;>simp_all [j9,Ty.agg,Value.cells]
 | d0 o u =>
  obtain ⟨e,_,hu,_⟩:=E6 hT;rw [hd] at hu; cases hu;simp only [Cell.okWide,hd,Cell.ok] at h;cases v<;>simp_all [j9,Ty.agg,Value.cells]
 | hole u =>
  obtain ⟨e,hu⟩:=b1w hT;rw [hd] at hu; cases hu;simp only [Cell.okWide,hd,Cell.ok] at h;cases v<;>simp_all [j9,Ty.agg,Value.cells]
 | w6 u =>
  obtain ⟨e,hu⟩:=b3C hT;rw [hd] at hu; cases hu;simp only [Cell.okWide,hd,Cell.ok] at h;cases v<;>simp_all [j9,Ty.agg,Value.cells]
 | _ =>
  cases d<;>first|(exact (Bool.false_ne_true cV.symm).elim)|skip
  all_goals
   obtain ⟨cs,rfl,_⟩:=h;simp [j9,Ty.agg,Value.cells]
def a45 (P:Program):List TypeId->List Ty->Bool
 | [],[]=>true
 | T::ts,t::us=>n8 P 100 T t && t.flat && P.readableRec T && decide (T<P.types.size) && a45 P ts us
 | _,_=>false
def a7L:(us:List Ty)->DK (us.map .v)->Nat
 | [],_=>0
 | t::us,x=>t.R9 x.1+a7L us x.2
theorem a9M:∀ {ts:List TypeId} {us:List Ty},a45 P ts us=true->∀ {vs:List Value} {ds:List (DataW X)} {ps:List MemPlace} {base:Nat} {r:Go.Reach},DataW.TrodAll enc P W 0 sp held ts vs ds ps ->
  (∀ (j:Nat) T v,ts[j]?=some T->vs[j]?=some v->Value.okWide P W r base T v)->∃ x:DK (us.map .v),R2 W.heap (λ b=>b<W.heap.size) (us.map .v) vs x []/\ds.length=ts.length/\a7L us x<=Q8 ds
 | [],[],_,vs,ds,ps,base,r,h,_=>by
  obtain ⟨rfl,rfl,rfl⟩:=trodAll_nil h;exact ⟨(),⟨rfl,rfl⟩,rfl,Nat.le_refl _⟩
 | [],_::_,h,_,_,_,_,_,_,_=>by cases h
 | _::_,[],h,_,_,_,_,_,_,_=>by cases h
 | T::ts,t::us,cF,vs,ds,ps,base,r,h,aP=>by
  simp only [a45,Bool.and_eq_true] at cF;obtain ⟨⟨⟨⟨h1,h2⟩,_⟩,_⟩,h5⟩:=cF;obtain ⟨v,vs',d,ds',p,q,rfl,rfl,rfl,⟨fuel,hv⟩,hr⟩:=trodAll_cons h;obtain ⟨y,hy,hb⟩:=(a9B t h2).1 h1 hv;obtain ⟨x,hx,hl,eL⟩:=a9M h5 hr (λ j T v hT hv=>aP (j+1) T v (by simpa using hT) (by simpa using hv));exact ⟨(y,x),⟨v,vs',[],[],rfl,rfl,⟨rfl,_,b6O h1 (aP 0 T v rfl rfl),hy⟩,hx⟩,by simp [hl],by simp only [a7L,Q8]; exact Nat.add_le_add hb eL⟩
theorem a55 (hl:laidOutB P=true) (hb:Below W.heap.size W W'):∀ {ts:List TypeId} {us:List Ty},a45 P ts us=true->∀ {vs:List Value} {ds:List (DataW X)} {ps:List MemPlace},DataW.TrodAll enc P W 0 (λ _=>true) true ts vs ds ps ->
  (∀ p∈ps,p.block<W.heap.size)->(∀ p∈ps,sp p.block=true)->DataW.TrodAll enc P W' 0 sp true ts vs ds ps
 | [],[],_,vs,ds,ps,h,_,_=>by
  obtain ⟨rfl,rfl,rfl⟩:=trodAll_nil h;rfl
 | [],_::_,h,_,_,_,_,_,_=>by cases h
 | _::_,[],h,_,_,_,_,_,_=>by cases h
 | T::ts,t::us,cF,vs,ds,ps,h,bo,hJ=>by
  simp only [a45,Bool.and_eq_true] at cF;obtain ⟨⟨⟨⟨_,_⟩,h3⟩,h4⟩,h5⟩:=cF;obtain ⟨v,vs',d,ds',p,q,rfl,rfl,rfl,hv,hr⟩:=trodAll_cons h;refine trodAll_cons_mk (WideElems.Trod_stays hl h3 (of_decide_eq_true h4) hv (λ x hx=>hb.same (bo x (by simp [hx]))) (λ x hx=>hJ x (by simp [hx]))) ?_;exact a55 hl hb h5 hr (λ x hx=>bo x (by simp [hx])) (λ x hx=>hJ x (by simp [hx]))
def c3z (us:List Ty) (pre:DK (us.map .v)->Prop):p9:={ ps:=us.map .v,rs:=[.bool],pre:=pre,fn:=λ _=>(true,()),out:=λ _=>c4Y us }
where c4Y:(us:List Ty)->DL (F4 (us.map .v))
 | []=>()
 | _::us=>c4Y us
theorem b7u:∀ us:List Ty,(us.map PK.v).any PK.lnk=false
 | []=>rfl
 | _::us=>b7u us
theorem c1B {C:Checked} {f:FuncId} {fn:Func} {s:ChangeSpec} {apart fresh handsOn again:Bool} {us:List Ty} {tb:TypeId} {pre:DK (us.map .v)->Prop}
  (hl:laidOutB C.prog=true) (cF:a45 C.prog fn.params.toList us=true) (eZ:s.vars=[]) (hs:∀ ds:List (DataW X),ds.length=fn.params.toList.length->s.fn X ds={ results:=[.lit (.bool true)],args:=ds })
  (dY:fn.resultTypes=#[tb]) (mC:C.prog.underlying tb=some .bool) (hv:(c3z us pre).Valid C.prog f)
  {W:World} (dk:a0v C.prog W (λ b=>b<W.heap.size)) {base:Nat} {args:Array Value} {ds gs:List (DataW X)} {before:List MemPlace} {rr:Go.Reach} (bm:∀ x,a7L us x<=Q8 ds->pre x)
  (dV:∀ (j:Nat) t v,fn.params[j]?=some t->args[j]?=some v->Value.okWide C.prog W rr base t v) (hW:DataW.Whole enc C.prog fn.params.toList s.vars apart W args.toList ds gs before) :
  Calls C.prog f args W λ e W'=>∃ v,e=.returned v/\s.post enc C.prog fn apart fresh handsOn again W args v W':=by
 have bo:=DataW.Whole.lt hW;have pV:=hW;obtain ⟨p,q,hA,hV,rfl,hz,hn⟩:=hW;rw [eZ] at hV;obtain ⟨rfl,rfl⟩:=trodVars_none hV;simp only [List.append_nil] at bo hz hn pV;obtain ⟨x,hx,hlen,ki⟩:=a9M cF hA (λ j T v hT hv=>dV j T v (by simpa using hT) (by simpa using hv));have hc:=hv.run W (λ b=>b<W.heap.size) args.toList x [] (λ _ h=>h) dk (bm x ki) hx (a1F (b7u us)) List.nodup_nil (by simp);refine Calls.mono (by simpa using hc) ?_;rintro e w' ⟨us',O,Lo,S',rfl,bj,_,_,⟨v,us2,O1,O2,cs,rfl,rfl,rfl,hR,eM⟩,_,_,_⟩;have hb:RowKit.Below W.heap.size W w':=⟨bj.os,bj.tape.1,bj.out,bj.size,λ k hk=>bj.frame k hk (by simp)⟩;obtain ⟨rfl,rfl⟩:=eM;obtain ⟨_,rfl⟩:=hR;have ny:a3t [j9 .bool [.bool ((c3z us pre).fn x).1]]=.bool true:=rfl;rw [ny];have gQ:=hs ds hlen;have aF:∀ sp:Nat->Bool,(∀ x∈p,sp x.block=true)->DataW.TrodAll enc C.prog w' 0 sp true fn.params.toList args.toList ds p:=λ sp hJ=>a55 hl hb cF hA bo hJ;have cR:∀ (b:Nat) (sp:Nat->Bool) (hd:Bool),DataW.TrodAll enc C.prog w' b sp hd fn.resultTypes.toList ((Value.bool true).resultList fn.resultTypes.size) [.lit (.bool true)] []:=by
  intro b sp hd;rw [dY];exact trodAll_cons_mk (shut_bool mC _) trodAll_mk0
 have gZ:∀ sp:Nat->Bool,DataW.TrodVars enc C.prog w' sp s.vars [] []:=by intro sp; rw [eZ]; rfl
 have hold:∀ x∈p,(λ b=>decide (b<W.heap.size)) x.block=true:=λ x hx=>by simpa using bo x hx
 refine ⟨_,rfl,ds,[],p,[],p,[],pV,?_,?_,?_,?_,?_⟩
 ·rw [List.append_nil,gQ]; exact cR _ _ _
 ·rw [List.append_nil,gQ]; exact aF _ hold
 ·rw [List.append_nil,gQ]; exact gZ _
 ·exact hb.frame _
 ·intro _
  refine ⟨ok_one dY rfl (okWide_bool_mk mC _),.lit (.bool true)::ds,[],p,⟨[]++p,[],trodAll_append (aF _ (λ _ _=>rfl)) (cR _ _ _),gZ _,by simp,?_,?_⟩,λ x hx _=>by simpa using hx⟩
  ·intro b off hp
   rw [hb.frozen (bo _ hp)];exact hz b off hp
  ·exact hn
def c1c (us:List Ty):p9:=c3z us (λ x=>a7L us x<=1048576)
end
end Go.Ex
