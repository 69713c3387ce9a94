import Derived.Test.YtijlnmgondibnaaGreatDoorExK3
import Derived.Laws.AppendOwn
import Derived.Laws.BytesString
import Derived.Laws.IdiomStrings
import Derived.Deep.AppendSrc
set_option linter.unusedVariables false
set_option linter.unusedSimpArgs false
set_option linter.unusedSectionVars false
namespace Go.Ex
section
variable {E:Env} {B:E6} {S S':Nat->Prop} {ι:Ix} {s:St} {a:Act} {w:World} {hp:List (Nat×i6)} {H H':Array Go.Obj}
def bxV (g:Option Nat) (i:Nat):AV:=match g with|none=>.ptr i []|some f=>.C7 f (.cons (.ptr i []) .nil)
theorem Ke (t:Ty) (x:t.den) (i:Nat):vQ t x i=(.own t x,.at_ i [])\/∃ g u y,(⟨t,x⟩:Sigma Ty.den)=⟨.box true g u,some y⟩/\vQ t x i=(.var u y,bxV g i):=by
 unfold vQ
 split
 ·exact .inr ⟨none,_,_,rfl,rfl⟩
 ·exact .inr ⟨some _,_,_,rfl,rfl⟩
 ·exact .inl rfl
theorem ZO {t:Ty} {x:t.den} {i k:Nat} (h:k≠i):(vQ t x i).2.i8 k=false:=by
 rcases Ke t x i with e|⟨g,u,y,_,e⟩
 ·rw [e]; exact yu h
 ·rw [e]
  cases g with
  | none=>exact yu h
  | some f=>show (AV.i8 k (.ptr i []) || false)=false; rw [aDi]; exact yu h
theorem c1j {t:Ty} {x:t.den} {i:Nat} {O:List Nat} {cs:List Value} (hR:g9 H S t O cs x) (aJ:O.Nodup):∃ ι1,(∀ j,j≠i->F0 ι ι1 j)/\OB H S ι1 i (vQ t x i).1/\(∀ b∈l7 ι1 i (vQ t x i).1,b∈O) /\
  VX H S ι1 (Ex.put i (vQ t x i).1 hp) (vQ t x i).2 [l5 t cs]:=by
 rcases Ke t x i with e|⟨g,u,y,e0,e⟩
 ·rw [e]
  exact ⟨ι.V6 i cs O,λ j hj=>FG hj _ _,⟨⟨O,by simp [Ix.V6],by simpa [Ix.V6] using hR⟩,by simpa [Ix.V6] using aJ⟩,by intro b hb; simpa [l7,Ix.V6] using hb,Aq hR.length⟩
 ·cases e0
  rw [e];rcases hR with ⟨h0,_⟩|⟨z,b,off,O',h0,rfl,h2,h3,rfl,h5⟩
  ·cases h0
  cases h0;have bf:b<H.size:=by obtain ⟨_,_,⟨_,e,_⟩,_⟩:=h5; exact (aAo.1 e).1
  refine ⟨ι.V0 i (b,off) O',λ j hj=>LG hj _ _,⟨⟨O',by simp [Ix.V0],by simpa [Ix.V0] using h3⟩,by simpa [Ix.V0] using h5,by simpa [Ix.V0] using aJ⟩,by intro c hc; simpa [l7,Ix.V0] using hc,?_⟩;have hp:VX H S (ι.V0 i (b,off) O') (Ex.put i (.var u y) hp) (.ptr i []) [.pointer (some ⟨b,off,none⟩)]:=by
   refine ⟨.var u y,b,off,by simp [o7],O6,?_,rfl⟩;simp only [Loc,Place,VR,VH,y9,Ix.V0,if_true,bf]
  cases g with
  | none=>exact hp
  | some f=>exact ⟨[.pointer (some ⟨b,off,none⟩)],rfl,_,_,rfl,hp,rfl⟩
theorem LQ:∀ {ts:List Ty} {x:DL ts} {d j:Nat} {ι:Ix} {hp:List (Nat×i6)} {l:AV} {cE:List (Nat×i6)} {O:List Nat} {us:List Value},Y6 ts x d j hp=some (l,cE)->HS B S ι hp w->M3 w.heap S ts O us x ->
  F2 B S ι hp w O->∃ ι',HS B S ι' cE w/\VX w.heap S ι' cE l us/\(∀ v vs,(∀ k,j<=k->k<j+ts.length->v.i8 (P7 d k)=false)->VX w.heap S ι hp v vs->VX w.heap S ι' cE v vs)
 | [],x,d,j,ι,hp,l,cE,O,us,hl,h,hR,_=>by
  simp only [Y6,aAc,aAx] at hl;obtain ⟨rfl,rfl⟩:=hl;exact ⟨ι,h,hR.2,λ v vs _ hv=>hv⟩
 | t::ts,x,d,j,ι,hp,l,cE,O,us,hl,h,⟨v1,us1,O1,O2,cs,e1,e2,e3,h1,h2⟩,hF=>by
  subst e2;have ez:=aAg.1 hF.1;simp only [Y6] at hl;split at hl
  ·rename_i hs
   split at hl
   ·rename_i l' eU eA
    cases hl;have ch:=h1.O7 hs;subst ch;obtain ⟨ι',k1,k2,k3⟩:=LQ eA h h2 (hF.sub ez.2.1 (λ b hb=>by simp [hb]));refine ⟨ι',k1,⟨v1,us1,e1,⟨cs,by rw [e3],h1⟩,k2⟩,λ v vs hm hv=>k3 v vs (λ k jB eW=>hm k (by omega) (by simp; omega)) hv⟩
   ·cases hl
  ·split at hl
   ·cases hl
   ·rename_i df
    split at hl
    ·rename_i l' eU eA
     cases hl;have hd:look (P7 d j) hp=none:=df;obtain ⟨ι1,hs,py,dE,jI⟩:=c1j (hp:=hp) (ι:=ι) (i:=P7 d j) h1 ez.1;have hH:HS B S ι1 (Ex.put (P7 d j) (vQ t x.1 (P7 d j)).1 hp) w:=h.add hd hs py (O:=O1) dE (hF.sub ez.1 (λ b hb=>by simp [hb]));have nK:F2 B S ι1 (Ex.put (P7 d j) (vQ t x.1 (P7 d j)).1 hp) w O2:=by
      refine ⟨ez.2.1,λ b hb=>?_⟩;obtain ⟨q1,q2,q3,q4⟩:=hF.2 b (by simp [hb]);refine ⟨q1,q2,q3,λ i e hi=>?_⟩;rw [o7] at hi;by_cases ei:i=P7 d j
      ·subst ei; rw [if_pos rfl] at hi; cases hi
       exact λ eu=>ez.2.2 b (dE b eu) b hb rfl
      ·rw [if_neg ei] at hi
       rw [(hs i ei).l7];exact q4 i e hi
     obtain ⟨ι',k1,k2,k3⟩:=LQ eA hH h2 nK;rw [<- e3] at jI;refine ⟨ι',k1,⟨v1,us1,e1,k3 _ _ (λ k jB eW=>?_) jI,k2⟩,λ v vs hm hv=>?_⟩
     ·exact ZO (by simp only [P7]; omega)
     ·exact k3 v vs (λ k jB eW=>hm k (by omega) (by simp; omega)) (VX.add hs (hm j (aAj _) (by simp)) hv)
    ·cases hl
theorem FF {d:Nat}:∀ {n:Nat} {fr:List (Nat×AV)},xU d n fr=true->∀ k,k<n->wu (P7 d k) fr=true
 | 0,_,_,k,hk=>by omega
 | n+1,fr,h,k,hk=>by
  simp only [xU,aAa] at h;by_cases e:k=n
  ·subst e; exact h.1
  ·exact FF h.2 k (by omega)
theorem Lj:∀ {ts:List Ty} {x:DL ts} {d j:Nat} {hp:List (Nat×i6)} {l:AV} {cE:List (Nat×i6)},Y6 ts x d j hp=some (l,cE)->l.lst=true
 | [],x,d,j,hp,l,cE,h=>by
  simp only [Y6,aAc,aAx] at h;rw [<- h.1]; rfl
 | t::ts,x,d,j,hp,l,cE,h=>by
  simp only [Y6] at h;split at h
  ·split at h
   ·rename_i l' eU eA
    cases h;show l'.lst=true;exact Lj eA
   ·cases h
  ·split at h
   ·cases h
   ·split at h
    ·rename_i l' eU eA
     cases h;show l'.lst=true;exact Lj eA
    ·cases h
theorem YP {l:AV} {us:List Value} (hl:l.lst=true) (h:VX H S ι hp l us):VX H S ι hp l.one [wR us]:=by
 cases l<;>simp only [AV.lst] at hl<;>first|cases hl|skip
 ·have:us=[]:=h
  subst this;exact ⟨[],rfl,rfl⟩
 ·rename_i a b
  obtain ⟨v,us',rfl,ha,hb⟩:=h;cases b<;>simp only [AV.lst] at hl<;>first|cases hl|skip
  ·have:us'=[]:=hb
   subst this; exact ha
  ·obtain ⟨v2,us2,rfl,dE,fx⟩:=hb
   exact ⟨v::v2::us2,rfl,v,_,rfl,ha,v2,us2,rfl,dE,fx⟩
theorem VX.app {l m:AV}:∀ {us vs:List Value},l.lst=true->VX H S ι hp l us->VX H S ι hp m vs->VX H S ι hp (l.app m) (us++vs):=by
 induction l<;>intro us vs hl h hm<;>simp only [AV.lst] at hl<;>first|cases hl|skip
 ·have:us=[]:=h
  subst this; exact hm
 ·rename_i a b _ ihb
  obtain ⟨v,us',rfl,ha,hb⟩:=h;exact ⟨v,us'++vs,rfl,ha,ihb hl hb hm⟩
theorem OF (s:St):∀ l:List Operand,(s.K3 l).lst=true
 | []=>rfl
 | _::l=>OF s l
theorem Y4:∀ {ks:List PK} {vs:List Value} {y:DL (E8 ks)} {L:List Nat},E8 ks=[]->H4 H S ks vs y L->L=[]
 | [],_,_,_,_,h=>h.2
 | .rw t::ks,_,_,_,e,_=>by cases e
 | .mu t::ks,_,_,_,e,_=>by cases e
 | .v _::ks,_,_,_,e,⟨_,us,_,h⟩=>Y4 (ks:=ks) e h
 | .rd _::ks,_,_,_,e,⟨_,us,_,h⟩=>Y4 (ks:=ks) e h
 | .C7 _ _::ks,_,_,_,e,⟨_,us,_,h⟩=>Y4 (ks:=ks) e h
 | .W6::ks,_,_,_,e,⟨_,us,_,h⟩=>Y4 (ks:=ks) e h
 | .rcs _ _::ks,_,_,_,e,⟨_,us,_,h⟩=>Y4 (ks:=ks) e h
 | .el _::ks,_,_,_,e,⟨_,us,_,h⟩=>Y4 (ks:=ks) e h
 | .own _::ks,_,_,_,e,⟨_,us,_,h⟩=>Y4 (ks:=ks) e h
theorem Bq {k:PK} {v:AV} {x:k.den} {g m:List Nat} (h:v.R7 s k=some (x,g,m)) (hk:(match k with|.rw _|.mu _=>false|_=>true)=true):m=[]:=by
 cases k with
 | v t=>simp only [AV.R7] at h; split at h<;>cases h; rfl
 | rd t=>simp only [AV.R7] at h; split at h<;>cases h; rfl
 | C7 f ts =>
  cases v<;>simp only [AV.R7] at h<;>first|cases h|skip
  split at h
  ·split at h<;>cases h; rfl
  ·cases h
 | W6=>simp only [AV.R7] at h; split at h<;>cases h; rfl
 | rcs f n=>simp only [AV.R7] at h; cases h
 | el q=>simp only [AV.R7] at h; cases h
 | own t =>
  simp only [AV.R7] at h;split at h
  ·split at h<;>cases h; rfl
  ·split at h
   ·split at h<;>cases h; rfl
   ·cases h
 | rw t=>cases hk
 | mu t=>cases hk
def VN (H':Array Go.Obj) (S':Nat->Prop) (ι:Ix) (i:Nat) (e':i6) (L:List Nat):Prop :=
 ∃ O',OB H' S' (ι.C6 i O') i e'/\L=l7 (ι.C6 i O') i e'
theorem Ao (h:HS B S ι s.hp w):∀ {ks:List PK} {v:AV} {x:DK ks} {vs:List Value} {g m:List Nat} {y:DL (E8 ks)} {s1 s2:St} {L:List Nat},AV.vu s ks v=some (x,g,m)->VX w.heap S ι s.hp v vs->wr ks y m s1=some s2->H4 H' S' ks vs y L->L.Nodup ->
  (m=[]/\s2=s1/\L=[])\/(∃ i e e',m=[i]/\look i s.hp=some e/\BF e e'/\s2=(s1.X3 i e.vB).w8 i e'/\VN H' S' ι i e' L)
 | [],v,x,vs,g,m,y,s1,s2,L,hx,hv,hw,ho,aJ=>by
  cases v<;>simp only [AV.vu] at hx<;>first|cases hx|skip
  simp only [wr,aAc] at hw;exact .inl ⟨rfl,hw.symm,ho.2⟩
 | k::ks,v,x,vs,g,m,y,s1,s2,L,hx,hv,hw,ho,aJ=>by
  cases v<;>simp only [AV.vu] at hx<;>first|cases hx|skip
  rename_i a b;split at hx
  ·rename_i x1 g1 m1 x2 g2 m2 h1 h2
   cases hx;obtain ⟨v,us,rfl,ha,hb⟩:=hv;cases k with
   | v t =>
    have:=Bq h1 rfl; subst this;obtain ⟨v',us',e,eV⟩:=ho;cases e;exact Ao h h2 hb hw eV aJ
   | rd t =>
    have:=Bq h1 rfl; subst this;obtain ⟨v',us',e,eV⟩:=ho;cases e;exact Ao h h2 hb hw eV aJ
   | C7 f ts =>
    have:=Bq h1 rfl; subst this;obtain ⟨v',us',e,eV⟩:=ho;cases e;exact Ao h h2 hb hw eV aJ
   | W6 =>
    have:=Bq h1 rfl; subst this;obtain ⟨v',us',e,eV⟩:=ho;cases e;exact Ao h h2 hb hw eV aJ
   | own t =>
    have:=Bq h1 rfl; subst this;obtain ⟨v',us',e,eV⟩:=ho;cases e;exact Ao h h2 hb hw eV aJ
   | rcs f n=>simp only [AV.R7] at h1; cases h1
   | el q=>simp only [AV.R7] at h1; cases h1
   | rw t =>
    simp only [AV.R7] at h1;split at h1
    ·rename_i i
     split at h1
     ·rename_i u z aS
      split at h1
      ·rename_i hu; subst hu; cases h1
       obtain ⟨e,b0,off,q1,q2,q3,q4⟩:=ha;obtain rfl:=wG q1 aS;have hl:(ι.root i).1=b0/\(ι.root i).2=off:=by
        have:=(C8 q3).1;simp only [Place,y9,VR,aAc,aAx] at this;exact this
       obtain ⟨rfl,rfl⟩:=hl;obtain ⟨b1,off1,O,us',L',r1,r2,r3,r4,r5⟩:=ho;have q4:v=.pointer (some ⟨(ι.root i).1,(ι.root i).2,none⟩):=by simpa using q4
       rw [q4] at r1;simp only [aBa,Value.pointer.injEq,aAc,Addr.mk.injEq,and_true] at r1;obtain ⟨⟨rfl,rfl⟩,rfl⟩:=r1;cases m2 with
       | cons j m2=>simp [wr] at hw
       | nil =>
        simp only [aBc,wr] at hw;split at hw
        ·rename_i kD
         cases hw;have:=Y4 kD r5;subst this;rw [aBc] at r4;subst r4;exact .inr ⟨i,_,.var u y.1,rfl,q1,.inl ⟨u,z,y.1,rfl,rfl⟩,rfl,O,⟨⟨O,by simp [Ix.C6],r2⟩,r3,by simpa [Ix.C6] using aJ⟩,by simp [l7,Ix.C6]⟩
        ·cases hw
      ·cases h1
     ·cases h1
    ·cases h1
   | mu t =>
    simp only [AV.R7] at h1;split at h1
    ·rename_i i
     split at h1
     ·rename_i u z aS
      split at h1
      ·rename_i hu; subst hu; cases h1
       obtain ⟨e,u',y',cs,q1,q2,q3,q4,q5⟩:=ha;obtain rfl:=wG q1 aS;have q3:j9 (.d0 true t) z []=some ⟨u',y'⟩:=q3;rw [C1] at q3; cases q3;obtain ⟨⟨O0,_,fD⟩,_⟩:=h.ob i _ q1;have hcs:=U4 q4 fD.length;obtain ⟨cs1,O,us',L',r1,r1',r2,r4,r5⟩:=ho;have q5:v=l5 (.d0 true t) cs:=by simpa using q5
       rw [q5] at r1;have cD:cs.length=1:=by rw [hcs]; exact fD.length
       have cU:cs1=cs:=by
        match cs,cs1,cD,r1' with
        | [c],[c'],_,_ =>
         simp only [aBa,l5,Ty.agg] at r1;have:=r1.1;simp at this;rw [this]
       subst cU;cases m2 with
       | cons j m2=>simp [wr] at hw
       | nil =>
        simp only [aBc,wr] at hw;split at hw
        ·rename_i kD
         cases hw;have:=Y4 kD r5;subst this;rw [aBc] at r4;subst r4;exact .inr ⟨i,_,.own (.d0 true t) y.1,rfl,q1,.inr (.inl ⟨t,z,y.1,rfl,rfl⟩),rfl,L,⟨⟨L,by simp [Ix.C6],by rw [show (ι.C6 i L).cells i=cs1 from hcs.symm]; exact r2⟩,by simpa [Ix.C6] using aJ⟩,by simp [l7,Ix.C6]⟩
        ·cases hw
      ·cases h1
     ·cases h1
    ·cases h1
  ·cases hx
end
end Go.Ex
namespace Go.Ex
section
variable {E:Env} {B:E6} {S S':Nat->Prop} {ι:Ix} {s:St} {a:Act} {w:World} {hp:List (Nat×i6)} {H H':Array Go.Obj}
theorem RS.share (h:RS B S ι s a w) (hS:∀ b,S b->S' b) (iR:∀ b,S' b->S b\/((B.w0.heap.size<=b\/B.M b)/\b<w.heap.size/\∀ i e,look i s.hp=some e->b∉l7 ι i e)):RS B S' ι s a w:=by
 refine ⟨⟨h.hs.os,h.hs.tape,h.hs.out,h.hs.size,h.hs.frame,?_,λ b hb=>hS b (h.hs.s0 b hb),?_,?_,?_,h.hs.dj,h.hs.pin⟩,h.dfr,h.sz,λ t v hv=>?_⟩
 ·intro b hb; rcases iR b hb with h1|h1; exact h.hs.slt b h1; exact h1.2.1
 ·intro b hb; rcases iR b hb with h1|h1; exact h.hs.s1 b h1; exact .inr h1.1
 ·intro i e hi; exact (h.hs.ob i e hi).u5 (λ _ _=>rfl) hS
 ·intro i e hi b hb
  obtain ⟨q1,q2,q3⟩:=h.hs.bl i e hi b hb;exact ⟨λ hs=>by rcases iR b hs with h1|h1; exact q1 h1; exact h1.2.2 i e hi hb,q2,q3⟩
 ·exact VX.grow (λ _ _=>rfl) hS h.hs.slt h.hs.ob (h.fr t v hv)
theorem Ly (hE:D3 E B) (h:RS B S ι s a w) {o:Oper} {c:Call} (ho:o.op=.call c) {f:Operand} (hf:c.callee=.value f) {g:FuncId} {caps:AV} {us:List Value} (he:a.eval f=.func (.func g) #[] us.toArray) (cO:VX w.heap S ι s.hp caps us) :
  F1 E.P B o a w (T9 E g ((s.K3 c.args.toList).app caps) o.dst s):=by
 have aH:=VX.app (OF s _) (h.K3 c.args.toList) cO;generalize rG:(s.K3 c.args.toList).app caps=av at *
 unfold T9
 split
 ·trivial
 ·rename_i ct oq
  have hV:=hE.C9 g ct oq
  split
  ·trivial
  ·rename_i x gs ms hx
   split
   ·trivial
   ·rename_i bH
    split
    ·trivial
    ·rename_i s2 oL
     split
     ·trivial
     ·rename_i gj
      split
      ·rename_i l cE hl
       intro bc next Q hn
       simp only [aAa,aBo] at bH;obtain ⟨⟨⟨⟨jB,eW⟩,tc⟩,ta⟩,_⟩:=bH;obtain ⟨fn,jF,fS,gT⟩:=hV.ent;have mK:=CS jB
       let S1:Nat->Prop:=λ b=>S b\/N4 ι s.hp (T9.loose ct.ps av) b
       obtain ⟨L,hK,fF,dZ,oC⟩:=JC (S1:=S1) h.hs (λ b hb=>.inl hb) hx aH mK (λ b hb=>.inr hb);have gw:∀ b,S1 b->b<w.heap.size:=by
        rintro b (hb|⟨i,e,h1,h2,h3⟩)
        ·exact h.hs.slt b hb
        ·exact (h.hs.bl i e h2 b h3).2.2
       have oD:∀ b∈L,¬ S1 b/\b<w.heap.size:=by
        intro b hb;obtain ⟨i,e,h1,h2,h3⟩:=dZ b hb;obtain ⟨q1,q2,q3⟩:=h.hs.bl i e h2 b h3;refine ⟨?_,q3⟩;rintro (hs|⟨j,ej,r1,r2,r3⟩)
        ·exact q1 hs
        ·have bS:i≠j:=by rintro rfl; exact Rk eW i h1 r1
         exact h.hs.dj i j e ej h2 r2 bS b h3 r3
       have iO:Calls E.P g (c.args.toList.map a.eval++us).toArray w (λ e w'=>∃ rs O Lo S',e=.returned (wR rs)/\D0 L w w'/\(∀ b,S1 b->S' b)/\(∀ b,S' b->S1 b\/((w.heap.size<=b\/b∈L)/\b<w'.heap.size)) /\
         M3 w'.heap S' ct.rs O rs (ct.fn x)/\H4 w'.heap S' ct.ps (c.args.toList.map a.eval++us) (ct.out x) Lo/\(O++Lo).Nodup/\(∀ b∈O++Lo,¬ S' b/\(w.heap.size<=b\/b∈L)/\b<w'.heap.size) /\
         (ct.new=true->M3 w'.heap (λ b=>S' b/\w.heap.size<=b) ct.rs O rs (ct.fn x))):=by
        cases sE:ct.new with
        | true=>exact (hV.fresh sE w S1 _ x L gw ((hE.gb.at_ h.hs).sub (λ b hb=>.inl hb)) bc hK (CI (Ce hx)) fF oD).mono (λ e w' ⟨rs,O,Lo,S',a1,a2,a3,a4,a5,a6,a7,a8,a9⟩=>⟨rs,O,Lo,S',a1,a2,a3,a4,a5,a6,a7,a8,λ _=>a9⟩)
        | false=>exact (hV.run w S1 _ x L gw ((hE.gb.at_ h.hs).sub (λ b hb=>.inl hb)) bc hK (CI (Ce hx)) fF oD).mono (λ e w' ⟨rs,O,Lo,S',a1,a2,a3,a4,a5,a6,a7,a8⟩=>⟨rs,O,Lo,S',a1,a2,a3,a4,a5,a6,a7,a8,λ h=>by cases h⟩)
       unfold Oper.wp;have aP:(execOp a.eval o).run E.P w=.ok (.enter g (c.args.toList.map a.eval++us).toArray) w:=by
        have cF:fn.body.isNone=false:=gT;have hq:(fn.name == "runtime.NumGoroutine")=false:=fS
        simp only [execOp,ho,resolve,hf,he,Deferred.ofValue,Sem.run_bind,Sem.run_pure,Result.andThen,invoke,callFunc,program];simp [Sem.run,jF,hq,cF]
       rw [aP];refine Calls.mono iO ?_;rintro e w' ⟨rs,O,Lo,S',e1,bj,iy,jr,eK,eL,aJ,hO,dH⟩;subst e1;have aW:=bj.size;have hd:=h.w9 (g:=gs) (by simpa using tc);have pX:∀ i∈gs,i∉ms:=λ i hi hm=>(aAg.1 mK).2.2 i hi i hm rfl;have main:∀ S2:Nat->Prop,(∀ b,S b->S2 b)->(∀ b,S2 b->S b\/((w.heap.size<=b\/b∈L)/\b<w'.heap.size))->(∀ b∈O++Lo,¬ S2 b)->M3 w'.heap S2 ct.rs O rs (ct.fn x)->H4 w'.heap S2 ct.ps (c.args.toList.map a.eval++us) (ct.out x) Lo->next (a.put o.dst (wR rs)) w':=by
        intro S2 rK nG oA mj mA;have rP:∀ {L':List Nat},L'.Nodup->(∀ b∈L',b∈L)->(∀ b∈L',∀ i e,i∈ms->look i s.hp=some e->b∉l7 ι i e)->F2 B S ι (St.w9 gs s).hp w L':=by
         intro L' jY bU kQ;refine F2.w9 h.hs jY (λ b hb=>?_);obtain ⟨i,e,q1,q2,q3⟩:=dZ b (bU b hb);rcases aAi.1 q1 with q1|q1
         ·exact ⟨i,e,q1,q2,q3⟩
         ·exact absurd q3 (kQ b hb i e q1 q2)
        have fin:∀ {ι2:Ix},RS B S2 ι2 s2 a w'->F2 B S2 ι2 s2.hp w' O->next (a.put o.dst (wR rs)) w':=by
         intro ι2 fy nK;obtain ⟨ι',k1,k2,k3⟩:=LQ hl fy.hs mj nK;refine hn S2 ι' w' (wR rs) ⟨k1,fy.dfr,fy.sz,λ t v hv=>?_⟩ (YP (Lj hl) k2);exact k3 v _ (λ k jB eW=>CR (FF gj k (by omega)) hv) (fy.fr t v hv)
        have nI:∀ b∈O,¬ S2 b/\(B.w0.heap.size<=b\/B.M b)/\b<w'.heap.size:=by
         intro b hb;obtain ⟨q1,q2,q3⟩:=hO b (aBb _ hb);refine ⟨oA b (aBb _ hb),?_,q3⟩;rcases q2 with q2|q2
         ·exact .inl (aAv h.hs.size q2)
         ·obtain ⟨i,e,_,r2,r3⟩:=dZ b q2
          exact (h.hs.bl i e r2 b r3).2.1
        have rL:∀ b∈O,∀ j ej,j∉gs->j∉ms->look j s.hp=some ej->b∉l7 ι j ej:=by
         intro b hb j ej pT ja di jd;obtain ⟨q1,q2,q3⟩:=hO b (aBb _ hb);rcases q2 with q2|q2
         ·have:=(h.hs.bl j ej di b jd).2.2; omega
         ·obtain ⟨i,e,r1,r2,r3⟩:=dZ b q2
          have bS:i≠j:=by rintro rfl; rcases aAi.1 r1 with r1|r1; exact pT r1; exact ja r1
          exact h.hs.dj i j e ej r2 di bS b r3 jd
        rcases Ao h.hs hx aH oL mA (aAg.1 aJ).2.1 with ⟨rfl,rfl,rfl⟩|⟨i,e,e',rfl,hi,eP,rfl,O',aS,lY⟩
        ·
         have hF:=rP fF (λ b hb=>hb) (by simp);have jK:=hd.vn hF bj;have fy:RS B S2 ι (St.w9 gs s) a w':=jK.share rK (λ b hb=>by
          rcases nG b hb with h1|h1
          ·exact .inl h1
          ·rcases h1.1 with h2|h2
           ·refine .inr ⟨.inl (aAv h.hs.size h2),h1.2,λ j ej hj jd=>?_⟩
            have:=(hd.hs.bl j ej hj b jd).2.2; omega
           ·exact .inr ⟨(hF.2 b h2).2.1,h1.2,(hF.2 b h2).2.2.2⟩)
         refine fin fy ⟨(aAg.1 aJ).1,λ b hb=>?_⟩;obtain ⟨q1,q2,q3⟩:=nI b hb;refine ⟨q1,q2,q3,λ j ej hj=>?_⟩;rw [J9] at hj;split at hj
         ·cases hj
         ·rename_i fV; exact rL b hb j ej fV (by simp) hj
        ·
         have th:i∉gs:=λ cN=>pX i cN (by simp);have cN:look i (St.w9 gs s).hp=some e:=by rw [J9,if_neg th]; exact hi
         have hF:=rP (L':=L.filter (λ b=>!(l7 ι i e).contains b)) (fF.filter _) (λ b hb=>(aBt.1 hb).1) (λ b hb j ej hj di=>by
          simp only [aAp,aDq,or_false] at hj;subst hj;rw [hi] at di; cases di;have:=(aBt.1 hb).2;simpa using this)
         have fy:=hd.renew cN eP hF bj (λ b hb=>by
          by_cases ku:b∈l7 ι i e
          ·exact .inl ku
          ·exact .inr (aBt.2 ⟨hb,by simpa using ku⟩)) rK nG aS (λ c hc=>by
           rw [<- lY] at hc;obtain ⟨q1,q2,q3⟩:=hO c (aBr _ hc);exact ⟨oA c (aBr _ hc),q2,q3⟩)
         refine fin fy ⟨(aAg.1 aJ).1,λ b hb=>?_⟩;obtain ⟨q1,q2,q3⟩:=nI b hb;refine ⟨q1,q2,q3,λ j ej hj=>?_⟩;simp only [St.w8,o7] at hj;by_cases dG:j=i
         ·subst dG
          rw [if_pos rfl] at hj; cases hj;rw [<- lY];exact λ bO=>(aAg.1 aJ).2.2 b hb b bO rfl
         ·rw [if_neg dG] at hj
          have hj:look j (St.w9 gs s).hp=some ej:=hj;rw [(X6 dG O').l7];rw [J9] at hj;split at hj
          ·cases hj
          ·rename_i fV; exact rL b hb j ej fV (by simpa using dG) hj
       rcases ta with ⟨gO|gO,mG⟩|hle
       rotate_left
       ·refine main (λ b=>S b\/(S' b/\w.heap.size<=b)) (λ _ h=>.inl h) (λ b hb=>?_) (λ b hb hs=>?_) ?_ (eL.K0 mG)
        ·rcases hb with hb|⟨hb,fx⟩
         ·exact .inl hb
         ·rcases jr b hb with h1|h1
          ·have:=gw b h1; omega
          ·exact .inr ⟨.inl fx,h1.2⟩
        ·rcases hs with hs|hs
         ·exact (hO b hb).1 (iy b (.inl hs))
         ·exact (hO b hb).1 hs.1
        ·exact (dH gO).mono (λ b hb=>.inr hb)
       rotate_left
       ·exact main S (λ _ h=>h) (λ b hb=>.inl hb) (λ b hb hs=>(hO b hb).1 (iy b (.inl hs))) (eK.K0 gO) (eL.K0 mG)
       ·have iX:T9.loose ct.ps av=[]:=by
         revert hle;cases T9.loose ct.ps av with
         | nil=>intro _; rfl
         | cons x y=>intro h; cases h
        refine main S' (λ b hb=>iy b (.inl hb)) (λ b hb=>?_) (λ b hb=>(hO b hb).1) eK eL;rcases jr b hb with (h1|⟨i,e,h1,_⟩)|h1
        ·exact .inl h1
        ·rw [iX] at h1; cases h1
        ·exact .inr h1
      ·trivial
theorem F1.yd {P:Program} {o:Oper} {r:OR} {p:Prop} (h:p->F1 P B o a w r):F1 P B o a w (r.yd p):=by
 cases r with
 | fail y=>trivial
 | ok v s'=>exact λ hp=>h hp.1
 | F8 q v s'=>exact λ hp=>h hp.1 hp.2
theorem Ic (h:RS B S ι s a w) {x:Operand} {g:Nat} {b:Bool} (hx:s.ev x=.val (.fn g) b):a.eval x=fnV g b:=by
 obtain ⟨cs,e,_,rfl⟩:=C3 h hx;simpa [l5,Ty.agg] using e
end
end Go.Ex
namespace Go.Ex
section
variable {E:Env} {B:E6} {S S':Nat->Prop} {ι ι':Ix} {s:St} {a:Act} {w w':World} {hp:List (Nat×i6)} {H H':Array Go.Obj}
end
end Go.Ex
namespace Go.Ex
section
variable {E:Env} {B:E6} {S S':Nat->Prop} {ι:Ix} {s:St} {a:Act} {w:World} {hp:List (Nat×i6)} {H H':Array Go.Obj}
theorem b8z (hE:D3 E B) (h:RS B S ι s a w) {o:Oper} {T:TypeId} {x y:Operand} (ho:o.op=.index T x y):F1 E.P B o a w (m0 E o s):=by
 have he:execOp a.eval o=(do pure (.value (<- Instr.index T (a.eval x) (a.eval y)))):=by simp [execOp,ho]
 unfold m0;rw [ho];simp only
 split
 ·rename_i l k n hx hy
  split
  ·rename_i hc
   intro hn;obtain ⟨ga,_⟩:=VX.zq (C3 h hx);obtain ⟨dF,_⟩:=VX.I4 (C3 h hy);have hu:=U9 (D6 hE hc);exact I9 he h (val:=.int .u8 ((List.getD l (Int.toNat n) 0).toNat:Int)) (by rw [ga,dF]; exact b4Y hu hn) (VX.int (by generalize List.getD l (Int.toNat n) 0=c; have:=c.toNat_lt; unfold r9; simp [IntKind.min,IntKind.max,IntKind.signed,IntKind.bits]; omega))
  ·trivial
 ·rename_i m t z k n hx hy
  split
  ·rename_i hc
   intro hn;obtain ⟨cs,e,hR⟩:=C3 h hx;have e:a.eval x=l5 (.arr m t) cs:=by simpa using e
   obtain ⟨dF,_⟩:=VX.I4 (C3 h hy);obtain ⟨et,k',h1,h2,h3⟩:=Y0 (D6 hE hc);obtain ⟨b1',b2,b3,b4⟩:=E1 (sz:=t.size) hn;obtain ⟨P1,P2,P3,e1,g1,g2,g3⟩:=j5.split (d:=t.s4) (i:=Int.toNat n) (by rw [hR.1]; exact b1') hR.2;have hP:P2=[]:=(aBm.1 (aBm.1 e1.symm).2).1;rw [hP] at g2;refine I9 he h (val:=l5 t ((cs.drop (Int.toNat n*t.size)).take t.size)) ?_ ⟨_,rfl,g2⟩;have hp:=ya (w:=w) h3 g2;rw [e,dF,l5];have jY:0<=(n:Int)/\(n:Int)<m:=hn;simp [Instr.index,asIntOf,p9 h1,Ty.agg,jY,run_sizeOf h3,hp]
  ·trivial
 ·rename_i i p k n hx hy
  split
  ·rename_i m t z cQ
   split
   ·rename_i hc
    obtain ⟨e,u',y',cs,q1,q2,q3,q4,q5⟩:=C3 h hx;have dO:=I3 q1 cQ;rw [q3] at dO; cases dO;have q5:a.eval x=l5 (.arr m t) cs:=by simpa using q5
    obtain ⟨dF,_⟩:=VX.I4 (C3 h hy);obtain ⟨O2,m1,m2,hR⟩:=H5 h.hs q1 q2 q3 q4;obtain ⟨et,k',h1,h2,h3⟩:=Y0 (D6 hE hc);have core:(0<=(n:Int)/\(n:Int)<m)->∃ P2,(∀ c∈P2,c∈O2)/\g9 w.heap S t P2 ((cs.drop (Int.toNat n*t.size)).take t.size) (List.getD z (Int.toNat n) t.s4)/\(Instr.index T (a.eval x) (a.eval y)).run E.P w=.ok (l5 t ((cs.drop (Int.toNat n*t.size)).take t.size)) w:=by
     intro hn;obtain ⟨b1',b2,b3,b4⟩:=E1 (sz:=t.size) hn;obtain ⟨P1,P2,P3,e1,g1,g2,g3⟩:=j5.split (d:=t.s4) (i:=Int.toNat n) (by rw [hR.1]; exact b1') hR.2;refine ⟨P2,λ c hc=>by rw [e1]; simp [hc],g2,?_⟩;have hp:=ya (w:=w) h3 g2;rw [q5,dF,l5];have jY:0<=(n:Int)/\(n:Int)<m:=hn;simp [Instr.index,asIntOf,p9 h1,Ty.agg,jY,run_sizeOf h3,hp]
    split
    ·rename_i hs
     intro hn;obtain ⟨P2,k1,k2,k3⟩:=core hn;have:=k2.O7 hs;subst this;exact I9 he h k3 ⟨_,rfl,k2⟩
    ·intro hn
     obtain ⟨P2,k1,k2,k3⟩:=core hn;refine I9 he h k3 ⟨e,t,List.getD z (Int.toNat n) t.s4,_,q1,X7 q3 q2 ⟨hn,O6⟩,TK q3 C1,?_,rfl⟩;obtain ⟨b0,off0,g1,rfl⟩:=q4;obtain ⟨b1',b2,b3,b4⟩:=E1 (sz:=t.size) hn;refine ⟨b0,off0+Int.toNat n*t.size,AR q3 g1 (by simp only [y8,y9]),?_⟩;rw [o6,n7 _ _ _ _ (by simp only [Ty.size]; omega)]
   ·trivial
  ·trivial
 ·trivial
where
 b4Y {P:Program} {w:World} {T:TypeId} {l:yY} {k:IntKind} {n:Int} (hu:P.underlying T=some .string) (hn:0<=n/\n<(l.length:Int)) :
   (Instr.index T (.string ⟨l.toArray⟩) (.int k n)).run P w=.ok (.int .u8 ((l.getD n.toNat 0).toNat:Int)) w:=by
  have h1:n.toNat<l.length:=by omega
  have h2:(ByteArray.mk l.toArray)[n.toNat]?=some (l.getD n.toNat 0):=by
   have:n.toNat<(ByteArray.mk l.toArray).size:=by simpa [ByteArray.size] using h1
   rw [getElem?_pos (ByteArray.mk l.toArray) n.toNat this];simp [ByteArray.getElem_eq_getElem_data,h1]
  simp [Instr.index,asIntOf,p9 hu,hn.1,h2]
theorem Lg {P:Program} (h:RS B S ι s a w) {k:IntKind} {f:Int->Int->Int} {m2:Value->Value->Sem Value} (hf:∀ x y,r9 k x->r9 k y->r9 k (f x y)) (hm:∀ x y,(m2 (.int k x) (.int k y)).run P w=.ok (.int k (f x y)) w) :
  ∀ {l:List Operand} {x:Int} {v:AV} {s':St},r9 k x->foldI s k f x l=.ok v s'->∃ n,v=.val (.int k) n/\s'=s/\r9 k n/\((l.map a.eval).foldlM m2 (.int k x)).run P w=.ok (.int k n) w
 | [],x,v,s',hx,gm=>by
  simp only [foldI,OR.ok.injEq] at gm;obtain ⟨rfl,rfl⟩:=gm;exact ⟨x,rfl,rfl,hx,rfl⟩
 | y::l,x,v,s',hx,gm=>by
  simp only [foldI] at gm;split at gm
  ·rename_i k' b hy
   split at gm
   ·rename_i hk
    subst hk;obtain ⟨dF,hb⟩:=VX.I4 (C3 h hy);obtain ⟨n,k1,k2,k3,k4⟩:=Lg h hf hm (hf x b hx hb) gm;refine ⟨n,k1,k2,k3,?_⟩;simp only [aDb,List.foldlM_cons,Sem.run_bind,dF,hm,Result.andThen];exact k4
   ·cases gm
  ·cases gm
theorem KF {k:IntKind} {f:Int->Int->Int}:∀ {l:List Operand} {x:Int} {p:Prop} {v:AV} {s':St},foldI s k f x l≠.F8 p v s'
 | [],x,p,v,s',h=>by cases h
 | y::l,x,p,v,s',h=>by
  simp only [foldI] at h;split at h
  ·split at h
   ·exact KF h
   ·cases h
  ·cases h
theorem OL {P:Program} {T ty:TypeId} {k:Nat} {u:Ty} (hT:o8 P k T u=true) {v:Value} {n:Nat}
  (h:(∃ q t b off cap,u=.d0 q t/\v=.slice b n cap/\off=0)\/(∃ l:yY,u=.str/\v=.string ⟨l.toArray⟩/\n=l.length)\/(∃ t,u=.arr n t)) :
  (Builtin.len_ #[T] ty #[v]).run P w=.ok (.int .i64 n) w:=by
 rcases h with ⟨q,t,b,off,cap,rfl,rfl,_⟩|⟨l,rfl,rfl,rfl⟩|⟨t,rfl⟩
 ·obtain ⟨e,k',h1,_⟩:=G5 hT
  simp [Builtin.len_,p9 h1,goInt]
 ·have h1:=U9 hT
  have e:(ByteArray.mk l.toArray).size=l.length:=rfl;simp [Builtin.len_,p9 h1,goInt,e]
 ·obtain ⟨e,k',h1,_⟩:=Y0 hT
  simp [Builtin.len_,p9 h1,goInt]
theorem zw (hE:D3 E B) (h:RS B S ι s a w) {o:Oper} {c:Call} (ho:o.op=.call c) (hc:c.callee=.builtin .len) {x:Operand} {T:TypeId} (ha:c.args.toList=[x]) (hT:c.argTypes.toList=[T]) {u:Ty} (hk:I6 E T u=true) {n:Nat}
  (hv:(∃ q t b off cap,u=.d0 q t/\a.eval x=.slice b n cap/\off=0)\/(∃ l:yY,u=.str/\a.eval x=.string ⟨l.toArray⟩/\n=l.length)\/(∃ t,u=.arr n t)) (hn:(n:Int)<=9223372036854775807) :
  y7 E.P B o a w (.val (.int .i64) (n:Int)) s:=by
 have aH:c.args=#[x]:=by rw [<- ha]
 have eC:c.argTypes=#[T]:=by rw [<- hT]
 refine y7.value (val:=.int .i64 n) ?_ h (VX.int (by unfold r9; simp [IntKind.min,IntKind.max,IntKind.signed,IntKind.bits]; omega));have:=OL (w:=w) (ty:=o.type) (D6 hE hk) hv;simp [execOp,ho,resolve,hc,invoke,builtin,aH,eC,this]
theorem BY {q:Bool} {u:Ty} {O:List Nat} {cs:List Value} {z:(Ty.d0 q u).den} (hR:g9 H S (.d0 q u) O cs z):∃ b cap,l5 (.d0 q u) cs=.slice b (List.length z) cap/\((List.length z:Nat):Int)<=9223372036854775807:=by
 rcases hR with ⟨_,⟨a,c,h1,_⟩,h2⟩|⟨b,off,cap,O',c1,c2,c3,_⟩
 ·subst h2; subst h1; exact ⟨a,c,rfl,by simp⟩
 ·rw [c1]; exact ⟨_,cap,rfl,by have:=c3.1; unfold maxLen at this; omega⟩
theorem OS {u:Ty} {O:List Nat} {cs:List Value} {z:(Ty.B9 u).den} (hR:g9 H S (.B9 u) O cs z):∃ b cap,l5 (.B9 u) cs=.slice b (List.length z.2.1) cap/\((List.length z.2.1:Nat):Int)<=9223372036854775807:=by
 obtain ⟨n,l,m⟩:=z
 match n,hR with
 | 0,hR=>exact BY (q:=false) hR
 | 1,hR=>exact BY (q:=true) hR
 | n+2,⟨b,off,O',c1,c2,_⟩ =>
  subst c1;exact ⟨_,_,rfl,by have:=c2.1; unfold maxLen at this; show ((List.length l:Nat):Int)<=_; omega⟩
theorem Sp (off:Nat):∀ (vs:List Value) (k:Nat) (cells:Array Value),off+k+vs.length<=cells.size ->
  ((vs.zipIdx k).foldl (λ cs (q:Value×Nat)=>cs.setIfInBounds (off+q.2) q.1) cells)=(over cells.toList (off+k) vs).toArray
 | [],k,cells,_=>by simp [over]
 | v::vs,k,cells,h=>by
  simp only [aAh] at h;simp only [List.zipIdx_cons,aGp];rw [Sp off vs (k+1) _ (by simp; omega)];congr 1;have e:=list_seg_step cells.toList (off+k) v vs (by simp; omega);simpa [over,aGr,aBk] using e
theorem Zi {place:Nat->Option (Nat×Nat)} {cells:List Value} {i off size:Nat} {v:Value} {vs:List Value} {rest:List (Nat×Value)} (hp:place i=some (off,size)) (hv:v.cells=vs.toArray) (hl:vs.length=size) (hb:off+size<=cells.length) :
  Instr.fill place cells.toArray ((i,v)::rest)=Instr.fill place (over cells off vs).toArray rest:=by
 have hz:=Sp off vs 0 cells.toArray (by simp; omega);simp only [Instr.fill,hp,hv];have h1:¬ ((vs.toArray.size≠size)\/(off+vs.toArray.size > cells.toArray.size)):=by simp [hl]; omega
 simp only [aBo,decide_eq_true_eq];rw [if_neg (by simpa using h1)];congr 1;simp only [aDt] at hz;rw [<- hz,<- Array.foldl_toList];simp
theorem YO {t:Ty} {x:t.den} {O:List Nat} {cs:List Value} (hR:g9 H S t O cs x) (hS:∀ b,S b->b<H.size) (hO:∀ b∈O,¬ S b) (aJ:O.Nodup) {p:List Step} (aM:x8 t x p) {u0:Ty} {y0:u0.den} (hg:j9 t x p=some ⟨u0,y0⟩) {off:Nat}
  (hn:∀ (G:Array Go.Obj) (b o:Nat),y8 G t p b o=some (b,o+off)) {u:Ty} {z:u.den} {O2:List Nat} {cs':List Value} (hz:g9 H S u O2 cs' z) (cY:O2.Nodup) (nm:∀ b∈O2,b∉O) {r:Sigma Ty.den} (aK:u6 t x p u z=some r) :
  ∃ O',g9 H S r.1 O' (over cs off cs') r.2/\O'.Nodup/\(∀ b∈O',b∈O\/b∈O2)/\r.1.sh=t.sh/\off+u0.size<=cs.length/\u.size=u0.size:=by
 have oN:=CA hg aK;have jl:=F9 oN
 let G:Array Go.Obj:=H.push (.cells cs.toArray 0)
 let G':Array Go.Obj:=H.push (.cells (over cs off cs').toArray 0)
 have hold:∀ {c},c<H.size->G[c]?=H[c]?:=λ h=>Cm h;have iE:∀ {c},c<H.size->G'[c]?=H[c]?:=λ h=>Cm h;have dL:w6 G H.size=cs:=by simp [G,w6]
 have kt:w6 G' H.size=over cs off cs':=by simp [G',w6]
 have oy:∀ c∈O,c<H.size:=λ c hc=>hR.xA c hc;have nJ:∀ c∈O2,c<H.size:=λ c hc=>hz.xA c hc;have bI:e8 G H.size 0 t.size=cs:=by
  simp only [e8,dL,aCb];exact aAu (by rw [hR.length]; exact aAj _)
 have tZ:g9 G S t O (e8 G H.size 0 t.size) x:=by
  rw [bI]; exact hR.u5 (λ c hc=>hold (hc.elim (oy c) (hS c))) (λ _ h=>h)
 have rE:0+t.size<=(w6 G H.size).length:=by rw [dL,hR.length]; omega
 obtain ⟨O1,O3,b',aA,e1,e2,e3,e4,e5,e6⟩:=focus (b:=H.size) (off:=0) tZ rE aM hg
 rw [hn] at e3; cases e3;rw [dL] at e5;have hle:off+u0.size<=cs.length:=by simpa using e5
 have cD:cs'.length=u0.size:=by rw [hz.length,jl]
 have nX:(over cs off cs').length=cs.length:=TP (by omega);have gY:¬ S H.size:=λ h=>aCx _ (hS _ h);have hc:X1 G G' H.size (0+off) u0.size:=by
  refine ⟨⟨cs.toArray,(over cs off cs').toArray,0,⟨_,⟨Cl,.inl rfl⟩,Cl⟩,by simp [nX],?_⟩,?_⟩
  ·intro j hj
   exact QP (by omega) (by omega)
  ·intro c dJ il
   have:c<H.size:=by simp [G] at il; omega
   rw [iE this,hold this]
 have iq:g9 G' S u O2 (e8 G' H.size (0+off) u.size) z:=by
  have:e8 G' H.size (0+off) u.size=cs':=by
   simp only [e8,kt,aEo];rw [<- hz.length]; exact OW (by omega)
  rw [this];exact hz.u5 (λ c hc=>iE (hc.elim (nJ c) (hS c))) (λ _ h=>h)
 have cq:=(e1.nodup_iff).1 aJ;have jy:∀ c∈O1,c∈O:=λ c hc=>e1.mem_iff.2 (by simp [hc]);obtain ⟨O4,f1,f2,f3⟩:=Ca e2 hg (hn G H.size 0) rE (by simp [G]) (aAg.1 cq).1 (λ hm=>aCx _ (oy _ (jy _ hm))) (λ c hc=>⟨hO c (jy c hc),by have:=oy c (jy c hc); simp [G]; omega⟩) gY
  (λ c hc=>by have:=hS c hc; simp [G]; omega) (λ _ h=>h) hc iq aK
 have bU:∀ b∈O4,b∈O\/b∈O2:=λ b hb=>(aAi.1 (f1.mem_iff.1 hb)).imp (jy b) id;refine ⟨O4,?_,(f1.nodup_iff).2 (aAg.2 ⟨(aAg.1 cq).1,cY,λ c h1 d h2 e=>nm d h2 (e▸jy c h1)⟩),bU,f3,hle,jl⟩;have:e8 G' H.size 0 r.1.size=over cs off cs':=by
  simp only [e8,kt,aCb];exact aAu (by rw [nX,hR.length,F9 f3]; omega)
 rw [this] at f2;exact f2.u5 (λ c hc=>(iE (hc.elim (λ h=>(bU c h).elim (oy c) (nJ c)) (hS c))).symm) (λ _ h=>h)
def zT (t:Ty) (i:Nat):Nat :=
 match t with
 | .arr _ t=>i*t.size
 | t=>S9 t i
theorem YK {t:Ty} {x:t.den} {i:Nat} (hi:wU t i=true) {r:Sigma Ty.den} (hg:j9 t x (Y3 t i)=some r):x8 t x (Y3 t i)/\∀ (G:Array Go.Obj) (b o:Nat),y8 G t (Y3 t i) b o=some (b,o+zT t i):=by
 obtain ⟨u,y⟩:=r;cases t with
 | arr n t =>
  have:i<n:=by simpa [wU,aDf] using hi
  refine ⟨⟨by omega,O6⟩,λ G b o=>?_⟩;simp [Y3,y8,zT,y9]
 | _=>exact ⟨yx hg,λ G b o=>yH hg⟩
theorem Fp (h:RS B S ι s a w) {place:Nat->Option (Nat×Nat)}:∀ {parts:List (Nat×Operand)} {t:Ty} {x:t.den} {O:List Nat} {cs:List Value} {r:Sigma Ty.den} {G g:List Nat},g9 w.heap S t O cs x->O.Nodup->(∀ b∈O,N4 ι s.hp G b)->(G++g).Nodup->parts.all (λ q=>wU t q.1)=true ->
  (∀ (t':Ty) (x':t'.den) (i:Nat) (u:Ty) (y:u.den),t'.sh=t.sh->j9 t' x' (Y3 t' i)=some ⟨u,y⟩->wU t' i=true->place i=some (zT t' i,u.size))->U0 s ⟨t,x⟩ parts=some (r,g) ->
  ∃ cs' O',Instr.fill place cs.toArray (parts.map λ q=>(q.1,a.eval q.2))=some cs'.toArray/\g9 w.heap S r.1 O' cs' r.2/\O'.Nodup/\(∀ b∈O',N4 ι s.hp (G++g) b)/\r.1.sh=t.sh
 | [],t,x,O,cs,r,G,g,hR,aJ,hO,_,_,_,hb=>by
  simp only [U0,aAc,aAx] at hb;obtain ⟨rfl,rfl⟩:=hb;exact ⟨cs,O,rfl,hR,aJ,λ b hb=>(hO b hb).mono (by simp),rfl⟩
 | (i,v)::parts,t,x,O,cs,r,G,g,hR,aJ,hO,hG,bD,hp,hb=>by
  simp only [aCt,aAa] at bD;simp only [U0] at hb;split at hb
  ·cases hb
  ·rename_i u0 y0 hg
   obtain ⟨aM,ju⟩:=YK bD.1 hg;have kN:=hp t x i u0 y0 rfl hg bD.1;have oA:∀ b∈O,¬ S b:=λ b hb=>by obtain ⟨j,e,_,q2,q3⟩:=hO b hb; exact (h.hs.bl j e q2 b q3).1
   have one:∀ {u:Ty} {z:u.den} {O2:List Nat} {cs1:List Value} {r1:Sigma Ty.den} {g1 g2:List Nat},g9 w.heap S u O2 cs1 z->O2.Nodup->(∀ b∈O2,N4 ι s.hp g1 b)->a.eval v=l5 u cs1->u6 t x (Y3 t i) u z=some r1->U0 s r1 parts=some (r,g2)->g=g1++g2 ->
     ∃ cs' O',Instr.fill place cs.toArray (((i,v)::parts).map λ q=>(q.1,a.eval q.2))=some cs'.toArray/\g9 w.heap S r.1 O' cs' r.2/\O'.Nodup/\(∀ b∈O',N4 ι s.hp (G++g) b)/\r.1.sh=t.sh:=by
    intro u z O2 cs1 r1 g1 g2 hz cY eR db aK hb tn;subst tn;have nm:∀ b∈O2,b∉O:=by
     intro b fx dE;obtain ⟨i1,e1,q1,q2,q3⟩:=eR b fx;obtain ⟨i2,e2,r1',r2,r3⟩:=hO b dE;have bt:i1≠i2:=by rintro rfl; exact (aAg.1 hG).2.2 i1 r1' i1 (by simp [q1]) rfl
     exact h.hs.dj i1 i2 e1 e2 q2 r2 bt b q3 r3
    obtain ⟨O',k1,UT,US,k2,k3,k4⟩:=YO hR h.hs.slt oA aJ aM hg ju hz cY nm aK;obtain ⟨t1,x1⟩:=r1;have cg:t1.sh=t.sh:=k2;have cT:∀ j,wU t1 j=wU t j:=by
     intro j;cases t<;>cases t1<;>simp only [Ty.sh] at cg<;>first|cases cg|rfl|skip
     all_goals first|rfl|(simp only [Ty.arr.injEq] at cg; simp only [wU,cg.1])
    obtain ⟨cs',O4,q1,q2,q3,q4,q5⟩:=Fp h (place:=place) (parts:=parts) (G:=G++g1) (g:=g2) k1 UT (λ b hb=>(US b hb).elim (λ hb=>(hO b hb).mono (by simp; intro i hi; exact .inl hi)) (λ hb=>(eR b hb).mono (by simp; intro i hi; exact .inr hi))) (by rw [aAl]; exact hG) (by simp only [cT]; exact bD.2) (λ t' x' j u' y' e1 e2 e3=>hp t' x' j u' y' (e1.trans cg) e2 e3) hb;refine ⟨cs',O4,?_,q2,q3,by rw [<- aAl]; exact q4,q5.trans cg⟩;simp only [aDb];rw [Zi (vs:=cs1) kN (by rw [db]; exact hz.cells) (by rw [hz.length,k4]) k3];exact q1
   split at hb
   ·rename_i hv
    have fK:[a.eval v]=[Value.slice none 0 0]:=C3 h hv;split at hb
    ·rename_i o' u' _
     split at hb
     ·rename_i r1 aK
      exact one (u:=.d0 o' u') (z:=([]:List u'.den)) (cs1:=[.slice none 0 0]) (g1:=[]) (.inl ⟨rfl,⟨none,0,rfl,λ _=>rfl⟩,rfl⟩) aAw (by simp) (by simpa [l5,Ty.agg] using fK) aK hb rfl
     ·cases hb
    ·cases hb
   ·split at hb
    ·rename_i u z g1 cR
     obtain ⟨O2,cs1,e,hz,cY,eR⟩:=Fg h.hs cR (h.ev v);split at hb
     ·rename_i r1 aK
      split at hb
      ·rename_i r2 g2 fx
       simp only [aAc,aAx] at hb;obtain ⟨rfl,rfl⟩:=hb;exact one hz cY eR e aK fx rfl
      ·cases hb
     ·cases hb
    ·cases hb
def plc:Ty->Nat->List (Nat×Nat)
 | .pair a b,off=>(off,a.size)::plc b (off+a.size)
 | _,_=>[]
theorem XC:∀ {t:Ty} {x:t.den} {n:Nat} {u:Ty} {z:u.den} {off:Nat},j9 t x [.l8 n]=some ⟨u,z⟩->(plc t off)[n]?=some (off+S9 t n,u.size):=by
 intro t
 induction t with
 | pair a c _ ihc =>
  intro x n u z off h
  match n,h with
  | 0,h =>
   have h:some (⟨a,x.1⟩:Sigma Ty.den)=some ⟨u,z⟩:=by rw [<- h]; simp only [j9]
   cases h;simp [plc,S9]
  | n+1,h =>
   have:=ihc (x:=x.2) (off:=off+a.size) h;simp only [plc,S9,aDm,this];simp [aBk]
 | d0 o t _=>intro x n u z off h; cases o<;>simp [j9] at h
 | _=>intro x n u z off h; simp [j9] at h
theorem Oo {P:Program} {k:Nat}:∀ {fs:List Field} {off:Nat} {t:Ty},n6 (o8 P k) fs off t=true->(fs.mapM λ f=>Prod.mk f.offset <$> sizeOf f.type).run P w=.ok (plc t off) w
 | [],off,t,h=>by
  cases t<;>simp [n6] at h;rfl
 | f::fs,off,t,h=>by
  cases t<;>simp only [n6] at h<;>first|cases h|skip
  simp only [aAa] at h;obtain ⟨⟨⟨⟨h1,_⟩,h3⟩,_⟩,h4⟩:=h;have ih:=Oo h4;simp [aGs,run_sizeOf h3,ih,plc,aAd h1]
theorem Xa:∀ {t u:Ty} {off:Nat},u.sh=t.sh->plc u off=plc t off:=by
 intro t
 induction t with
 | pair a c _ ihc =>
  intro u off h;cases u<;>simp only [Ty.sh] at h<;>try cases h
  simp only [Ty.pair.injEq] at h;simp only [plc,F9 h.1,ihc h.2]
 | _ =>
  intro u off h;cases u<;>simp only [Ty.sh] at h<;>try cases h
  all_goals rfl
theorem LI {P:Program} {k:Nat} {T:TypeId} {t:Ty} (h:o8 P k T t=true) (ht:t.agg=true) (hn:∀ n u,t≠.arr n u):∃ fs k',P.underlying T=some (.struct fs)/\n6 (o8 P k') fs.toList 0 t=true:=by
 cases k with
 | zero=>simp [o8] at h
 | succ k =>
  obtain ⟨d,h1,h2⟩:=R8 h;simp only [o8,aAa,h1] at h;obtain ⟨_,h⟩:=h;cases t with
  | pair a c=>cases d<;>first|(exact (aAy h).elim)|(exact ⟨_,k,h1,h⟩)
  | unit=>cases d<;>first|(exact (aAy h).elim)|(exact ⟨_,k,h1,h⟩)
  | arr n u=>exact absurd rfl (hn n u)
  | _=>cases ht
end
end Go.Ex
namespace Go.Ex
section
variable {E:Env} {B:E6} {S S':Nat->Prop} {ι:Ix} {s:St} {a:Act} {w:World} {hp:List (Nat×i6)} {H H':Array Go.Obj}
theorem Tp (z:List Value):∀ n:Nat,(List.range (n*z.length)).map (λ i=>z.getD (i % z.length) default)=(List.replicate n z).flatten
 | 0=>by simp
 | n+1=>by
  rw [aBf,aFq,List.range_add,aEx,aDz,aEl,<- Tp z n];congr 1
  ·apply aFm
   ·simp
   ·intro i h1 h2
    simp only [aAn,List.length_range] at h1;simp [Nat.mod_eq_of_lt h1,aAf h1]
  ·simp [aHk,Function.comp_def]
theorem Kb (z:List Value) (n:Nat):((Array.range (n*z.length)).map (z.toArray[· % z.toArray.size]!))=(List.replicate n z).flatten.toArray:=by
 rw [<- Tp];apply aGw;simp [Array.toList_range,aAb]
theorem FL (z:List Value) (n:Nat):Builtin.zeroCells z.toArray n=(List.replicate n z).flatten.toArray:=Kb z n
theorem j5.HD {t:Ty}:∀ n:Nat,j5 (g9 H S t) t.size [] (List.replicate n (zc t)).flatten (List.replicate n t.s4)
 | 0=>⟨rfl,rfl⟩
 | n+1=>⟨[],[],rfl,by
   rw [aDz,aEl,aDd (S4 t)]; exact g9.s4 t,by
   rw [aDz,aEl,aEy (S4 t)]; exact j5.HD n⟩
theorem y7.lay {P:Program} {o:Oper} {d:Nat} {g:List Nat} {t:Ty} {x:t.den} {v:AV} {s':St} (hl:s.lay d g t x=.ok v s') {w':World} {val:Value} (hr:(execOp a.eval o).run P w=.ok (.value val) w')
  {O:List Nat} {cs:List Value} (hv:val=l5 t cs) (hR:g9 w'.heap S t O cs x) (hs:RS B S ι (St.w9 g s) a w') (hF:F2 B S ι (St.w9 g s).hp w' O):y7 P B o a w v s':=by
 unfold St.lay at hl;split at hl
 ·cases hl
 ·split at hl
  ·rename_i hf
   cases hl;intro next Q hn
   unfold Oper.wp;rw [hr];exact hn S _ w' val (hs.hold hf hR hF) (by rw [hv]; exact Aq hR.length)
  ·cases hl
theorem Jh {d:Nat} {g:List Nat} {t:Ty} {x:t.den} {v:AV} {s':St} (hl:s.lay d g t x=.ok v s'):g.Nodup/\(g.all λ i=>!pinned i)=true:=by
 unfold St.lay at hl;split at hl
 ·cases hl
 ·rename_i hc
  simp only [aAa] at hc;exact ⟨CS hc.1.1,hc.1.2⟩
theorem Z5 {d:Nat} {g:List Nat} {t:Ty} {x:t.den} {p:Prop} {v:AV} {s':St}:s.lay d g t x≠.F8 p v s':=by
 unfold St.lay
 split
 ·simp
 ·split<;>simp
theorem F1.Jl {P:Program} {o:Oper} {d:Nat} {g:List Nat} {t:Ty} {x:t.den} {p:Prop} (h:∀ v s',s.lay d g t x=.ok v s'->p->y7 P B o a w v s'):F1 P B o a w ((s.lay d g t x).f8 p):=by
 cases hl:s.lay d g t x with
 | fail y=>trivial
 | ok v s'=>exact λ hp=>h v s' hl hp
 | F8 q v s'=>exact absurd hl Z5
theorem F1.lay {P:Program} {o:Oper} {d:Nat} {g:List Nat} {t:Ty} {x:t.den} (h:∀ v s',s.lay d g t x=.ok v s'->y7 P B o a w v s'):F1 P B o a w (s.lay d g t x):=by
 cases hl:s.lay d g t x with
 | fail y=>trivial
 | ok v s'=>exact h v s' hl
 | F8 q v s'=>exact absurd hl Z5
theorem EE {t:Ty} {l:List t.den} {O:List Nat} {cells:List Value} (hS:∀ c,S c->c<w.heap.size) (hR:j5 (g9 w.heap S t) t.size O (cells.take (l.length*t.size)) l) {cap:Nat} (hc:l.length<=cap) (hm:cap<=maxLen)
  (aW:cap*t.size<=cells.length) (T:TypeId) (hO:∀ c∈O,c<w.heap.size) {w':World} {fz:Nat×Nat} (hh:w'.heap=w.heap.push (.cells cells.toArray T fz)) (hz:fz=(0,0)\/(t.isB=true/\cells.length<=fz.1)) :
  ∃ O',g9 w'.heap S (.d0 true t) O' [.slice (some ⟨w.heap.size,0,none⟩) l.length cap] l/\(∀ b∈O',b=w.heap.size\/b∈O)/\(O.Nodup->O'.Nodup):=by
 have dH:w'.heap[w.heap.size]?=some (.cells cells.toArray T fz):=by rw [hh]; exact Cl
 have hold:∀ {b},b<w.heap.size->w'.heap[b]?=w.heap[b]?:=λ hb=>by rw [hh]; exact Cm hb
 have dL:w6 w'.heap w.heap.size=cells:=by simp only [w6,dH]
 have hle:l.length*t.size<=cap*t.size:=aAm _ hc;by_cases h0:cap=0
 ·have iY:l.length=0:=by omega
  have hl:l=[]:=aCj.1 iY;exact ⟨[],.inl ⟨rfl,⟨some ⟨w.heap.size,0,none⟩,0,by rw [iY,h0],λ _=>rfl⟩,hl⟩,by simp,λ _=>aAw⟩
 ·refine ⟨w.heap.size::O,.inr ⟨w.heap.size,0,cap,O,rfl,hc,⟨hm,λ _=>by omega⟩,?_,?_,rfl,cells.toArray,T,⟨fz,dH,by simpa using hz⟩,by simpa using aW⟩,λ b hb=>aAp.1 hb,λ hn=>aAs.2 ⟨λ hb=>aCx _ (hO _ hb),hn⟩⟩
  ·rw [dL,aEo]; exact aAv hle aW
  ·have:e8 w'.heap w.heap.size 0 (List.length l*t.size)=cells.take (l.length*t.size):=by simp only [e8,dL,aCb]
   rw [this];exact j5.mono (L:=O) (λ _ h=>h) (λ O1 cs y hL hr=>hr.u5 (λ b hb=>hold (hb.elim (λ hb=>hO b (hL b hb)) (hS b))) (λ _ h=>h)) hR
theorem IW {t:Ty} {l:List t.den} {O:List Nat} {cells:List Value} (hS:∀ c,S c->c<w.heap.size) (hR:j5 (g9 w.heap S t) t.size O (cells.take (l.length*t.size)) l) {cap:Nat} (hc:l.length<=cap) (hm:cap<=maxLen)
  (aW:cap*t.size<=cells.length) (T:TypeId) (hO:∀ c∈O,c<w.heap.size) :
  ∃ O',g9 (F7 w (.cells cells.toArray T)).heap S (.d0 true t) O' [.slice (some ⟨w.heap.size,0,none⟩) l.length cap] l/\(∀ b∈O',b=w.heap.size\/b∈O)/\(O.Nodup->O'.Nodup) :=
 EE hS hR hc hm aW T hO (w':=F7 w (.cells cells.toArray T)) rfl (.inl rfl)
theorem F2.new {O O':List Nat} (h:RS B S ι s a w) (hF:F2 B S ι s.hp w O) {w':World} (k:D0 [] w w') (bf:w.heap.size<w'.heap.size) (hs:∀ b∈O',b=w.heap.size\/b∈O) (hn:O'.Nodup):F2 B S ι s.hp w' O':=by
 refine ⟨hn,λ b hb=>?_⟩;rcases hs b hb with rfl|hb
 ·refine ⟨λ hS=>aCx _ (h.hs.slt _ hS),.inl h.hs.size,bf,λ i e hi ku=>aCx _ (h.hs.bl i e hi _ ku).2.2⟩
 ·exact (hF.vn k).2 b hb
theorem Uw {n:Nat} {t:Ty} (t':Ty) (x':t'.den) (i:Nat) (u':Ty) (y':u'.den) (e1:t'.sh=(Ty.arr n t).sh) (e2:j9 t' x' (Y3 t' i)=some ⟨u',y'⟩) (_:wU t' i=true):some (i*t.size,t.size)=some (zT t' i,u'.size):=by
 cases t'<;>simp only [Ty.sh] at e1<;>first|cases e1|skip
 rename_i n' t'' _;simp only [Ty.arr.injEq] at e1;have:t''=u':=by
  simp only [Y3,j9,C1,aAc] at e2;exact congrArg Sigma.fst e2
 subst this;simp only [zT,F9 e1.2]
theorem b87 (hE:D3 E B) (h:RS B S ι s a w) {o:Oper} {T:TypeId} {parts:Array (Nat×Operand)} (ho:o.op=.build T parts):F1 E.P B o a w (m0 E o s):=by
 have he:execOp a.eval o=(do pure (.value (<- Instr.build T (parts.map λ q=>(q.1,a.eval q.2))))):=by simp [execOp,ho]
 unfold m0;rw [ho];simp only
 split
 ·rename_i ti hT
  split
  ·rename_i bD
   simp only [aAa] at bD;have core:∀ {u:Ty} {y:u.den} {g:List Nat},U0 s ⟨ti.ty,ti.ty.s4⟩ parts.toList=some (⟨u,y⟩,g)->g.Nodup->∃ cs' O',(Instr.build T (parts.map λ q=>(q.1,a.eval q.2))).run E.P w=.ok (l5 u cs') w/\g9 w.heap S u O' cs' y/\O'.Nodup/\∀ b∈O',N4 ι s.hp g b:=by
    intro u y g hb ig;have dd:=r7 hE hT;have hz:=AD (w:=w) dd;have fD:g9 w.heap S ti.ty [] (zc ti.ty) ti.ty.s4:=g9.s4 _;have kz:(l5 ti.ty (zc ti.ty)).cells=(zc ti.ty).toArray:=fD.cells;have mv:(parts.map λ q=>(q.1,a.eval q.2)).toList=parts.toList.map λ q=>(q.1,a.eval q.2):=by simp
    by_cases eO:∃ n t,ti.ty=.arr n t
    ·obtain ⟨n,t,e0⟩:=eO
     rw [e0] at dd hb fD bD hz kz;obtain ⟨et,k',h1,h2,h3⟩:=Y0 dd;obtain ⟨cs',O',q1,q2,q3,q4,q5⟩:=Fp h (place:=λ i=>some (i*t.size,t.size)) (G:=[]) fD aAw (by simp) (by simpa using ig) bD.2 (λ t' x' i u' y' e1 e2 e3=>Uw t' x' i u' y' e1 e2 e3) hb;refine ⟨cs',O',?_,q2,q3,q4⟩;have dp:u.agg=true:=by rw [Ea q5]; rfl
     simp only [Instr.build,Sem.run_bind,hz,Result.andThen,p9 h1,kz,mv,run_sizeOf h3,q1];simp [l5,dp]
    ·have hn:∀ n u,ti.ty≠.arr n u:=λ n u e=>eO ⟨n,u,e⟩
     obtain ⟨fs,k',h1,h2⟩:=LI dd bD.1 hn;have cd:=Oo (w:=w) h2;obtain ⟨cs',O',q1,q2,q3,q4,q5⟩:=Fp h (place:=λ i=>(plc ti.ty 0)[i]?) (G:=[]) fD aAw (by simp) (by simpa using ig) bD.2 (by
      intro t' x' i u' y' e1 e2 e3;have jY:∀ n u,t'≠.arr n u:=by
       rintro n u rfl;cases ht:ti.ty<;>rw [ht] at e1<;>simp only [Ty.sh] at e1<;>first|cases e1|skip
       exact eO ⟨_,_,ht⟩
      have e2':j9 t' x' [.l8 i]=some ⟨u',y'⟩:=by
       cases t'<;>first|exact e2|(exact absurd rfl (jY _ _))
      have:=XC (off:=0) e2';rw [Xa e1] at this;have e4:zT t' i=S9 t' i:=by cases t'<;>first|rfl|(exact absurd rfl (jY _ _))
      rw [e4];simpa using this) hb
     refine ⟨cs',O',?_,q2,q3,q4⟩;have dp:u.agg=true:=by rw [Ea q5]; exact bD.1
     simp only [Instr.build,Sem.run_bind,hz,Result.andThen,p9 h1,kz,mv];simp [aGu,cd,q1,l5,dp]
   split
   ·rename_i u y hb
    obtain ⟨cs',O',q1,q2,q3,q4⟩:=core hb aAw;have:O'=[]:=aDl.2 (λ b hb=>by obtain ⟨i,e,hi,_⟩:=q4 b hb; cases hi);subst this;exact I9 he h q1 ⟨cs',rfl,q2⟩
   ·rename_i u y g d hd hb dC
    refine F1.lay (λ v s' hl=>?_);obtain ⟨g1,g2⟩:=Jh hl;obtain ⟨cs',O',q1,q2,q3,q4⟩:=core hb g1;exact y7.lay hl (P0 he q1) rfl q2 (h.w9 g2) (F2.w9 h.hs q3 q4)
   ·trivial
  ·trivial
 ·trivial
theorem Qu {n:Nat} {t:Ty} {parts:List (Nat×Operand)} {r:Sigma Ty.den×List Nat} (h:zK s n t parts=some r):∃ t0:Ty,t0.sh=t.sh/\U0 s ⟨.arr n t0,(Ty.arr n t0).s4⟩ parts=some r:=by
 unfold zK at h;split at h
 ·rename_i r' hr
  cases h;exact ⟨t,rfl,hr⟩
 ·exact ⟨t.sh,Ty.Ab t,h⟩
theorem b0i (hE:D3 E B) (h:RS B S ι s a w) {o:Oper} {T:TypeId} {n:Nat} {parts:Array (Nat×Operand)} (ho:o.op=.buildSlice T n parts):F1 E.P B o a w (m0 E o s):=by
 have he:execOp a.eval o=(do pure (.value (<- Instr.buildSlice T n (parts.map λ q=>(q.1,a.eval q.2))))):=by simp [execOp,ho]
 unfold m0;rw [ho];simp only
 split
 ·rename_i t bts d hT hd
  split
  ·rename_i bD
   simp only [aAa,aFs] at bD;obtain ⟨⟨dV,cT⟩,aW⟩:=bD
   split
   ·rename_i m t' l g lW
    obtain ⟨t0,kI,hb⟩:=Qu lW;refine F1.lay (λ v s' hl=>?_);obtain ⟨gn,gp⟩:=Jh hl;have dd:=r7 hE hT;obtain ⟨et,k',h1,h2,h3⟩:=G5 dd;have nN:∀ u:Ty,(zc u).length=u.size:=λ u=>(g9.s4 (H:=w.heap) (S:=S) u).length;have fD:g9 w.heap S (.arr n t0) [] (zc (.arr n t)) (Ty.arr n t0).s4:=by
     have:=g9.s4 (H:=w.heap) (S:=S) (.arr n t0)
     rwa [show zc (.arr n t0)=zc (.arr n t) from ML (congrArg (Ty.arr n) kI)] at this
    obtain ⟨cs',O',q1,q2,qn,qb,q3⟩:=Fp h (place:=λ i=>some (i*t.size,t.size)) (G:=[]) fD aAw (by simp) (by simpa using gn) (by simpa [wU] using cT) (λ t' x' i u' y' e1 e2 e3=>Uw t' x' i u' y' (e1.trans (congrArg (Ty.arr n) kI)) e2 e3) hb;have mv:(parts.map λ q=>(q.1,a.eval q.2)).toList=parts.toList.map λ q=>(q.1,a.eval q.2):=by simp
    simp only [Ty.sh,Ty.arr.injEq] at q3;obtain ⟨rfl,q3⟩:=q3;have q3:=q3.trans kI;have eC:=F9 q3;obtain ⟨g1,g2⟩:=q2;have hlen:cs'.length=m*t'.size:=by rw [j5.length (λ _ _ _ h=>h.length) g2,g1]
    have gj:m*t'.size<=16777216:=by rw [eC]; exact aW
    have pJ:m<=maxLen:=by
     have:m*1<=m*t'.size:=Nat.mul_le_mul_left _ (by omega);unfold maxLen; omega
    have aP:(execOp a.eval o).run E.P w=.ok (.value (.slice (some ⟨w.heap.size,0,none⟩) m m)) (F7 w (.cells cs'.toArray et)):=by
     rw [he];have ji:(zc (.arr m t)).toArray=(List.replicate m (zc t)).flatten.toArray:=rfl;by_cases h0:m*t.size=0
     ·have:m=0:=by rcases Nat.mul_eq_zero.1 h0 with h|h<;>omega
      subst this;simp only [Instr.buildSlice,Sem.run_bind,p9 h1,Result.andThen,run_sizeOf h3];have e0:(zc (.arr 0 t)).toArray=(#[]:Array Value):=rfl;rw [e0] at q1;have r0:Array.range 0=(#[]:Array Nat):=rfl;simp only [aFa,r0,Array.map_empty];rw [mv];simp [q1,newRow,newObj,Sem.run,F7]
     ·have jh:(l5 t (zc t)).cells=(zc t).toArray:=(g9.s4 (H:=w.heap) (S:=S) t).cells
      have hle:¬ (m*t.size > 16777216):=by omega
      have hq:=Kb (zc t) m;rw [nN] at hq;rw [ji] at q1;have pO:¬ (m*t.size > 2^24):=by omega
      simp only [Instr.buildSlice,Sem.run_bind,p9 h1,Result.andThen,run_sizeOf h3,pO,h0,if_false,AD h3,jh,mv,Sem.run_pure,hq,q1];simp [newRow,newObj,Sem.run,F7]
    have g1':List.length l=m:=g1;have gK:∀ c∈O',c<w.heap.size:=λ c hc=>by obtain ⟨i,e,_,r2,r3⟩:=qb c hc; exact (h.hs.bl i e r2 c r3).2.2
    have dP:=h.w9 (g:=g) gp;obtain ⟨O2,k1,k2,k3⟩:=IW (cap:=m) h.hs.slt (O:=O') (l:=l) (cells:=cs') (by rw [g1',aAu (by omega)]; exact g2) (by omega) pJ (by omega) et gK;have hp:D0 [] w (F7 w (.cells cs'.toArray et)):=D0.push _;exact y7.lay hl aP (by rw [<- g1']; rfl) k1 (dP.vn F2.nil hp) (F2.new dP (F2.w9 h.hs qn qb) hp (by simp [F7]) k2 (k3 qn))
   ·trivial
  ·trivial
 ·trivial
theorem Sb {P:Program} {k:IntKind} {n:Int}:(asInt (.int k n)).run P w=.ok n w:=by simp [asInt,asIntOf]
theorem b9a (hE:D3 E B) (h:RS B S ι s a w) {o:Oper} {T:TypeId} {x y:Operand} (ho:o.op=.makeSlice T x y):F1 E.P B o a w (Mx E T (s.ev x) (s.ev y) o.dst s):=trivial
theorem b1e (hE:D3 E B) (h:RS B S ι s a w) {o:Oper} {T:TypeId} {x y:Operand} (ho:o.op=.makeSlice T x y):F1 E.P B o a w (m0 E o s):=by
 have he:execOp a.eval o=(do pure (.value (<- Instr.makeSlice T (a.eval x) (a.eval y)))):=by simp [execOp,ho]
 unfold m0;rw [ho];simp only
 split
 ·exact b9a hE h ho
 split
 ·rename_i t bts d k n k' m hT hd hx hy
  refine F1.Jl (λ v s' hl hp=>?_);have da:@LE.le Int Int.instLEInt 0 n:=hp.1;have gj:@LE.le Int Int.instLEInt n m:=hp.2.1;have uP:@LE.le Int Int.instLEInt m 140737488355328:=hp.2.2.1;obtain ⟨ga,_⟩:=VX.I4 (C3 h hx);obtain ⟨dF,_⟩:=VX.I4 (C3 h hy);have dd:=r7 hE hT;obtain ⟨et,k2,h1,h2,h3⟩:=G5 dd;obtain ⟨i,hi,eB,kX⟩:=X5 h3;have lT:=KY h3 hi;obtain ⟨M,rfl⟩:∃ M:Nat,m=((M:Nat):Int):=⟨Int.toNat m,(aEa (Int.le_trans da gj)).symm⟩;obtain ⟨N,rfl⟩:∃ N:Nat,n=((N:Nat):Int):=⟨Int.toNat n,(aEa da).symm⟩;have qu:((t.wb:Nat):Int)*(M:Int)<=281474976710656:=by
   have:=hp.2.2.2;have e:((M:Nat):Int)*(t.wb:Nat)=(t.wb:Nat)*(M:Nat):=Int.mul_comm _ _;have:@LE.le Int Int.instLEInt (((M:Nat):Int)*(t.wb:Nat)) 140737488355328:=hp.2.2.2;rw [e] at this;omega
  have jh:(l5 t (zc t)).cells=(zc t).toArray:=(g9.s4 (H:=w.heap) (S:=S) t).cells;have jN:IntKind.i64.wrap (M:Int)=(M:Int):=U2 (by unfold r9; simp [IntKind.min,IntKind.max,IntKind.signed,IntKind.bits]; omega);have jM:IntKind.i64.wrap (N:Int)=(N:Int):=U2 (by unfold r9; simp [IntKind.min,IntKind.max,IntKind.signed,IntKind.bits]; omega);have aP:(Instr.makeSlice T (a.eval x) (a.eval y)).run E.P w=.ok (.slice (some ⟨w.heap.size,0,none⟩) N M) (F7 w (.cells (List.replicate M (zc t)).flatten.toArray et)):=by
   rw [ga,dF];have c1:¬ ((M:Int)<0):=by omega
   have c2:¬ ((N:Int)<0):=by omega
   have c3:¬ ((M:Int)<(N:Int)):=by omega
   have c4:¬ (281474976710656<((t.wb:Nat):Int)*(M:Int)):=by omega
   by_cases h0:M*t.size=0
   ·have:M=0:=by rcases Nat.mul_eq_zero.1 h0 with h|h<;>omega
    subst this;have hN:N=0:=by omega
    subst hN;simp only [Instr.makeSlice,Sem.run_bind,p9 h1,Result.andThen,Sb,typeInfo,jN];have r0:Array.range 0=(#[]:Array Nat):=rfl;simp [run_sizeOf h3,newRow,newObj,Sem.run,F7,Result.andThen,hi,r0]
   ·have hq:=Kb (zc t) M
    rw [S4] at hq;simp only [Instr.makeSlice,Sem.run_bind,p9 h1,Result.andThen,Sb,typeInfo,jN,jM];simp [c1,c2,c3,c4,run_sizeOf h3,h0,AD h3,jh,Result.andThen,newRow,newObj,Sem.run,F7,hi,lT];congr 2;rw [<- hq];apply aGw;simp [S4]
  have dP:=h.w9 (g:=[]) rfl;obtain ⟨O2,k1,k2',k3⟩:=IW (cap:=M) h.hs.slt (O:=[]) (l:=List.replicate N t.s4) (cells:=(List.replicate M (zc t)).flatten) (by
   have e:(List.replicate M (zc t)).flatten=(List.replicate N (zc t)).flatten++(List.replicate (M - N) (zc t)).flatten:=by
    rw [<- List.flatten_append,List.replicate_append_replicate]; congr 2; omega
   rw [e,aDd (by simp [S4])];exact j5.HD N) (by simp; omega) (by unfold maxLen; omega) (by simp [S4]) et (by simp)
  have cE:D0 [] w (F7 w (.cells (List.replicate M (zc t)).flatten.toArray et)):=D0.push _;exact y7.lay hl (P0 he aP) (by simp [l5,Ty.agg]) k1 (dP.vn F2.nil cE) (F2.new dP F2.nil cE (by simp [F7]) k2' (k3 aAw))
 ·trivial
end
end Go.Ex
namespace Go.Ex
section
variable {E:Env} {B:E6} {S S':Nat->Prop} {ι:Ix} {s:St} {a:Act} {w:World} {hp:List (Nat×i6)} {H H':Array Go.Obj}
theorem QH:∀ {t:Ty} {x:t.den} {p:List Step} {u:Ty} {y:u.den} {r:Sigma Ty.den},u6 t x p u y=some r->xE p=false->r.1=t:=by
 intro t
 induction t with
 | pair a c iha ihc =>
  intro x p u y r h hf
  match p,h,hf with
  | [],_,hf=>cases hf
  | .l8 0::p,h,hf =>
   simp only [u6] at h;split at h
   ·rename_i t' w hw; cases h; exact congrArg (Ty.pair · c) (iha (r:=⟨t',w⟩) hw hf)
   ·cases h
  | .l8 (n+1)::p,h,hf =>
   simp only [u6] at h;split at h
   ·rename_i t' w hw; cases h; exact congrArg (Ty.pair a) (ihc (r:=⟨t',w⟩) hw hf)
   ·cases h
  | .idx i::p,h,_=>simp [u6] at h
 | arr n t ih =>
  intro x p u y r h hf
  match p,h,hf with
  | [],_,hf=>cases hf
  | .idx i::p,h,_ =>
   simp only [u6] at h;split at h
   ·split at h
    ·cases h; rfl
    ·cases h
   ·cases h
  | .l8 i::p,h,_=>simp [u6] at h
 | d0 o t ih =>
  intro x p u y r h hf
  match p,h,hf with
  | [],_,hf=>cases hf
  | .idx i::p,h,_ =>
   cases o with
   | false=>simp [u6] at h
   | true =>
    simp only [u6] at h;split at h
    ·split at h
     ·cases h; rfl
     ·cases h
    ·cases h
  | .l8 i::p,h,_=>cases o<;>simp [u6] at h
 | _ =>
  intro x p u y r h hf
  match p,h,hf with
  | [],_,hf=>cases hf
  | .idx i::p,h,_=>simp [u6] at h
  | .l8 i::p,h,_=>simp [u6] at h
theorem OB.zy {i:Nat} {e:i6} (ho:OB H S ι i e) (he:e≠.M0) (hS:∀ c,S c->c<H.size) {p:List Step} (aM:x8 e.ty e.x p) {u:Ty} {y:u.den} (hg:j9 e.ty e.x p=some ⟨u,y⟩) {b off:Nat} (hl:Loc H ι i e p=some (b,off))
  {Op:List Nat} (fy:g9 H S u Op (e8 H b off u.size) y):b∉Op:=by
 obtain ⟨h1,h2⟩:=C8 hl;obtain ⟨O,hO,hR,hb,aJ,bf,gi,dV⟩:=ho.see he hS;obtain ⟨O1,O2,b',aA,e1,e2,e3,e4,e5,e6⟩:=focus hR hb aM hg
 rw [I2 he,e3] at h1; cases h1;have hm:∀ c,c∈O1\/c∈O2->c∈ι.own i:=λ c hc=>hO.mem_iff.1 (e1.mem_iff.2 (by simpa using hc));have kT:∀ c∈O2,c<H.size:=λ c hc=>ho.U5 he (hm c (.inr hc));have k:=(wx (e:=e) (ι:=ι) (i:=i) kT hS).1 e4;rw [l6 (G4 h2)] at k;have hd:=g9.det k fy;subst hd;rcases e6 with ⟨rfl,_⟩|⟨g1,_⟩
 ·intro hb; exact (aAs.1 aJ).1 (hm _ (.inr hb))
 ·intro hb
  have:=(e1.nodup_iff).1 ((hO.nodup_iff).2 (aAs.1 aJ).2);exact (aAg.1 this).2.2 _ g1 _ hb rfl
theorem Zg {d i:Nat}:∀ {v:AV},v.i8 d=false->(v.drop i).i8 d=false:=by
 intro v
 induction v with
 | cons a b iha ihb=>intro h; simp only [AV.i8,aBu] at h; simp only [AV.drop,AV.map,AV.i8,aBu]; exact ⟨iha h.1,ihb h.2⟩
 | K6 l ih=>intro h; exact ih h
 | C7 f l ih=>intro h; exact ih h
 | bx l ih=>intro h; exact ih h
 | rc f l ih=>intro h; exact ih h
 | ptr j p=>intro h; simp only [AV.drop,AV.map]; split<;>first|rfl|exact h
 | at_ j p=>intro h; simp only [AV.drop,AV.map]; split<;>first|rfl|exact h
 | sub j p x y=>intro h; simp only [AV.drop,AV.map]; split<;>first|rfl|exact h
 | _=>intro h; rfl
theorem LP {d:Nat}:∀ {g:List Nat} {s:St},wu d s.fr=true->wu d (St.w9 g s).fr=true
 | [],_,h=>h
 | i::g,s,h=>LP (g:=g) (s:=s.drop i) (by
  simp only [St.drop];generalize s.fr=fr at h
  induction fr with
  | nil=>rfl
  | cons q l ih =>
   obtain ⟨n,v⟩:=q;simp only [wu,aAa,aAt] at h;simp only [mapA,wu,aAa,aAt];exact ⟨Zg h.1,ih h.2⟩)
theorem Yc:∀ {t:Ty} {p:List Step} {b off:Nat} {G:Array Go.Obj} {r:Nat×Nat},xE p=true->y8 G t p b off=some r->r.1=b:=by
 intro t
 induction t with
 | pair a c iha ihc =>
  intro p b off G r h hn
  match p,h,hn with
  | [],_,hn=>rw [y9] at hn; cases hn; rfl
  | .l8 0::p,h,hn=>exact iha (p:=p) h hn
  | .l8 (n+1)::p,h,hn=>exact ihc (p:=.l8 n::p) h hn
  | .idx i::p,h,_=>cases h
 | d0 o t ih =>
  intro p b off G r h hn
  match p,h,hn with
  | [],_,hn=>rw [y9] at hn; cases hn; rfl
  | .l8 i::p,_,hn=>cases o<;>simp [y8] at hn
  | .idx i::p,h,_=>cases h
 | _ =>
  intro p b off G r h hn
  match p,h,hn with
  | [],_,hn=>rw [y9] at hn; cases hn; rfl
  | .l8 i::p,_,hn=>simp [y8] at hn
  | .idx i::p,h,_=>cases h
theorem OX {i:Nat} {e:i6} {p:List Step} {r:Nat×Nat} (hl:Loc H ι i e p=some r) (he:e.vB=true):xE p=false:=by
 obtain ⟨h1,h2⟩:=C8 (b:=r.1) (off:=r.2) hl;cases hf:xE p with
 | false=>rfl
 | true =>
  exfalso;cases e with
  | own t x =>
   rw [I2 (by simp)] at h1;have:=Yc hf h1;simp only [VR] at this;omega
  | _=>cases he
theorem AQ (hE:D3 E B) (h:RS B S ι s a w) {o:Oper} {T:TypeId} {x y:Operand} (ho:o.op=.store T x y) {i:Nat} {e:i6} (h1:look i s.hp=some e) {p:List Step} (h2:x8 e.ty e.x p) {b off:Nat} (h3:Loc w.heap ι i e p=some (b,off)) (h4:a.eval x=.pointer (some ⟨b,off,none⟩))
  {u:Ty} {y0:u.den} (hg:j9 e.ty e.x p=some ⟨u,y0⟩) (bH:I6 E T u=true) {u':Ty} {z:u'.den} {O2:List Nat} {cs:List Value} {r:Sigma Ty.den}
  (hz:g9 w.heap S u' O2 cs z) (aJ:O2.Nodup) (tE:a.eval y=l5 u' cs) (aK:u6 e.ty e.x p u' z=some r)
  (eR:∀ c∈O2,(¬ S c/\(B.w0.heap.size<=c\/B.M c)/\c<w.heap.size)/\(∀ j ej,j≠i->look j s.hp=some ej->c∉l7 ι j ej)/\(c∈l7 ι i e->∃ Op,g9 w.heap S u Op (e8 w.heap b off u.size) y0/\c∈Op)) (bR:b∉O2) :
  y7 E.P B o a w (.raw undef) ((s.kill i e.kd p).w8 i (e.E3 r)):=by
 intro next Q hn
 obtain ⟨Op,m1,mn,m2,m3,m4,m5⟩:=N5 (K9 h3) (h.hs.ob i e h1) h.hs.slt h2 hg h3;have cg:=CA hg aK;have gY:¬ S b:=(h.hs.bl i e h1 b m4).1;obtain ⟨ι',cn⟩:=h.store h1 h2 hg h3 (u':=u') (z:=z) (cs:=cs) (O2:=O2) (λ H' aW hc=>hz.u5 (λ c dD=>hc.rest c (by
   rintro rfl;rcases dD with dD|dD
   ·exact bR dD
   ·exact gY dD) (by
   rcases dD with dD|dD
   ·exact (eR c dD).1.2.2
   ·exact h.hs.slt c dD)) (λ _ h=>h)) (by rw [hz.length,F9 cg]) aJ eR aK (λ bC _=>QH aK (OX h3 bC))
 unfold Oper.wp;have aP:(execOp a.eval o).run E.P w=.ok .skip (w.setRow b (over (w6 w.heap b) off cs).toArray):=by
  simp [execOp,ho,h4,tE,Instr.storeAt,Instr.sureAddr,LS (D6 hE bH) cg m5 hz]
 rw [aP];exact hn S ι' _ undef cn rfl
theorem Kd:∀ t:Ty,t.wc.sh=t.sh:=by
 intro t
 induction t with
 | pair a b iha ihb=>simp only [Ty.wc,Ty.sh,iha,ihb]
 | d0 o t ih=>cases o<;>rfl
 | _=>rfl
theorem g9.wc {H:Array Go.Obj} {S:Nat->Prop}:∀ {u:Ty} {O:List Nat} {cs:List Value} {y:u.den},g9 H S u O cs y->u.wc.shared=true->g9 H S u.wc [] cs (DG u y):=by
 intro u
 induction u with
 | pair a b iha ihb =>
  rintro O cs y ⟨O1,O2,rfl,h1,h2⟩ hs;simp only [Ty.wc,Ty.shared,aAa] at hs;have ea:a.wc.size=a.size:=F9 (Kd a);have eb:b.wc.size=b.size:=F9 (Kd b);exact ⟨[],[],rfl,by rw [ea]; exact iha h1 hs.1,by rw [ea]; exact ihb h2 hs.2⟩
 | d0 o t ih =>
  intro O cs y h hs;cases o with
  | true =>
   rcases h with ⟨_,⟨a,c,rfl,_⟩,_⟩|⟨b,off,cap,O',rfl,_⟩
   ·exact ⟨rfl,_,rfl,rfl⟩
   ·exact ⟨rfl,_,rfl,rfl⟩
  | false =>
   have hn:=h.O7 hs;subst hn; exact h
 | arr n t ih =>
  intro O cs y h hs;have hn:=h.O7 hs;subst hn; exact h
 | map o k v =>
  intro O cs y h hs;have hn:=h.O7 hs;subst hn; exact h
 | box o g t =>
  intro O cs y h hs;have hn:=h.O7 hs;subst hn; exact h
 | _ =>
  intro O cs y h hs;have hn:=h.O7 hs;subst hn; exact h
theorem ZH {H:Array Go.Obj} {S:Nat->Prop} {u:Ty} {q:Sigma Ty.den} {O:List Nat} {cs:List Value} (h:g9 H S q.1 O cs q.2):g9 H S (xL u q).1 O cs (xL u q).2/\(xL u q).1.agg=q.1.agg/\(xL u q).1.size=q.1.size:=by
 obtain ⟨t,z⟩:=q;cases u with
 | B9 a =>
  cases t with
  | d0 o b =>
   by_cases e:b=a
   ·subst e
    cases o with
    | false=>rw [show xL (.B9 b) ⟨.d0 false b,z⟩=⟨.B9 b,(0,z,[])⟩ from dif_pos rfl]; exact ⟨h,rfl,rfl⟩
    | true=>rw [show xL (.B9 b) ⟨.d0 true b,z⟩=⟨.B9 b,(1,z,[])⟩ from dif_pos rfl]; exact ⟨h,rfl,rfl⟩
   ·cases o with
    | false=>rw [show xL (.B9 a) ⟨.d0 false b,z⟩=⟨.d0 false b,z⟩ from dif_neg e]; exact ⟨h,rfl,rfl⟩
    | true=>rw [show xL (.B9 a) ⟨.d0 true b,z⟩=⟨.d0 true b,z⟩ from dif_neg e]; exact ⟨h,rfl,rfl⟩
  | _=>exact ⟨h,rfl,rfl⟩
 | _=>exact ⟨h,rfl,rfl⟩
theorem So {H:Array Go.Obj} {S:Nat->Prop}:∀ {u:Ty} {q:Sigma Ty.den} {O:List Nat} {cs:List Value},g9 H S q.1 O cs q.2->g9 H S (Q9 u q).1 O cs (Q9 u q).2/\(Q9 u q).1.agg=q.1.agg/\(Q9 u q).1.size=q.1.size:=by
 intro u
 induction u with
 | B9 a=>intro q O cs h; exact ZH h
 | pair a b iha ihb =>
  rintro ⟨t,z⟩ O cs h;cases hm:a.zR || b.zR with
  | false =>
   have:Q9 (.pair a b) ⟨t,z⟩=⟨t,z⟩:=by simp only [Q9,hm]
   rw [this]; exact ⟨h,rfl,rfl⟩
  | true =>
   cases t with
   | pair c d =>
    have e:Q9 (.pair a b) ⟨.pair c d,z⟩=⟨.pair (Q9 a ⟨c,z.1⟩).1 (Q9 b ⟨d,z.2⟩).1,((Q9 a ⟨c,z.1⟩).2,(Q9 b ⟨d,z.2⟩).2)⟩:=by
     simp only [Q9,hm]
    rw [e];obtain ⟨O1,O2,rfl,h1,h2⟩:=h;obtain ⟨k1,_,k3⟩:=iha (q:=⟨c,z.1⟩) h1;obtain ⟨m1,_,m3⟩:=ihb (q:=⟨d,z.2⟩) h2;have k3:(Q9 a ⟨c,z.1⟩).1.size=c.size:=k3;have m3:(Q9 b ⟨d,z.2⟩).1.size=d.size:=m3;refine ⟨⟨O1,O2,rfl,?_,?_⟩,rfl,?_⟩
    ·rw [k3]; exact k1
    ·rw [k3]; exact m1
    ·simp only [Ty.size,k3,m3]
   | _ =>
    have:∀ r:Sigma Ty.den,r=⟨_,z⟩->Q9 (.pair a b) r=r:=by
     rintro r rfl;simp only [Q9,hm]
    rw [this _ rfl]; exact ⟨h,rfl,rfl⟩
 | _=>intro q O cs h; exact ⟨h,rfl,rfl⟩
theorem Qh {H:Array Go.Obj} {S:Nat->Prop} {u:Ty} {q:Sigma Ty.den} {O:List Nat} {cs:List Value} (h:g9 H S q.1 O cs q.2):g9 H S (Q9 u q).1 O cs (Q9 u q).2/\(Q9 u q).1.agg=q.1.agg :=
 ⟨(So h).1,(So h).2.1⟩
theorem b5M (hE:D3 E B) (h:RS B S ι s a w) {o:Oper} {T:TypeId} {x y:Operand} (ho:o.op=.store T x y) {i:Nat} {p:List Step} (hx:s.ev x=.ptr i p):F1 E.P B o a w (Q8 E T i p (s.ev y) s):=by
 obtain ⟨e,b,off,h1,h2,h3,h4⟩:=C3 h hx;have h4:a.eval x=.pointer (some ⟨b,off,none⟩):=by simpa using h4
 unfold Q8
 split
 ·trivial
 ·rename_i e' aS
  obtain rfl:=wG h1 aS
  split
  ·trivial
  ·rename_i u y0 hg
   obtain ⟨Op,m1,mn,m2,m3,m4,m5⟩:=N5 (K9 h3) (h.hs.ob i e' h1) h.hs.slt h2 hg h3
   split
   ·trivial
   ·rename_i bH
    split
    ·rename_i hy
     have qV:=C3 h hy
     split
     ·rename_i o' u' _
      split
      ·rename_i r aK
       refine AQ hE h ho h1 h2 h3 h4 hg bH (u':=.d0 o' u') (z:=([]:List u'.den)) (O2:=[]) (cs:=[.slice none 0 0]) (.inl ⟨rfl,⟨none,0,rfl,λ _=>rfl⟩,rfl⟩) aAw ?_ aK (by simp) (by simp);have:[a.eval y]=[Value.slice none 0 0]:=qV;simpa [l5,Ty.agg] using this
      ·trivial
     ·rename_i a' _
      split
      ·rename_i r aK
       refine AQ hE h ho h1 h2 h3 h4 hg bH (u':=.B9 a') (z:=(1,([],[]))) (O2:=[]) (cs:=[.slice none 0 0]) (.inl ⟨rfl,⟨none,0,rfl,λ _=>rfl⟩,rfl⟩) aAw ?_ aK (by simp) (by simp);have:[a.eval y]=[Value.slice none 0 0]:=qV;simpa [l5,Ty.agg] using this
      ·trivial
     ·trivial
    ·rename_i j q lo hi hy
     split
     ·rename_i u' y1
      split
      ·rename_i r aK
       split
       ·rename_i bS
        have bS:=aAd bS;subst bS;rintro ⟨rfl,_⟩;obtain ⟨e2,v2,k1,k2,k3,k4,k5,k6⟩:=C3 h hy;rw [h1] at k1; cases k1;rcases k6 with ⟨t',l,A,cap,q1,q2,q3,q4⟩|⟨n,t',l,b2,off2,q1,_⟩
        ·rw [hg] at q1; cases q1
         obtain ⟨b0,off0,r1,r2⟩:=q3;obtain ⟨r3,r4⟩:=C8 h3;rw [r3] at r1; cases r1;rw [l6 (G4 r4)] at r2;have m2':g9 w.heap S (.d0 true u') Op [.slice A (List.length y1) cap] y1:=by rw [r2]; exact m2
         obtain ⟨O,cs,g1,g2,g3,g4⟩:=Pl m2' mn k4 k5 q2 q4;have k3:a.eval y=v2:=by simpa using k3
         refine AQ hE h ho h1 h2 h3 h4 hg bH (u':=.d0 true u') (z:=o5 lo hi y1) g2 g3 (by rw [k3,g1]) aK (λ c hc=>?_) ?_
         ·have dY:=m1 c (g4 c hc)
          exact ⟨h.hs.bl i e' h1 c (G6 dY),λ j ej hj di=>h.hs.dj i j e' ej h1 di (Ne.symm hj) c (G6 dY),λ _=>⟨Op,m2,g4 c hc⟩⟩
         ·intro hb
          have:=(h.hs.ob i e' h1).zy (K9 h3) h.hs.slt h2 hg h3 m2;exact this (g4 b hb)
        ·rw [hg] at q1; cases q1
       ·trivial
      ·trivial
     ·trivial
    ·rename_i xv _ _
     split
     ·rename_i q g cR
      split
      ·rename_i r aK
       split
       ·rename_i ld
        simp only [aAa,aAt] at ld;obtain ⟨⟨eh,ig⟩,dO⟩:=ld;have eh:i∉g:=by
         intro hm;simp [hm] at eh
        obtain ⟨O2,cs,k1,k2,k3,k4⟩:=Fg h.hs (t:=q.1) (x:=q.2) cR (h.ev y);obtain ⟨k2,kf⟩:=Qh (u:=u) k2;rw [<- BZ kf] at k1;have hd:=h.w9 (g:=g) dO;have jz:look i (St.w9 g s).hp=some e':=by rw [J9,if_neg eh]; exact h1
        have bt:∀ c∈O2,∀ j ej,j∉g->look j s.hp=some ej->c∉l7 ι j ej:=by
         intro c hc j ej hj di;obtain ⟨j2,e2,q1,q2,q3⟩:=k4 c hc;exact h.hs.dj j2 j e2 ej q2 di (by rintro rfl; exact hj q1) c q3
        refine AQ hE hd ho jz h2 h3 h4 hg bH k2 k3 k1 aK (λ c hc=>?_) (λ hb=>bt b hb i e' eh h1 m4);obtain ⟨j2,e2,q1,q2,q3⟩:=k4 c hc;refine ⟨h.hs.bl j2 e2 q2 c q3,λ j ej hj di=>?_,λ kr=>absurd kr (bt c hc i e' eh h1)⟩;rw [J9] at di;split at di
        ·cases di
        ·rename_i fV; exact bt c hc j ej fV di
       ·trivial
      ·trivial
     ·split
      ·rename_i j q hy
       split
       ·rename_i u' y' cQ
        split
        ·rename_i r aK
         split
         ·rename_i hc
          simp only [aAa] at hc;obtain ⟨e2,u2,y2,cs,k1,k2,k3,k4,k5⟩:=C3 h hy;have gD:=I3 k1 cQ;rw [k3] at gD; cases gD;obtain ⟨O2,g1,_,g2⟩:=H5 h.hs k1 k2 k3 k4;exact AQ hE h ho h1 h2 h3 h4 hg bH (g2.wc hc.1.1) aAw (by rw [Iw (Kd _)]; simpa using k5) aK (by simp) (by simp)
         ·trivial
        ·trivial
       ·trivial
      ·trivial
theorem ZX (_hE:D3 E B) (h:RS B S ι s a w) {o:Oper} {T:TypeId} {x:Operand} (ho:o.op=.box T x):F1 E.P B o a w (m0 E o s):=by
 unfold m0;rw [ho];simp only
 split
 ·rename_i t d ht hd
  split
  ·rename_i hf
   have core:∀ {u:Ty} {y:u.den} {O:List Nat} {cs:List Value} {g:List Nat},g9 w.heap S u O cs y->a.eval x=l5 u cs->(g.all λ i=>!pinned i)=true->d∉g->F2 B S ι (St.w9 g s).hp w O->y7 E.P B o a w (.ptr d []) ((St.w9 g s).w8 d (.var u y)):=by
    intro u y O cs g hR e hg uU hF next Q hn
    unfold Oper.wp;have:(execOp a.eval o).run E.P w=.ok (.value (.pointer (some ⟨w.heap.size,0,none⟩))) (F7 w (.cells cs.toArray T)):=by
     simp [execOp,ho,Instr.box,e,newVar,newRow,newObj,Sem.run,F7,hR.cells]
    rw [this];have tv:(St.w9 g s).fresh d=true:=by
     obtain ⟨f1,f2⟩:=Ff hf;simp only [St.fresh,aAa,aCm];refine ⟨by rw [J9]; split<;>first|rfl|exact f1,?_⟩;exact LP (by simp only [St.fresh,aAa] at hf; exact hf.2)
    exact hn S _ _ _ ((h.w9 hg).alloc tv hR hF T) (IS (by simp [F7]))
   split
   ·rename_i u y g cR
    split
    ·rename_i hs
     split
     ·rename_i ld
      simp only [aAa,aAt] at ld;obtain ⟨⟨ig,ng⟩,dO⟩:=ld;obtain ⟨O2,cs,k1,k2,k3,k4⟩:=Fg h.hs cR (h.ev x);exact core k2 k1 dO (by intro hm; simp [hm] at ng) (F2.w9 h.hs k3 k4)
     ·trivial
    ·trivial
   ·split
    ·rename_i o' u hx _
     have hv:[a.eval x]=[Value.slice none 0 0]:=C3 h hx;exact core (g:=[]) (cs:=[.slice none 0 0]) (u:=.d0 o' u) (y:=([]:List u.den)) (O:=[]) (.inl ⟨rfl,⟨none,0,rfl,λ _=>rfl⟩,rfl⟩) (by simpa [l5,Ty.agg] using hv) rfl (by simp) F2.nil
    ·rename_i i p o0 t0 hx _
     intro next Q hn
     obtain ⟨e,b,off,k1,k2,k3,k4⟩:=C3 h hx;have k4:a.eval x=.pointer (some ⟨b,off,none⟩):=by simpa using k4
     unfold Oper.wp;have:(execOp a.eval o).run E.P w=.ok (.value (.pointer (some ⟨w.heap.size,0,none⟩))) (F7 w (.cells #[.pointer (some ⟨b,off,none⟩)] T)):=by
      simp [execOp,ho,Instr.box,k4,newVar,newRow,newObj,Sem.run,F7,Value.cells]
     rw [this];have h1:=h.vn F2.nil (D0.push (.cells #[.pointer (some ⟨b,off,none⟩)] T));have h2:=h1.share (S':=λ c=>S c\/c=w.heap.size) (λ _ h=>.inl h) (λ c hc=>by
      rcases hc with hc|rfl
      ·exact .inl hc
      ·exact .inr ⟨.inl h.hs.size,by simp [F7],λ j ej hj hb=>aCx _ (h.hs.bl j ej hj _ hb).2.2⟩)
     have hb:w6 (F7 w (.cells #[.pointer (some ⟨b,off,none⟩)] T)).heap w.heap.size=[.pointer (some ⟨b,off,none⟩)]:=by
      simp only [w6,F7,Array.getElem?_push_size]
     refine hn _ _ _ _ h2 ⟨w.heap.size,0,.pointer (some ⟨b,off,none⟩),rfl,.inr rfl,by rw [hb]; simp,by rw [e8,hb]; rfl,?_⟩;have h3:=h2.ev x;rw [hx,k4] at h3;exact h3
    ·trivial
  ·trivial
 ·trivial
end
end Go.Ex
namespace Go.Ex
section
variable {E:Env} {B:E6} {S S':Nat->Prop} {ι:Ix} {s:St} {a:Act} {w:World} {hp:List (Nat×i6)} {H H':Array Go.Obj}
theorem TX {P:Program} {k:Nat} {T U:TypeId} {t:Ty} (hT:o8 P k T (.d0 true t)=true) (ty:TypeId) (hS:∀ c,S c->c<w.heap.size)
  {base:Option Addr} {cap:Nat} {l m:List t.den} {O1 Og:List Nat} {x:Value} {olds news:List Value}
  (hold:(Builtin.firstCells t.size l.length (.slice base l.length cap)).run P w.drew=.ok olds.toArray w.drew) (hL:j5 (g9 w.heap S t) t.size O1 olds l)
  (hs:Src P t.size U x m.length news w) (hN:j5 (g9 w.heap S t) t.size Og news m) (aJ:(O1++Og).Nodup) (hO:∀ c∈O1++Og,c<w.heap.size)
  (cO:cap<l.length+m.length) (iT:l.length+m.length<=140737488355328) (gS:(l.length+m.length)*t.wb<=140737488355328) :
  ∃ v' w' O',(Builtin.append_ #[T,U] ty #[.slice base l.length cap,x]).run P w=.ok v' w'/\g9 w'.heap S (.d0 true t) O' [v'] (l++m)/\O'.Nodup/\D0 [] w w'/\w.heap.size<w'.heap.size/\∀ c∈O',(c=w.heap.size\/c∈O1++Og)/\c<w'.heap.size:=by
 obtain ⟨et,k2,h1,h2,h3⟩:=G5 hT;obtain ⟨i,hi,eB,kX⟩:=X5 h3;have lT:=KY h3 hi;have jz:olds.length=l.length*t.size:=j5.length (λ _ _ _ h=>h.length) hL;have lR:news.length=m.length*t.size:=j5.length (λ _ _ _ h=>h.length) hN;have kk:=grownCap_ge w (l.length+m.length) cap et;have fT:=grownCap_le_maxLen w (l.length+m.length) cap et (by unfold maxLen; omega);have jh:(l5 t (zc t)).cells=(zc t).toArray:=(g9.s4 (H:=w.heap) (S:=S) t).cells;have aP:=run_append_grow_src (P:=P) w T U ty et i (l5 t (zc t)) h1 hi kX base l.length cap olds (by rw [eB]; exact hold) x m.length news (by rw [eB]; exact hs) cO (by omega) (by rw [lT]; exact growslice_fits cO gS);generalize ld:grownCap w (l.length+m.length) cap et=gc at aP kk fT;have bj:D0 [] w (w.drew.alloc (.cells ((olds++news).toArray++Builtin.zeroCells (l5 t (zc t)).cells (gc - (l.length+m.length))) et)) :=
  D0.trans D0.drew (D0.push _) (by simp)
 have cC:((olds++news).toArray++Builtin.zeroCells (l5 t (zc t)).cells (gc - (l.length+m.length)))=((olds++news)++(List.replicate (gc - (l.length+m.length)) (zc t)).flatten).toArray:=by
  rw [jh,FL]; simp
 rw [cC] at aP bj;have bf:(l++m).length=l.length+m.length:=aAe;obtain ⟨O',q1,q2,q3⟩:=EE (w:=w) (t:=t) (l:=l++m) (cap:=gc) hS (O:=O1++Og) (cells:=(olds++news)++(List.replicate (gc - (l.length+m.length)) (zc t)).flatten) (by
  rw [bf,aDd (by rw [aAe,jz,lR,aBl])];exact j5.append (λ _ _ _ h=>h.length) hL hN) (by rw [bf]; exact kk) fT (by
  simp only [aAe,jz,lR,aHw,List.map_replicate,aHd,S4];rw [<- aBl,<- aBl]; exact aAm _ (by omega)) et hO (w':=w.drew.alloc (.cells ((olds++news)++(List.replicate (gc - (l.length+m.length)) (zc t)).flatten).toArray et)) rfl (.inl rfl)
 have aW:(w.drew.alloc (.cells ((olds++news)++(List.replicate (gc - (l.length+m.length)) (zc t)).flatten).toArray et)).heap.size=w.heap.size+1:=by
  show (w.heap.push _).size=_;simp
 refine ⟨_,_,O',aP,?_,q3 aJ,bj,by omega,λ c hc=>⟨q2 c hc,?_⟩⟩
 ·rw [bf] at q1; exact q1
 ·rcases q2 c hc with rfl|h
  ·omega
  ·have:=hO c h; omega
theorem b88 {P:Program} {k:Nat} {T U:TypeId} {t:Ty} (hT:o8 P k T (.d0 true t)=true) (ty:TypeId)
  {b off cap:Nat} {l m:List t.den} {O1 Og:List Nat} {x:Value} {news:List Value}
  (hl:l.length<=cap) (dY:cap<=maxLen) (fX:V4 t.isB w.heap b (off+cap*t.size)) (hL:j5 (g9 w.heap S t) t.size O1 (e8 w.heap b off (l.length*t.size)) l)
  (hs:Src P t.size U x m.length news w) (hN:j5 (g9 w.heap S t) t.size Og news m) (aJ:(b::O1++Og).Nodup) (ot:¬ S b)
  (cr:l.length+m.length<=cap) (lE:1<=cap) :
  ∃ w',(Builtin.append_ #[T,U] ty #[.slice (some ⟨b,off,none⟩) l.length cap,x]).run P w=.ok (.slice (some ⟨b,off,none⟩) (l.length+m.length) cap) w' /\
   X1 w.heap w'.heap b (off+l.length*t.size) news.length/\w'.heap.size=w.heap.size/\g9 w'.heap S (.d0 true t) (b::(O1++Og)) [.slice (some ⟨b,off,none⟩) (l.length+m.length) cap] (l++m)/\D0 [b] w w' /\
   g9 w'.heap S (.d0 true t) (b::O1) [.slice (some ⟨b,off,none⟩) l.length cap] l:=by
 obtain ⟨et,k2,h1,h2,h3⟩:=G5 hT;obtain ⟨i,hi,eB,kX⟩:=X5 h3;have lR:news.length=m.length*t.size:=j5.length (λ _ _ _ h=>h.length) hN;have hle:l.length*t.size+m.length*t.size<=cap*t.size:=by rw [<- aBl]; exact aAm _ cr
 have bf:(l++m).length=l.length+m.length:=aAe;obtain ⟨arr,T',⟨fz,e,ef⟩,hn⟩:=fX;have bO:w6 w.heap b=arr.toList:=by simp only [w6,e]
 have bQ:=FM (P:=P) b (off+l.length*t.size) T' fz news 0 arr w ⟨e,ef.imp id (·.2)⟩ (by omega) hs.one;simp only [aDt] at bQ;have iD:arr.toList.take (off+l.length*t.size)++news++arr.toList.drop (off+l.length*t.size+news.length)=over (w6 w.heap b) (off+l.length*t.size) news:=by rw [bO]; rfl
 rw [iD] at bQ;have aP:(Builtin.append_ #[T,U] ty #[.slice (some ⟨b,off,none⟩) l.length cap,x]).run P w=.ok (.slice (some ⟨b,off,none⟩) (l.length+m.length) cap) (w.setRow b (over (w6 w.heap b) (off+l.length*t.size) news).toArray):=by
  rw [<- eB] at hs bQ ⊢;rcases hs.kind with ⟨e',hk⟩|hk<;>simp [Builtin.append_,run_underlying h1,run_underlying hk,sizeOf,typeInfo,hi,hs.len,cr,hs.cells,Addr.add_lit,bQ]
 obtain ⟨hc,hcs⟩:=Fb (w:=w) (b:=b) (off:=off+l.length*t.size) (cs:=news) ⟨arr,T',⟨fz,e,ef.imp id (·.2)⟩,by omega⟩;have dK:b<w.heap.size:=(aAo.1 e).1;have pE:=(aAs.1 (by simpa using aJ:(b::(O1++Og)).Nodup));have hold:e8 (w.setRow b (over (w6 w.heap b) (off+l.length*t.size) news).toArray).heap b off (l.length*t.size)=e8 w.heap b off (l.length*t.size):=hc.cells dK (λ _=>.inl (aAj _));have bQ:∀ {O:List Nat} {cs:List Value} {y:t.den},(∀ c∈O,c∈O1++Og)->g9 w.heap S t O cs y->g9 (w.setRow b (over (w6 w.heap b) (off+l.length*t.size) news).toArray).heap S t O cs y:=by
  intro O cs y hO hr;refine hr.u5 (λ c cU=>setRow_other ?_) (λ _ h=>h);intro cx;rw [cx] at cU;rcases cU with h|h
  ·exact pE.1 (hO _ h)
  ·exact ot h
 have dV:V4 t.isB (w.setRow b (over (w6 w.heap b) (off+l.length*t.size) news).toArray).heap b (off+cap*t.size):=hc.He ⟨arr,T',⟨fz,e,ef⟩,hn⟩;refine ⟨_,aP,hc,setRow_size,?_,⟨rfl,.of rfl rfl,rfl,by rw [setRow_size]; exact aAj _,λ c cD cx=>setRow_other (by simpa using cx)⟩,?_⟩
 rotate_left
 ·refine .inr ⟨b,off,cap,O1,rfl,hl,⟨dY,λ _=>lE⟩,?_,?_,rfl,dV⟩
  ·have:=dV.free.w6
   have:=aAm t.size hl;omega
  ·rw [hold]
   exact j5.mono (L:=O1) (λ _ h=>h) (λ O cs y hO hr=>bQ (λ c hc=>by simp [hO c hc]) hr) hL
 refine .inr ⟨b,off,cap,O1++Og,by rw [bf],by rw [bf]; exact cr,⟨dY,λ _=>lE⟩,?_,?_,rfl,dV⟩
 ·have:=dV.free.w6
  rw [bf,aBl]; omega
 ·rw [bf,aBl,Lz,hold,<- lR,hcs]
  exact j5.append (λ _ _ _ h=>h.length) (j5.mono (L:=O1) (λ _ h=>h) (λ O cs y hO hr=>bQ (λ c hc=>by simp [hO c hc]) hr) hL) (j5.mono (L:=Og) (λ _ h=>h) (λ O cs y hO hr=>bQ (λ c hc=>by simp [hO c hc]) hr) hN)
theorem SX {P:Program} {k:Nat} {T U:TypeId} {t:Ty} (hT:o8 P k T (.d0 true t)=true) (ty:TypeId) (hS:∀ c,S c->c<w.heap.size)
  {v:Value} {l m:List t.den} {Of Og:List Nat} {x:Value} {news:List Value}
  (hR:g9 w.heap S (.d0 true t) Of [v] l) (hs:Src P t.size U x m.length news w) (hN:j5 (g9 w.heap S t) t.size Og news m)
  (aJ:(Of++Og).Nodup) (hO:∀ c∈Of++Og,¬ S c/\c<w.heap.size)
  (iT:l.length+m.length<=140737488355328) (gS:(l.length+m.length)*t.wb<=140737488355328) :
  ∃ v' w' O',(Builtin.append_ #[T,U] ty #[v,x]).run P w=.ok v' w'/\g9 w'.heap S (.d0 true t) O' [v'] (l++m)/\O'.Nodup/\D0 Of w w'/\(∀ c∈O',(w.heap.size<=c\/c∈Of++Og)/\c<w'.heap.size)/\g9 w'.heap S (.d0 true t) Of [v] l /\
   (D0 [] w w'\/∃ b off cap n,v=.slice (some ⟨b,off,none⟩) l.length cap/\l.length<=cap/\1<=cap/\X1 w.heap w'.heap b (off+l.length*t.size) n/\w'.heap.size=w.heap.size):=by
 have fD:=hR;rcases hR with ⟨rfl,⟨A,c,e,hc⟩,rfl⟩|⟨b,off,cap,O1,e,c2,c3,c4,c5,rfl,c7⟩
 ·obtain rfl:=hc rfl
  simp only [aBa,and_true] at e;subst e;by_cases h0:m.length=0
  ·obtain rfl:m=[]:=aCj.1 h0
   obtain ⟨rfl,rfl⟩:=hN;obtain ⟨et,k2,h1,h2,h3⟩:=G5 hT;obtain ⟨i,hi,eB,kX⟩:=X5 h3;refine ⟨.slice A 0 0,w,[],?_,.inl ⟨rfl,⟨A,0,rfl,λ _=>rfl⟩,rfl⟩,aAw,⟨rfl,.refl _,rfl,aAj _,λ _ _ _=>rfl⟩,by simp,fD,.inl ⟨rfl,.refl _,rfl,aAj _,λ _ _ _=>rfl⟩⟩;rw [<- eB] at hs;have iY:=hs.len;have ep:=hs.cells;simp only [aCh] at iY ep;rcases hs.kind with ⟨e',hk⟩|hk<;>cases A<;>simp [Builtin.append_,run_underlying h1,run_underlying hk,sizeOf,typeInfo,hi,iY,ep,storeCells]
  ·obtain ⟨v',w',O',q1,q2,q3,q4,q5,q6⟩:=TX hT ty hS (base:=A) (cap:=0) (l:=([]:List t.den)) (olds:=[]) (O1:=[]) (by
    cases A with
    | none=>exact run_firstCells_none w.drew t.size 0 0 0
    | some A=>exact run_firstCells_some w.drew t.size 0 A 0 0 [] (by simp) (by simp)) ⟨rfl,rfl⟩ hs hN (by simpa using aJ) (λ c hc=>(hO c (by simpa using hc)).2) (by simp; omega) iT gS
   exact ⟨v',w',O',q1,q2,q3,q4,λ c hc=>⟨(q6 c hc).1.imp (λ h=>by omega) (λ h=>by simpa using h),(q6 c hc).2⟩,fD.u5 (λ c hc=>q4.frame c (hc.elim (λ h=>by cases h) (hS c)) (by simp)) (λ _ h=>h),.inl q4⟩
 ·simp only [aBa,and_true] at e
  subst e;by_cases cr:l.length+m.length<=cap
  ·obtain ⟨w',q1,q2,q3,q4,q5,q6⟩:=b88 (S:=S) hT ty c2 c3.1 c7 c5 hs hN aJ (hO b (by simp)).1 cr (c3.2 rfl)
   refine ⟨_,w',b::(O1++Og),q1,q4,by simpa using aJ,q5.mono (by simp),λ c hc=>⟨.inr (by simpa using hc),?_⟩,q6,.inr ⟨b,off,cap,news.length,rfl,c2,c3.2 rfl,q2,q3⟩⟩;rw [q3]; exact (hO c (by simpa using hc)).2
  ·have ez:(O1++Og).Nodup:=(aAs.1 (by simpa using aJ:(b::(O1++Og)).Nodup)).2
   obtain ⟨v',w',O',q1,q2,q3,q4,q5,q6⟩:=TX hT ty hS (base:=some ⟨b,off,none⟩) (cap:=cap) (l:=l) (olds:=e8 w.heap b off (l.length*t.size)) (O1:=O1) (by
    refine run_firstCells_some w.drew t.size l.length _ l.length cap _ (Mf _ _ _ c4) (λ j u hu=>?_);rw [Addr.I1]; exact N3 hu) c5 hs hN ez (λ c hc=>(hO c (by simp at hc ⊢; exact .inr hc)).2) (by omega) iT gS
   exact ⟨v',w',O',q1,q2,q3,q4.mono (by simp),λ c hc=>⟨(q6 c hc).1.imp (λ h=>by omega) (λ h=>by simp at h ⊢; exact .inr h),(q6 c hc).2⟩,fD.u5 (λ c hc=>q4.frame c (hc.elim (λ h=>(hO c (aBb _ h)).2) (hS c)) (by simp)) (λ _ h=>h),.inl q4⟩
theorem JA {P:Program} (h:RS B S ι s a w) {v:AV} {t0:Ty} {U:TypeId} (hk:(∃ e',P.underlying U=some (.slice e'))\/P.underlying U=some .string) {t:Ty} {m:List t.den} {g:List Nat} {x:Value} (hx:v.vw s t0=some (⟨t,m⟩,g)) (hv:VX w.heap S ι s.hp v [x]) :
  ∃ Og news,Src P t.size U x m.length news w/\j5 (g9 w.heap S t) t.size Og news m/\Og.Nodup/\∀ b∈Og,N4 ι s.hp g b:=by
 have src:∀ {A:Option Addr} {n c:Nat} {news:List Value},news.length=n*t.size->(n≠0->∃ b off,A=some ⟨b,off,none⟩/\news=e8 w.heap b off (n*t.size))->(∀ u∈news,u.oneCell'=true)->Src P t.size U (.slice A n c) n news w:=by
  intro A n c news hl hn h1;by_cases h0:n=0
  ·subst h0
   have:news=[]:=aCj.1 (by omega);subst this;cases A with
   | none=>exact ⟨hk,λ _=>rfl,run_firstCells_none w _ 0 0 c,run_firstCells_none w.drew _ 0 0 c,by simp,λ _ h=>by cases h⟩
   | some A=>exact ⟨hk,λ _=>rfl,run_firstCells_some w _ 0 A 0 c [] (by simp) (by simp),run_firstCells_some w.drew _ 0 A 0 c [] (by simp) (by simp),by simp,λ _ h=>by cases h⟩
  ·obtain ⟨b,off,rfl,e⟩:=hn h0
   have bN:∀ j u,news[j]?=some u->w.cell? ((⟨b,off,none⟩:Addr).add j)=some u:=by
    intro j u hu;rw [Addr.I1]; rw [e] at hu; exact N3 hu
   exact ⟨hk,λ _=>rfl,run_firstCells_some w _ n _ n c news hl bN,run_firstCells_some w.drew _ n _ n c news hl (by simpa using bN),hl,h1⟩
 unfold AV.vw at hx;split at hx
 ·cases hx
  have fK:[x]=[Value.slice none 0 0]:=hv;obtain rfl:x=.slice none 0 0:=by simpa using fK
  exact ⟨[],[],src (by simp) (by simp) (by simp),⟨rfl,rfl⟩,aAw,by simp⟩
 ·rename_i y
  cases hx;obtain ⟨rfl,hm⟩:=VX.zq hv;refine ⟨[],byteCells ⟨y.toArray⟩,?_,?_,aAw,by simp⟩
  ·have hl:(List.map (λ b:UInt8=>(b.toNat:Int)) y).length=(⟨y.toArray⟩:ByteArray).size:=by simp [ByteArray.size]
   have e:∀ w':World,(Builtin.firstCells 1 (⟨y.toArray⟩:ByteArray).size (.string ⟨y.toArray⟩)).run P w'=.ok (byteCells ⟨y.toArray⟩).toArray w':=firstCells_string _;show Src P 1 U (.string ⟨y.toArray⟩) (List.map (λ b:UInt8=>(b.toNat:Int)) y).length (byteCells ⟨y.toArray⟩) w;rw [hl];exact ⟨hk,λ _=>rfl,e w,e w.drew,by rw [byteCells_length,aHt],λ u hu=>by
    obtain ⟨_,_,rfl⟩:=aCu.1 hu;rfl⟩
  ·simp only [byteCells]
   clear src hv hm
   induction y with
   | nil=>exact ⟨rfl,rfl⟩
   | cons c y ih=>exact ⟨[],[],rfl,⟨rfl,rfl,by simp only [r9,IntKind.min,IntKind.max,IntKind.signed,IntKind.bits]; have:=c.toNat_lt; simp; omega⟩,by simpa [Ty.size] using ih⟩
 ·split at hx
  ·cases hx
  ·rename_i t' l fq
   split at hx
   ·rename_i cg
    cases hx;obtain ⟨A,c,e,k⟩:=Ek h.hs hv fq;subst e;rcases k with rfl|⟨b,off,O',rfl,k1,k2,k3,k4⟩
    ·exact ⟨[],[],src (by simp) (by simp) (by simp),⟨rfl,rfl⟩,aAw,by simp⟩
    ·have hO:O'=[]:=j5.O7 (λ _ _ _ hr=>g9.O7 cg hr) k3
     subst hO;exact ⟨[],_,src (j5.length (λ _ _ _ h=>h.length) k3) (λ _=>⟨b,off,rfl,rfl⟩) (j5.plain (λ _ _ _ hr=>hr.plain) k3 · · |>.1),k3,aAw,by simp⟩
   ·split at hx
    ·rename_i u m' g' cR
     cases hx;obtain ⟨O,cs,k1,k2,k3,k4⟩:=Az h.hs cR hv;rcases k2 with ⟨rfl,⟨A,c,rfl,hc⟩,rfl⟩|⟨b,off,cap,O',rfl,c2,c3,c4,c5,rfl,c7⟩
     ·have e:x=.slice A 0 c:=k1
      subst e;exact ⟨[],[],src (by simp) (by simp) (by simp),⟨rfl,rfl⟩,aAw,by simp⟩
     ·have e:x=.slice (some ⟨b,off,none⟩) (List.length m) cap:=k1
      subst e;exact ⟨O',_,src (j5.length (λ _ _ _ h=>h.length) c5) (λ _=>⟨b,off,rfl,rfl⟩) (j5.plain (λ _ _ _ hr=>hr.plain) c5 · · |>.1),c5,(aAs.1 k3).2,λ c hc=>k4 c (by simp [hc])⟩
    ·cases hx
theorem c2B (hE:D3 E B) (h:RS B S ι s a w) {o:Oper} {c:Call} (ho:o.op=.call c) (hc:c.callee=.builtin .append) {x y:Operand} {T U:TypeId} (ha:c.args.toList=[x,y]) (fb:c.argTypes.toList=[T,U])
  {q:Bool} {t0:Ty} {bts d:Nat} (hT:look T E.tt=some ⟨.d0 q t0,bts⟩) {l m:List t0.den} {f g Of Og:List Nat} {v1:Value} {news:List Value} (eT:a.eval x=v1) (hR:g9 w.heap S (.d0 true t0) Of [v1] l) (nI:Of.Nodup) (rD:∀ b∈Of,N4 ι s.hp f b)
  (hs:Src E.P t0.size U (a.eval y) m.length news w) (hN:j5 (g9 w.heap S t0) t0.size Og news m) (lX:Og.Nodup) (lv:∀ b∈Og,N4 ι s.hp g b) {p:Prop} (hp:p->l.length+m.length<=140737488355328/\(l.length+m.length)*t0.wb<=140737488355328) :
  F1 E.P B o a w ((s.lay d (f++g) (.d0 true t0) (l++m)).f8 p):=by
 refine F1.Jl (λ v s' hl pk=>?_);obtain ⟨iT,gS⟩:=hp pk;obtain ⟨gn,gp⟩:=Jh hl;have dd:o8 E.P 100 T (.d0 true t0)=true:=Er (t:=.d0 q t0) (u:=.d0 true t0) rfl (r7 hE hT);have aJ:(Of++Og).Nodup:=aAg.2 ⟨nI,lX,by
  rintro c h1 c' h2 rfl;obtain ⟨i,e,i1,i2,i3⟩:=rD c h1;obtain ⟨j,e',j1,j2,j3⟩:=lv c h2;exact h.hs.dj i j e e' i2 j2 (λ e=>(aAg.1 gn).2.2 i i1 j j1 e) c i3 j3⟩
 have dL:∀ b∈Of++Og,N4 ι s.hp (f++g) b:=λ b hb=>(aAi.1 hb).elim (λ hb=>(rD b hb).mono (by simp +contextual)) (λ hb=>(lv b hb).mono (by simp +contextual));have hF:=F2.w9 h.hs aJ dL;have hd:=h.w9 (g:=f++g) gp;obtain ⟨v',w',O',q1,q2,q3,q4,q5,_⟩:=SX dd o.type h.hs.slt hR hs hN aJ (λ c hc=>⟨(hF.2 c hc).1,(hF.2 c hc).2.2.1⟩) iT gS;have aH:c.args=#[x,y]:=by rw [<- ha]
 have eC:c.argTypes=#[T,U]:=by rw [<- fb]
 have aP:(execOp a.eval o).run E.P w=.ok (.value v') w':=by
  subst eT;simp [execOp,ho,resolve,hc,invoke,builtin,aH,eC,q1]
 have nL:F2 B S ι (St.w9 (f++g) s).hp w Of:=hF.sub nI (by simp +contextual);refine y7.lay hl aP (cs:=[v']) rfl q2 (hd.vn nL q4) ⟨q3,λ c hc=>?_⟩;obtain ⟨k1,k2⟩:=q5 c hc;rcases k1 with k1|k1
 ·exact ⟨λ hS=>by have:=h.hs.slt c hS; omega,.inl (by have:=h.hs.size; omega),k2,λ i e hi hb=>by have:=(hd.hs.bl i e hi c hb).2.2; omega⟩
 ·exact ⟨(hF.2 c k1).1,(hF.2 c k1).2.1,k2,(hF.2 c k1).2.2.2⟩
theorem Uf (hE:D3 E B) (h:RS B S ι s a w) {o:Oper} {c:Call} (ho:o.op=.call c) (hc:c.callee=.builtin .append) {x y:Operand} {T U:TypeId} (ha:c.args.toList=[x,y]) (fb:c.argTypes.toList=[T,U])
  (hk:(∃ e',E.P.underlying U=some (.slice e'))\/E.P.underlying U=some .string):F1 E.P B o a w (xe E T (s.ev x) (s.ev y) o.dst s):=by
 unfold xe
 split
 ·rename_i q t0 bts d hT hd
  split
  ·trivial
  ·rename_i t m g cp
   obtain ⟨Og,news,k1,k2,k3,k4⟩:=JA (P:=E.P) h hk cp (h.ev y);simp only;have own:∀ {l:List t0.den} {f Of:List Nat} {v1:Value},a.eval x=v1->g9 w.heap S (.d0 true t0) Of [v1] l->Of.Nodup->(∀ b∈Of,N4 ι s.hp f b) ->
     F1 E.P B o a w (if h:t=t0 then (s.lay d (f++g) (.d0 true t0) (l++Q4 h m)).f8 ((l.length+m.length:Nat)<=140737488355328/\(l.length+m.length:Nat)*(t0.wb:Nat)<=140737488355328) else .fail "append: type"):=by
    intro l f Of v1 e1 e2 e3 e4
    split
    ·rename_i ht
     subst ht;exact c2B hE h ho hc ha fb hT e1 e2 e3 e4 k1 k2 k3 k4 (λ hp=>hp)
    ·trivial
   split
   ·rename_i hx
    have eg:[a.eval x]=[Value.slice none 0 0]:=C3 h hx;exact own (f:=[]) (Of:=[]) (v1:=.slice none 0 0) (by simpa using eg) (.inl ⟨rfl,⟨none,0,rfl,λ _=>rfl⟩,rfl⟩) aAw (by simp)
   ·rename_i u lx hx
    split
    ·obtain ⟨cs,e,hR⟩:=C3 h hx
     rcases hR with ⟨_,⟨A,c,rfl,ep⟩,rfl⟩|⟨b,off,cap,O',rfl,c2,c3,c4,c5,c6,c7⟩
     ·exact own (f:=[]) (Of:=[]) (v1:=.slice A 0 c) (by simpa [l5,Ty.agg] using e) (.inl ⟨rfl,⟨A,c,rfl,ep⟩,rfl⟩) aAw (by simp)
     ·cases c6
    ·trivial
   ·rename_i xv _ _
    split
    ·rename_i u l f cR
     split
     ·rename_i hu
      subst hu;obtain ⟨O2,cs,r1,r2,r3,r4⟩:=Az h.hs cR (h.ev x);have r1':a.eval x=cs.headD undef:=r1;have hcs:cs=[cs.headD undef]:=by
       have:=r2.length
       match cs,this with
       | [c],_=>rfl
      rw [hcs] at r2;exact own r1' r2 r3 r4
     ·trivial
    ·trivial
 ·trivial
end
end Go.Ex
namespace Go.Ex
section
variable {E:Env} {B:E6} {S S':Nat->Prop} {ι:Ix} {s:St} {a:Act} {w:World} {hp:List (Nat×i6)} {H H':Array Go.Obj}
def yh (a:Act) (d n:Int):Option Operand->Prop
 | none=>n=d
 | some x=>∃ k,a.eval x=.int k n
theorem Z6 (h:RS B S ι s a w) {d n:Int} {x:Option Operand} (hb:bnd s d x=some n):yh a d n x:=by
 unfold bnd at hb;split at hb
 ·cases hb; rfl
 ·rename_i x
  split at hb
  ·rename_i k m hx
   cases hb;exact ⟨k,(VX.I4 (C3 h hx)).1⟩
  ·cases hb
theorem zA {P:Program} {k:IntKind} {n:Int} {y:Nat} {c:BoundsCode} (h0:0<=n) (h1:n<=y):(Instr.sliceBound (.int k n) y c).run P w=.ok n.toNat w:=by
 simp [Instr.sliceBound,asIntOf,h0,h1]
theorem KR {P:Program} {isS:Bool} {len cap:Nat} {lo hi:Option Operand} {x y:Int} (h1:yh a 0 x lo) (h2:yh a (len:Int) y hi) (h0:0<=x) (mb:x<=y) (hy:y<=(cap:Int)) :
  (Instr.sliceBounds isS len cap (lo.map a.eval) (hi.map a.eval) none).run P w=.ok (x.toNat,y.toNat,cap) w:=by
 cases hi with
 | none =>
  have h2:y=len:=h2;cases lo with
  | none =>
   have h1:x=0:=h1;subst h1 h2;simp [Instr.sliceBounds,Sem.run_pure]
  | some z =>
   obtain ⟨k,e⟩:=h1;subst h2;simp only [Instr.sliceBounds,aBe,aCr,e,Sem.run_bind,Sem.run_pure,Result.andThen_ok,zA h0 mb,aCq]
 | some z2 =>
  obtain ⟨k2,e2⟩:=h2;have hb:∀ c,(Instr.sliceBound (.int k2 y) cap c).run P w=.ok y.toNat w:=λ c=>zA (by omega) (by omega);cases lo with
  | none =>
   have h1:x=0:=h1;subst h1;simp [Instr.sliceBounds,e2,hb]
  | some z =>
   obtain ⟨k,e⟩:=h1;have fx:∀ c,(Instr.sliceBound (.int k x) y.toNat c).run P w=.ok x.toNat w:=λ c=>zA h0 (by omega);simp only [Instr.sliceBounds,aBe,e,e2,Sem.run_bind,Sem.run_pure,Result.andThen_ok,hb,fx]
theorem b8l {P:Program} {len cap:Nat} {lo:Option Operand} {x y:Operand} {k k':IntKind} (h1:yh a 0 0 lo) (h2:a.eval x=.int k 0) (h3:a.eval y=.int k' 0) :
  (Instr.sliceBounds true len cap (lo.map a.eval) (some (a.eval x)) (some (a.eval y))).run P w=.ok (0,0,0) w:=by
 have hb:∀ (k:IntKind) (n:Nat) c,(Instr.sliceBound (.int k 0) n c).run P w=.ok 0 w:=λ k n c=>zA (n:=0) (by omega) (by omega);cases lo with
 | none=>simp only [Instr.sliceBounds,aCr,h2,h3,Sem.run_bind,hb,Sem.run_pure,Result.andThen_ok,if_true]
 | some z =>
  obtain ⟨k,e⟩:=h1;simp only [Instr.sliceBounds,aBe,e,h2,h3,Sem.run_bind,hb,Sem.run_pure,Result.andThen_ok,if_true]
theorem Xg {y:yY} {x z:Int} (h:0<=x):(⟨y.toArray⟩:ByteArray).extract x.toNat z.toNat=⟨(o5 x z y).toArray⟩:=by
 have:((⟨y.toArray⟩:ByteArray).extract x.toNat z.toNat).data=(o5 x z y).toArray:=by
  rw [ByteArray.data_extract];simp only [List.extract_toArray,List.extract_eq_take_drop,o5];congr 2;omega
 exact congrArg ByteArray.mk this
theorem XO {α:Type} {x z:Int} {l:List α}:(o5 x z l).length<=l.length:=by simp only [o5,aAk,aAq]; omega
theorem KS {P:Program} {T:TypeId} {k:Nat} {q:Bool} {t:Ty} (hT:o8 P k T (.d0 q t)=true) {A:Option Addr} {len cap:Nat} {lo hi:Option Operand} {x y:Int} (h1:yh a 0 x lo) (h2:yh a (len:Int) y hi) (h0:0<=x) (mb:x<=y) (hy:y<=(cap:Int)) :
  (Instr.sliceAt T (.slice A len cap) (lo.map a.eval) (hi.map a.eval) none).run P w=.ok (.slice (if cap=x.toNat then A else A.map (·.add (x.toNat*t.size))) (y.toNat - x.toNat) (cap - x.toNat)) w:=by
 obtain ⟨et,k',e1,e2,e3⟩:=G5 hT;simp only [Instr.sliceAt,Instr.slice,Sem.run_bind,p9 e1,Result.andThen_ok,KR h1 h2 h0 mb hy,run_sizeOf e3,Sem.run_pure]
theorem Ky {P:Program} {T:TypeId} {k:Nat} {q:Bool} {t:Ty} (hT:o8 P k T (.d0 q t)=true) {A:Option Addr} {len cap:Nat} {lo hi:Option Operand} {x y:Int} (h1:yh a 0 x lo) (h2:yh a (len:Int) y hi) (h0:0<=x) (mb:x<=y) (hy:y<=(len:Int)) (hc:len<=cap) :
  (Instr.sliceAt T (.slice A len cap) (lo.map a.eval) (hi.map a.eval) none).run P w=.ok (.slice (if cap=x.toNat then A else A.map (·.add (x.toNat*t.size))) (y.toNat - x.toNat) (cap - x.toNat)) w:=KS hT h1 h2 h0 mb (by omega)
theorem b5N (hE:D3 E B) (h:RS B S ι s a w) {o:Oper} {T:TypeId} {x:Operand} {lo hi mx:Option Operand} (ho:o.op=.slice T x lo hi mx):F1 E.P B o a w (yA E T (s.ev x) lo hi mx s):=by
 have he:execOp a.eval o=(do pure (.value (<- Instr.sliceAt T (a.eval x) (lo.map a.eval) (hi.map a.eval) (mx.map a.eval)))):=by simp [execOp,ho]
 unfold yA
 split
 ·trivial
 ·rename_i m iX
  have h1:=Z6 h iX;have nil3:∀ {q:Bool} {t:Ty} {A:Option Addr} {len cap:Nat} {c n:Int},I6 E T (.d0 q t)=true->hi.isSome=true->(∃ z,mx=some z)->bnd s 0 mx=some c->(bnd s (len:Int) hi=some n)->a.eval x=.slice A len cap->m=0/\n=0/\c=0 ->
    y7 E.P B o a w (.val (.d0 true t) ([]:List t.den)) s:=by
   rintro q t A len cap c n bH hh ⟨z,rfl⟩ hm hb hv ⟨rfl,rfl,rfl⟩;cases hi with
   | none=>cases hh
   | some y =>
    obtain ⟨k1,e1⟩:=Z6 h hb;obtain ⟨k2,e2⟩:=Z6 h hm;obtain ⟨et,k',f1,f2,f3⟩:=G5 (D6 hE bH);refine y7.value (val:=.slice A 0 0) ?_ h ⟨[.slice A 0 0],rfl,.inl ⟨rfl,⟨A,0,rfl,λ _=>rfl⟩,rfl⟩⟩;rw [he];simp only [aBe,hv,Instr.sliceAt,Instr.slice,Sem.run_bind,p9 f1,Result.andThen_ok,b8l h1 e1 e2,run_sizeOf f3,Sem.run_pure];simp
  have any3:∀ {q:Bool} {t:Ty} {A:Option Addr} {len cap:Nat} {c n:Int},I6 E T (.d0 q t)=true->hi.isSome=true->lo.isSome=true->(∃ z,mx=some z)->bnd s 0 mx=some c->(bnd s (len:Int) hi=some n)->a.eval x=.slice A len cap->len<=cap->(0<=m/\m<=n/\n<=c/\c<=(len:Int)) ->
    y7 E.P B o a w .any s:=by
   rintro q t A len cap c n bH hh lR ⟨z,rfl⟩ hm hb hv cO ⟨g1,g2,g3,g4⟩;cases hi with
   | none=>cases hh
   | some y =>
    cases lo with
    | none=>cases lR
    | some z0 =>
     obtain ⟨k1,e1⟩:=Z6 h hb;obtain ⟨k2,e2⟩:=Z6 h hm;obtain ⟨k0,e0⟩:=h1;obtain ⟨et,k',f1,f2,f3⟩:=G5 (D6 hE bH);have dE:∀ d,(Instr.sliceBound (.int k2 c) cap d).run E.P w=.ok c.toNat w:=λ d=>zA (by omega) (by omega);have fx:∀ d,(Instr.sliceBound (.int k1 n) c.toNat d).run E.P w=.ok n.toNat w:=λ d=>zA (by omega) (by omega);have qx:∀ d,(Instr.sliceBound (.int k0 m) n.toNat d).run E.P w=.ok m.toNat w:=λ d=>zA g1 (by omega);refine y7.value (val:=.slice (if c.toNat=m.toNat then A else A.map (·.add (m.toNat*t.size))) (n.toNat - m.toNat) (c.toNat - m.toNat)) ?_ h ⟨_,rfl⟩;rw [he];simp only [aBe,hv,Instr.sliceAt,Instr.slice,Instr.sliceBounds,e0,e1,e2,dE,fx,qx,Sem.run_bind,p9 f1,Result.andThen_ok,run_sizeOf f3,Sem.run_pure,if_true]
  split
  ·rename_i y hx
   split
   ·rename_i n hb
    split
    ·rename_i bH
     rintro ⟨g1,g2,g3⟩;obtain ⟨hv,hl⟩:=VX.zq (C3 h hx);have hu:=U9 (D6 hE bH);refine y7.value (val:=.string ⟨(o5 m n y).toArray⟩) ?_ h (VX.str (aAv XO hl));rw [he];have aW:(⟨y.toArray⟩:ByteArray).size=List.length y:=rfl;simp only [hv,aCr,Instr.sliceAt,Instr.slice,Sem.run_bind,p9 hu,Result.andThen_ok,aW];simp only [Option.isSome_none,aCk,if_false,KR (isS:=false) h1 (Z6 h hb) g1 g2 g3,Sem.run_pure,Result.andThen_ok,Sem.run_bind,Xg g1]
    ·trivial
   ·trivial
  ·rename_i t y hx
   obtain ⟨cs,e,hR⟩:=C3 h hx
   split
   ·rename_i n hb
    split
    ·rename_i bH
     rintro ⟨g1,g2,g3⟩;have key:∀ {A:Option Addr} {cap:Nat},a.eval x=.slice A (List.length y) cap->List.length y<=cap->(∃ cs',Value.slice (if cap=m.toNat then A else A.map (·.add (m.toNat*t.size))) (n.toNat - m.toNat) (cap - m.toNat)=l5 (.d0 false t) cs'/\g9 w.heap S (.d0 false t) [] cs' (o5 m n y)) ->
       y7 E.P B o a w (.val (.d0 false t) (o5 m n y)) s:=by
      rintro A cap hv hc ⟨cs',e1,e2⟩;refine y7.value (val:=l5 (.d0 false t) cs') ?_ h ⟨cs',rfl,e2⟩;rw [he,hv,<- e1];simp only [aCr,Sem.run_bind,Ky (D6 hE bH) h1 (Z6 h hb) g1 g2 g3 hc,Result.andThen_ok,Sem.run_pure]
     have hlen:(o5 m n y).length=(n - m).toNat:=zE g1 g3;rcases hR with ⟨_,⟨A,c,rfl,_⟩,rfl⟩|⟨b1,o1,cap,O',rfl,c2,c3,c4,c5,c6,rfl,c7⟩
     ·have hn:n=0:=by have:n<=((([]:List t.den).length:Nat):Int):=g3; simp at this; omega
      have ie:m=0:=by omega
      subst hn ie;exact key (A:=A) (cap:=c) (by simpa [l5,Ty.agg] using e) (by simp) ⟨[_],rfl,.inl ⟨rfl,⟨_,_,rfl,by simp⟩,by simp [o5]⟩⟩
     ·refine key (A:=some ⟨b1,o1,none⟩) (cap:=cap) (by simpa [l5,Ty.agg] using e) c2 ⟨[_],rfl,?_⟩
      by_cases hz:o5 m n y=[]
      ·have:n.toNat - m.toNat=0:=by rw [hz] at hlen; simp at hlen; omega
       rw [this];exact .inl ⟨rfl,⟨_,_,rfl,by simp⟩,hz⟩
      ·have fi:0<(n - m).toNat:=by rw [<- hlen]; exact aCd.2 hz
       obtain ⟨P1,P2,P3,e1,g⟩:=c5.cut m.toNat (n - m).toNat;have hP:P2=[]:=by have:=e1.symm; simp at this; exact this.2.1
       subst hP;have hle:m.toNat*t.size+(n - m).toNat*t.size<=List.length y*t.size:=by rw [<- aBl]; exact aAm _ (by omega)
       rw [o6,n7 _ _ _ _ (by omega)] at g;refine .inr ⟨b1,o1+m.toNat*t.size,cap - m.toNat,[],?_,by rw [hlen]; omega,⟨by have:=c3.1; omega,by simp⟩,by rw [hlen]; omega,by rw [hlen]; exact g,rfl,rfl,c7⟩;rw [if_neg (by omega),aBe,Addr.I1,hlen,show n.toNat - m.toNat=(n - m).toNat from by omega]
    ·trivial
   ·rename_i z hb
    split
    ·rename_i c bH hc
     simp only [aAa] at bH;intro hp;obtain ⟨A,c,e1,_⟩:=BY hR;exact nil3 bH.1 bH.2 ⟨_,rfl⟩ hc hb (by rw [show a.eval x=l5 (.d0 false t) cs by simpa using e]; exact e1) hp
    ·trivial
   ·trivial
  ·rename_i t y hx
   obtain ⟨cs,e,hR⟩:=C3 h hx
   split
   ·rename_i n hb
    split
    ·rename_i bH
     obtain ⟨fl,l,m'⟩:=y;rintro ⟨rfl,g1,g2,g3⟩;obtain ⟨b1,o1,O',rfl,c2,c4,c5,_,rfl,c7⟩:=hR;have hv:a.eval x=.slice (some ⟨b1,o1,none⟩) l.length (l.length+m'.length):=by simpa [l5,Ty.agg] using e
     have g3:n<=((l++m').length:Int):=by rw [aAe]; exact g3
     have hlen:(o5 m n (l++m')).length=(n - m).toNat:=zE g1 g3;have c4':=c4;rw [aAe] at g3;refine y7.value (val:=.slice (if l.length+m'.length=m.toNat then some ⟨b1,o1,none⟩ else (some ⟨b1,o1,none⟩:Option Addr).map (·.add (m.toNat*t.size))) (n.toNat - m.toNat) (l.length+m'.length - m.toNat)) ?_ h ⟨[_],rfl,?_⟩
     ·rw [he,hv]
      simp only [aCr,Sem.run_bind,KS (D6 hE bH) h1 (Z6 h hb) g1 g2 g3,Result.andThen_ok,Sem.run_pure]
     by_cases hz:o5 m n (l++m')=[]
     ·have:n.toNat - m.toNat=0:=by rw [hz] at hlen; simp at hlen; omega
      rw [this];exact .inl ⟨rfl,⟨_,_,rfl,by simp⟩,hz⟩
     ·have fi:0<(n - m).toNat:=by rw [<- hlen]; exact aCd.2 hz
      obtain ⟨P1,P2,P3,e1,g⟩:=c5.cut m.toNat (n - m).toNat;have hP:P2=[]:=by have:=e1.symm; simp at this; exact this.2.1
      subst hP;have hle:m.toNat*t.size+(n - m).toNat*t.size<=List.length (l++m')*t.size:=by rw [<- aBl,aAe]; exact aAm _ (by omega)
      rw [o6,n7 _ _ _ _ (by omega)] at g;refine .inr ⟨b1,o1+m.toNat*t.size,l.length+m'.length - m.toNat,[],?_,by rw [hlen]; omega,⟨by have:=c2.1; omega,by simp⟩,by rw [hlen]; omega,by rw [hlen]; exact g,rfl,rfl,c7⟩;rw [if_neg (by omega),aBe,Addr.I1,hlen,show n.toNat - m.toNat=(n - m).toNat from by omega]
    ·trivial
   ·trivial
  ·rename_i hx
   split
   ·rename_i n q t bts hb hT
    rintro ⟨rfl,rfl⟩;have hv:a.eval x=.slice none 0 0:=by simpa using (show [a.eval x]=[Value.slice none 0 0] from C3 h hx)
    refine y7.value (val:=.slice none 0 0) ?_ h rfl;rw [he,hv];have:=Ky (w:=w) (A:=none) (len:=0) (cap:=0) (r7 hE hT) h1 (Z6 h hb) (aEb _) (aEb _) (aEb _) (aAj _);simp only [aCr,Sem.run_bind,this,Result.andThen_ok,Sem.run_pure];simp
   ·trivial
  ·rename_i i p hx
   obtain ⟨e,u,y0,cs,k1,k2,k3,k4,k5⟩:=C3 h hx;have k5:a.eval x=l5 u cs:=by simpa using k5
   split
   ·rename_i t y cQ
    have hg:=I3 k1 cQ;rw [k3] at hg; cases hg;obtain ⟨O2,m1,m2,m3⟩:=H5 h.hs k1 k2 k3 k4;have ni:∃ A cap,cs=[.slice A (List.length y) cap]/\List.length y<=cap:=by
     rcases m3 with ⟨_,⟨A,c,rfl,_⟩,rfl⟩|⟨b1,o1,cap,O',rfl,c2,_⟩
     ·exact ⟨A,c,rfl,by simp⟩
     ·exact ⟨_,cap,rfl,c2⟩
    obtain ⟨A,cap,rfl,hc⟩:=ni;have k5:a.eval x=.slice A (List.length y) cap:=k5
    split
    ·rename_i n hb
     split
     ·rename_i bH
      rintro ⟨g1,g2,g3⟩;refine y7.value (val:=.slice (if cap=m.toNat then A else A.map (·.add (m.toNat*t.size))) (n.toNat - m.toNat) (cap - m.toNat)) ?_ h ⟨e,_,k1,k2,rfl,g1,g2,.inl ⟨t,y,A,cap,k3,g3,k4,_,_,by rw [show (n - m).toNat=n.toNat - m.toNat from by omega],λ bt=>by rw [if_neg (by omega)],by omega,by omega⟩⟩;rw [he,k5];simp only [aCr,Sem.run_bind,Ky (D6 hE bH) h1 (Z6 h hb) g1 g2 g3 hc,Result.andThen_ok,Sem.run_pure]
     ·trivial
    ·rename_i z hb
     split
     ·rename_i c bH dD
      simp only [aAa] at bH
      split
      ·intro hp
       exact nil3 bH.1 bH.2 ⟨_,rfl⟩ dD hb k5 hp
      ·rename_i pN
       rintro ⟨g1,g2,g3,g4⟩;exact any3 bH.1 bH.2 pN ⟨_,rfl⟩ dD hb k5 hc ⟨g1,g2,g3,g4⟩
     ·trivial
    ·trivial
   ·trivial
  ·rename_i i p a0 b0 hx
   obtain ⟨e,v,k1,k2,k3,k4,k5,k6⟩:=C3 h hx;have k3:a.eval x=v:=by simpa using k3
   have core:∀ {t:Ty} {n:Int} {A0:Option Addr} {cap:Nat},I6 E T (.d0 true t)=true->bnd s (b0 - a0) hi=some n->mx=none->0<=m->m<=n->a0+n<=(cap:Int)->AY t.size A0 cap a0 b0 v->∃ val,(execOp a.eval o).run E.P w=.ok (.value val) w/\AY t.size A0 cap (a0+m) (a0+n) val:=by
    rintro t n A0 cap bH hb rfl g1 g2 g3 ⟨c,A,e1,e2,e3,e4⟩;refine ⟨.slice (if c=m.toNat then A else A.map (·.add (m.toNat*t.size))) (n.toNat - m.toNat) (c - m.toNat),?_,_,_,by rw [show (a0+n - (a0+m)).toNat=n.toNat - m.toNat from by omega],?_,by omega,by omega⟩
    ·rw [he,k3,e1]
     have cS:bnd s (((b0 - a0).toNat:Nat):Int) hi=some n:=by rw [aEa (by omega)]; exact hb
     simp only [aCr,Sem.run_bind,KS (A:=A) (cap:=c) (D6 hE bH) h1 (Z6 h cS) g1 g2 (show n<=(c:Int) by omega),Result.andThen_ok,Sem.run_pure]
    ·intro bt
     rw [if_neg (by omega),e2 (by omega),aDx,show (a0+m).toNat=a0.toNat+m.toNat from by omega];congr 1
     funext ad
     have lz:∀ x y:Nat,(ad.add x).add y=ad.add (x+y):=by
      intro x y;unfold Addr.add;by_cases hx:x=0<;>by_cases hy:y=0<;>simp [hx,hy,aBk]
     simp only [Function.comp,aBl,lz]
   split
   ·rename_i t y dX
    split
    ·rename_i n hb
     split
     ·rename_i bH
      rintro ⟨g1,g2,g3⟩;have hg:=I3 k1 dX;rcases k6 with ⟨t',l,A,cap,q1,q2,q3,q4⟩|⟨n',t',l,b2,off2,q1,q2,q3,q4⟩
      ·rw [q1] at hg; cases hg
       obtain ⟨O2,m1,m2,m3⟩:=H5 h.hs k1 k2 q1 q3;have hc:List.length y<=cap:=by
        rcases m3 with ⟨_,⟨A,c,_,_⟩,rfl⟩|⟨b1,o1,gL,O',c1,c2,_⟩
        ·simp
        ·cases c1; exact c2
       obtain ⟨val,r1,r2⟩:=core bH hb rfl g1 g2 (by omega) q4;exact y7.value r1 h ⟨e,val,k1,k2,rfl,by omega,by omega,.inl ⟨_,_,A,cap,q1,by omega,q3,r2⟩⟩
      ·rw [q1] at hg; cases hg
     ·trivial
    ·trivial
   ·rename_i n0 t y dX
    split
    ·rename_i n hb
     split
     ·rename_i bH
      rintro ⟨g1,g2,g3⟩;have hg:=I3 k1 dX;rcases k6 with ⟨t',l,A,cap,q1,q2,q3,q4⟩|⟨n',t',l,b2,off2,q1,q2,q3,q4⟩
      ·rw [q1] at hg; cases hg
      ·rw [q1] at hg; cases hg
       obtain ⟨val,r1,r2⟩:=core bH hb rfl g1 g2 (by omega) q4;exact y7.value r1 h ⟨e,val,k1,k2,rfl,by omega,by omega,.inr ⟨_,_,_,b2,off2,q1,⟨by omega,q2.2⟩,q3,r2⟩⟩
     ·trivial
    ·trivial
   ·trivial
  ·rename_i i p hx
   obtain ⟨e,b,off,k1,k2,k3,k4⟩:=C3 h hx;have k4:a.eval x=.pointer (some ⟨b,off,none⟩):=by simpa using k4
   split
   ·rename_i N t y cQ
    have hg:=I3 k1 cQ
    split
    ·rename_i n hb
     split
     ·rename_i bH
      simp only [aAa,aFs] at bH;rintro ⟨g1,g2,g3⟩;have fx:=KR (P:=E.P) (w:=w) (isS:=false) h1 (Z6 h hb) g1 g2 g3;refine y7.value (val:=.slice (some (if N=m.toNat then ⟨b,off,none⟩ else (⟨b,off,none⟩:Addr).add (m.toNat*t.size))) (n.toNat - m.toNat) (N - m.toNat)) ?_ h ⟨e,_,k1,k2,rfl,g1,g2,.inr ⟨N,t,y,b,off,hg,⟨g3,by have:=bH.2; unfold maxLen; omega⟩,k3,_,_,by rw [show (n - m).toNat=n.toNat - m.toNat from by omega],λ bt=>by rw [if_neg (by omega)]; rfl,by omega,by omega⟩⟩;rw [he,k4];have hc:=bH.1;unfold yA.Ml at hc;split at hc
      ·rename_i A hT
       obtain ⟨et,k',f1,f2,f3⟩:=Y0 (D6 hE hc);simp only [aCr,Instr.sliceAt,Instr.slice,Sem.run_bind,p9 hT,p9 f1,asAddr,fx,Result.andThen_ok,Sem.run_pure,run_sizeOf f3]
      ·obtain ⟨et,k',f1,f2,f3⟩:=Y0 (D6 hE hc)
       simp only [aCr,Instr.sliceAt,Sem.run_bind,p9 f1,Instr.sureAddr,fx,Result.andThen_ok,Sem.run_pure,run_sizeOf f3]
      ·cases hc
     ·trivial
    ·trivial
   ·trivial
  ·trivial
end
end Go.Ex
namespace Go.Ex
section
variable {E:Env} {B:E6} {S S':Nat->Prop} {ι:Ix} {s:St} {a:Act} {w:World} {hp:List (Nat×i6)} {H H':Array Go.Obj}
theorem j5.two {α:Type} {R:List Nat->List Value->α->Prop} {sz:Nat} (hR:∀ O cs x,R O cs x->cs.length=sz) (h0:∀ O cs x,R O cs x->O=[]) {l m:List α} {O:List Nat} {cs:List Value} (h:j5 R sz O cs (l++m)):j5 R sz [] (cs.take (l.length*sz)) l/\j5 R sz [] (cs.drop (l.length*sz)) m:=by
 induction l generalizing O cs with
 | nil =>
  have:=j5.O7 h0 h;subst this;exact ⟨⟨rfl,by simp⟩,by simpa using h⟩
 | cons x l ih =>
  obtain ⟨O1,O2,e,h1,h2⟩:=h;obtain ⟨k1,k2⟩:=ih h2;have e1:=h0 _ _ _ h1;subst e1;refine ⟨⟨[],[],rfl,?_,?_⟩,?_⟩
  ·rw [aCn,aAh,aBf,aCc (by omega)]; exact h1
  ·rw [aAh,aBf,aDk,show l.length*sz+sz - sz=l.length*sz by omega]; exact k1
  ·rw [aAh,aBf,aFq,<- aBj]; exact k2
theorem b9b (hE:D3 E B) (h:RS B S ι s a w) {o:Oper} {c:Call} (ho:o.op=.call c) (hc:c.callee=.builtin .append) {x y:Operand} {T U:TypeId} (ha:c.args.toList=[x,y]) (fb:c.argTypes.toList=[T,U])
  (hk:∃ e',E.P.underlying U=some (.slice e')):F1 E.P B o a w (Dx E T (s.ev x) (s.ev y) o.dst s):=trivial
theorem c2D (hE:D3 E B) (h:RS B S ι s a w) {o:Oper} {c:Call} (ho:o.op=.call c) (hc:c.callee=.builtin .append) {x y:Operand} {T U:TypeId} (ha:c.args.toList=[x,y]) (fb:c.argTypes.toList=[T,U])
  (hk:∃ e',E.P.underlying U=some (.slice e')):F1 E.P B o a w (xH E T (s.ev x) (s.ev y) o.dst s):=by
 unfold xH
 split
 ·exact b9b hE h ho hc ha fb hk
 ·exact Uf hE h ho hc ha fb (.inl hk)
end
end Go.Ex
namespace Go.Ex
section
variable {E:Env} {B:E6} {S S':Nat->Prop} {ι:Ix} {s:St} {a:Act} {w:World} {hp:List (Nat×i6)} {H H':Array Go.Obj}
theorem Ou {q:Bool} {u:Ty} {O:List Nat} {cs:List Value} {z:List u.den} (hR:g9 H S (.d0 q u) O cs z):z.length<=maxLen:=by
 rcases hR with ⟨_,_,h2⟩|⟨b,off,cap,O',c1,c2,c3,_⟩
 ·rw [h2]; exact aAz _
 ·have:=c3.1
  have c2:z.length<=cap:=c2;omega
theorem Jd (h:HS B S ι s.hp w) {v:AV} {val:Value} (hv:VX w.heap S ι s.hp v [val]) {t:Ty} {l:List t.den} (hw:v.els s=some ⟨t,l⟩):l.length<=maxLen:=by
 unfold AV.els at hw;split at hw
 ·cases hw
  obtain ⟨cs,_,hR⟩:=hv;exact Ou hR
 ·rename_i i p
  split at hw
  ·rename_i q t' l' hp
   cases hw;obtain ⟨e,u,y,cs,h1,h2,h3,h4,h5⟩:=hv;have hg:=I3 h1 hp;rw [h3] at hg; cases hg;obtain ⟨O2,m1,m2,m3⟩:=H5 h h1 h2 h3 h4;exact Ou m3
  ·cases hw
 ·obtain ⟨A,c,_,k⟩:=Ov h hv hw
  rcases k with rfl|⟨b,off,O,_,_,_,_,_,k1,k2⟩
  ·exact aAz _
  ·omega
 ·cases hw
theorem XM (c:UInt8):r9 .u8 (c.toNat:Int):=by
 simp only [r9,IntKind.min,IntKind.max,IntKind.signed,IntKind.bits]; have:=c.toNat_lt; simp; omega
theorem c4F (y:yY):j5 (g9 H S (.int .u8)) 1 [] (byteCells ⟨y.toArray⟩) (List.map (λ b:UInt8=>(b.toNat:Int)) y:List Int):=by
 simp only [byteCells]
 induction y with
 | nil=>exact ⟨rfl,rfl⟩
 | cons c y ih=>exact ⟨[],[],rfl,⟨rfl,rfl,XM c⟩,by simpa [Ty.size] using ih⟩
theorem AK {k:IntKind}:∀ {l:List Int} {O:List Nat} {cs:List Value},j5 (g9 H S (.int k)) 1 O cs l->cs=l.map (Value.int k)
 | [],_,_,⟨_,h⟩=>h
 | n::l,O,cs,⟨O1,O2,_,h1,h2⟩=>by
  have e1:cs.take 1=[.int k n]:=h1.2.1;have e2:=AK h2;rw [<- aBv 1 cs,e1,e2]; rfl
theorem QS:∀ (l:List Int) (r:ByteArray),l.foldl (λ r n=>r.push (UInt8.ofNat n.toNat)) r=⟨r.data++(l.map λ n=>UInt8.ofNat n.toNat).toArray⟩
 | [],r=>by simp
 | n::l,r=>by
  rw [aGp,QS l];simp [ByteArray.push]
theorem b49 (hE:D3 E B) (h:RS B S ι s a w) {o:Oper} {T T':TypeId} {x:Operand} (ho:o.op=.convert T' T x):F1 E.P B o a w (m0 E o s):=by
 have he:execOp a.eval o=(do pure (.value (<- convert T' T (a.eval x)))):=by simp [execOp,ho]
 unfold m0;rw [ho];simp only
 split
 ·rename_i k n k0 by0 k' by_ hx lB hT
  obtain ⟨hv,_⟩:=VX.I4 (C3 h hx);have hu:=xw (r7 hE hT);have oP:=xw (r7 hE lB);refine I9 he h (val:=.int k' (k'.wrap n)) ?_ (VX.int (U7 _ _));rw [hv];simp [convert,p9 hu,p9 oP,Conv.intToInt]
 ·rename_i y b0 b1 hx lB hT
  split
  ·rename_i d hd
   refine F1.lay (λ v s' hl=>?_);obtain ⟨hv,hlen⟩:=VX.zq (C3 h hx);have oP:=U9 (r7 hE lB);obtain ⟨et,k',f1,f2,f3⟩:=G5 (r7 hE hT);have f4:=xw f3;have aP:=run_bytes_of_string (P:=E.P) w T' T et ⟨y.toArray⟩ oP f1 f4;have aW:(⟨y.toArray⟩:ByteArray).size=List.length y:=rfl;rw [aW] at aP;have kk:=grownCap_ge w (List.length y) 0 et;have fT:=grownCap_le_maxLen w (List.length y) 0 et hlen;generalize grownCap w (List.length y) 0 et=gc at aP kk fT;have cC:(bytesRow ⟨y.toArray⟩ gc)=(byteCells ⟨y.toArray⟩++List.replicate (gc - List.length y) (Value.int .u8 0)).toArray:=by
    apply aGw;simp [bytesRow,byteCells,aW]
   rw [cC] at aP;have bO:(byteCells ⟨y.toArray⟩).length=List.length y:=by rw [byteCells_length]; rfl
   have ic:(List.map (λ b:UInt8=>(b.toNat:Int)) y).length=List.length y:=aAn ..;have hp:D0 [] w (w.drew.alloc (.cells (byteCells ⟨y.toArray⟩++List.replicate (gc - List.length y) (Value.int .u8 0)).toArray et ((byteCells ⟨y.toArray⟩++List.replicate (gc - List.length y) (Value.int .u8 0)).toArray.size,(byteCells ⟨y.toArray⟩++List.replicate (gc - List.length y) (Value.int .u8 0)).toArray.size+1))) :=
    D0.trans D0.drew (D0.push _) (by simp)
   obtain ⟨O2,k1,k2,k3⟩:=EE (w:=w) (S:=S) (t:=.int .u8) (l:=(List.map (λ b:UInt8=>(b.toNat:Int)) y:List Int)) (cap:=gc) h.hs.slt (O:=[]) (cells:=byteCells ⟨y.toArray⟩++List.replicate (gc - List.length y) (Value.int .u8 0)) (by
    show j5 _ 1 [] (List.take ((List.map (λ b:UInt8=>(b.toNat:Int)) y).length*1) _) _;rw [ic,aHt,aDd bO];exact c4F y) (by show (List.map (λ b:UInt8=>(b.toNat:Int)) y).length<=gc; rw [ic]; exact kk) fT (by simp only [aAe,aCg,bO,Ty.size]; omega) et (by simp)
    (w':=w.drew.alloc (.cells (byteCells ⟨y.toArray⟩++List.replicate (gc - List.length y) (Value.int .u8 0)).toArray et ((byteCells ⟨y.toArray⟩++List.replicate (gc - List.length y) (Value.int .u8 0)).toArray.size,(byteCells ⟨y.toArray⟩++List.replicate (gc - List.length y) (Value.int .u8 0)).toArray.size+1))) rfl (.inr ⟨rfl,by simp⟩)
   have dP:=h.w9 (g:=[]) rfl;refine y7.lay hl (val:=.slice (some ⟨w.heap.size,0,none⟩) (List.length y) gc) (by rw [he,hv]; simp only [Sem.run_bind,aP,Result.andThen_ok,Sem.run_pure]) (by rw [<- ic]; rfl) k1 (dP.vn F2.nil hp) (F2.new dP F2.nil hp (by show w.heap.size<(w.heap.push _).size; simp) k2 (k3 aAw))
  ·trivial
 ·rename_i b0 b1 _ lB hT
  obtain ⟨et,k',f1,f2,f3⟩:=G5 (r7 hE lB);have f4:=xw f3;have f5:=U9 (r7 hE hT)
  split
  ·rename_i l fq
   obtain ⟨A,c,e,k⟩:=Ek h.hs (h.ev x) fq;have hlen:=Jd h.hs (h.ev x) fq;refine I9 he h (val:=.string ⟨(List.map (λ n:Int=>UInt8.ofNat n.toNat) l).toArray⟩) ?_ (VX.str (by rw [aAn]; exact hlen));rw [e];simp only [convert,Sem.run_bind,p9 f1,p9 f5,Result.andThen_ok,p9 f4];have cm:∀ a0:Addr,(loadCells a0 l.length).run E.P w=.ok (l.map (Value.int .u8)).toArray w->(Conv.bytesToString (.slice (some a0) l.length c)).run E.P w=.ok (.string ⟨(List.map (λ n:Int=>UInt8.ofNat n.toNat) l).toArray⟩) w:=by
    intro a0 hl;rw [run_bytesToString w a0 l.length c l hl,QS];simp
   rcases k with rfl|⟨b,off,O',rfl,k1,k2,k3,k4⟩
   ·cases A with
    | none=>simp [Conv.bytesToString,Sem.run_pure]; rfl
    | some A=>exact cm A (run_firstCells_some w 1 0 A 0 c [] (by simp) (by simp))
   ·refine cm _ ?_
    have hc:=AK k3;have:=run_firstCells_some (P:=E.P) w 1 l.length ⟨b,off,none⟩ l.length c (l.map (Value.int .u8)) (by simp) (λ j u hu=>by
     rw [Addr.I1]; rw [<- hc] at hu; exact N3 hu)
    simpa [Builtin.firstCells] using this
  ·split
   ·rename_i hx
    have eg:[a.eval x]=[Value.slice none 0 0]:=C3 h hx;have eg:a.eval x=Value.slice none 0 0:=by simpa using eg
    refine I9 he h (val:=.string ⟨([]:yY).toArray⟩) ?_ (VX.str (by simp));rw [eg];simp [convert,Sem.run_bind,p9 f1,p9 f5,Result.andThen_ok,p9 f4,Conv.bytesToString,Sem.run_pure];rfl
   ·trivial
 ·trivial
end
end Go.Ex
