import Derived.Test.YtijlnmgondibnaaGreatDoorExK3
import Derived.Laws.AppendOwn
import Derived.Laws.BytesString
import Derived.Laws.IdiomStrings
import Derived.Deep.AppendSrc
set_option linter.unusedVariables false
set_option linter.unusedSimpArgs false
set_option linter.unusedSectionVars false
namespace Go.Ex
section
variable {E:Env} {B:F5} {S S':Nat->Prop} {ι:Ix} {s:St} {a:Act} {w:World} {hp:List (Nat×g9)} {H H':Array Go.Obj}
def bxV (g:Option Nat) (i:Nat):AV:=match g with|none=>.ptr i []|some f=>.D9 f (.cons (.ptr i []) .nil)
theorem Ky (t:Ty) (x:t.den) (i:Nat):wu t x i=(.own t x,.at_ i [])\/∃ g u y,(⟨t,x⟩:Sigma Ty.den)=⟨.box true g u,some y⟩/\wu t x i=(.var u y,bxV g i):=by
 unfold wu
 split
 ·exact .inr ⟨none,_,_,rfl,rfl⟩
 ·exact .inr ⟨some _,_,_,rfl,rfl⟩
 ·exact .inl rfl
theorem c4m {t:Ty} {x:t.den} {i k:Nat} (h:k≠i):(wu t x i).2.i8 k=false:=by
 rcases Ky t x i with e|⟨g,u,y,_,e⟩
 ·rw [e]; exact yZ h
 ·rw [e]
  cases g with
  | none=>exact yZ h
  | some f=>show (AV.i8 k (.ptr i []) || false)=false; rw [aDj]; exact yZ h
theorem c1y {t:Ty} {x:t.den} {i:Nat} {O:List Nat} {cs:List Value} (hR:i6 H S t O cs x) (aK:O.Nodup):∃ ι1,(∀ j,j≠i->G1 ι ι1 j)/\OB H S ι1 i (wu t x i).1/\(∀ b∈l8 ι1 i (wu t x i).1,b∈O) /\
  VX H S ι1 (Ex.put i (wu t x i).1 hp) (wu t x i).2 [s5 t cs]:=by
 rcases Ky t x i with e|⟨g,u,y,e0,e⟩
 ·rw [e]
  exact ⟨ι.W6 i cs O,λ j hj=>Gv hj _ _,⟨⟨O,by simp [Ix.W6],by simpa [Ix.W6] using hR⟩,by simpa [Ix.W6] using aK⟩,by intro b hb; simpa [l8,Ix.W6] using hb,AH hR.length⟩
 ·cases e0
  rw [e];rcases hR with ⟨h0,_⟩|⟨z,b,off,O',h0,rfl,h2,h3,rfl,h5⟩
  ·cases h0
  cases h0;have bf:b<H.size:=by obtain ⟨_,_,⟨_,e,_⟩,_⟩:=h5; exact (aAp.1 e).1
  refine ⟨ι.V8 i (b,off) O',λ j hj=>My hj _ _,⟨⟨O',by simp [Ix.V8],by simpa [Ix.V8] using h3⟩,by simpa [Ix.V8] using h5,by simpa [Ix.V8] using aK⟩,by intro c hc; simpa [l8,Ix.V8] using hc,?_⟩;have hp:VX H S (ι.V8 i (b,off) O') (Ex.put i (.var u y) hp) (.ptr i []) [.pointer (some ⟨b,off,none⟩)]:=by
   refine ⟨.var u y,b,off,by simp [p9],Q7,?_,rfl⟩;simp only [Loc,Place,VR,VH,C8,Ix.V8,if_true,bf]
  cases g with
  | none=>exact hp
  | some f=>exact ⟨[.pointer (some ⟨b,off,none⟩)],rfl,_,_,rfl,hp,rfl⟩
theorem MO:∀ {ts:List Ty} {x:DL ts} {d j:Nat} {ι:Ix} {hp:List (Nat×g9)} {l:AV} {cI:List (Nat×g9)} {O:List Nat} {us:List Value},Z4 ts x d j hp=some (l,cI)->HS B S ι hp w->N2 w.heap S ts O us x ->
  H2 B S ι hp w O->∃ ι',HS B S ι' cI w/\VX w.heap S ι' cI l us/\(∀ v vs,(∀ k,j<=k->k<j+ts.length->v.i8 (R4 d k)=false)->VX w.heap S ι hp v vs->VX w.heap S ι' cI v vs)
 | [],x,d,j,ι,hp,l,cI,O,us,hl,h,hR,_=>by
  simp only [Z4,aAc,aBb] at hl;obtain ⟨rfl,rfl⟩:=hl;exact ⟨ι,h,hR.2,λ v vs _ hv=>hv⟩
 | t::ts,x,d,j,ι,hp,l,cI,O,us,hl,h,⟨v1,us1,O1,O2,cs,e1,e2,e3,h1,h2⟩,hF=>by
  subst e2;have eC:=aAg.1 hF.1;simp only [Z4] at hl;split at hl
  ·rename_i hs
   split at hl
   ·rename_i l' fo eE
    cases hl;have cp:=h1.Q8 hs;subst cp;obtain ⟨ι',k1,k2,k3⟩:=MO eE h h2 (hF.sub eC.2.1 (λ b hb=>by simp [hb]));refine ⟨ι',k1,⟨v1,us1,e1,⟨cs,by rw [e3],h1⟩,k2⟩,λ v vs hm hv=>k3 v vs (λ k jT fp=>hm k (by omega) (by simp; omega)) hv⟩
   ·cases hl
  ·split at hl
   ·cases hl
   ·rename_i dn
    split at hl
    ·rename_i l' fo eE
     cases hl;have hd:look (R4 d j) hp=none:=dn;obtain ⟨ι1,hs,pK,dK,iv⟩:=c1y (hp:=hp) (ι:=ι) (i:=R4 d j) h1 eC.1;have hH:HS B S ι1 (Ex.put (R4 d j) (wu t x.1 (R4 d j)).1 hp) w:=h.add hd hs pK (O:=O1) dK (hF.sub eC.1 (λ b hb=>by simp [hb]));have oi:H2 B S ι1 (Ex.put (R4 d j) (wu t x.1 (R4 d j)).1 hp) w O2:=by
      refine ⟨eC.2.1,λ b hb=>?_⟩;obtain ⟨q1,q2,q3,q4⟩:=hF.2 b (by simp [hb]);refine ⟨q1,q2,q3,λ i e hi=>?_⟩;rw [p9] at hi;by_cases ei:i=R4 d j
      ·subst ei; rw [if_pos rfl] at hi; cases hi
       exact λ eB=>eC.2.2 b (dK b eB) b hb rfl
      ·rw [if_neg ei] at hi
       rw [(hs i ei).l8];exact q4 i e hi
     obtain ⟨ι',k1,k2,k3⟩:=MO eE hH h2 oi;rw [<- e3] at iv;refine ⟨ι',k1,⟨v1,us1,e1,k3 _ _ (λ k jT fp=>?_) iv,k2⟩,λ v vs hm hv=>?_⟩
     ·exact c4m (by simp only [R4]; omega)
     ·exact k3 v vs (λ k jT fp=>hm k (by omega) (by simp; omega)) (VX.add hs (hm j (aAk _) (by simp)) hv)
    ·cases hl
theorem Gj {d:Nat}:∀ {n:Nat} {fr:List (Nat×AV)},yq d n fr=true->∀ k,k<n->wP (R4 d k) fr=true
 | 0,_,_,k,hk=>by omega
 | n+1,fr,h,k,hk=>by
  simp only [yq,aAa] at h;by_cases e:k=n
  ·subst e; exact h.1
  ·exact Gj h.2 k (by omega)
theorem Me:∀ {ts:List Ty} {x:DL ts} {d j:Nat} {hp:List (Nat×g9)} {l:AV} {cI:List (Nat×g9)},Z4 ts x d j hp=some (l,cI)->l.lst=true
 | [],x,d,j,hp,l,cI,h=>by
  simp only [Z4,aAc,aBb] at h;rw [<- h.1]; rfl
 | t::ts,x,d,j,hp,l,cI,h=>by
  simp only [Z4] at h;split at h
  ·split at h
   ·rename_i l' fo eE
    cases h;show l'.lst=true;exact Me eE
   ·cases h
  ·split at h
   ·cases h
   ·split at h
    ·rename_i l' fo eE
     cases h;show l'.lst=true;exact Me eE
    ·cases h
theorem YX {l:AV} {us:List Value} (hl:l.lst=true) (h:VX H S ι hp l us):VX H S ι hp l.one [xl us]:=by
 cases l<;>simp only [AV.lst] at hl<;>first|cases hl|skip
 ·have:us=[]:=h
  subst this;exact ⟨[],rfl,rfl⟩
 ·rename_i a b
  obtain ⟨v,us',rfl,ha,hb⟩:=h;cases b<;>simp only [AV.lst] at hl<;>first|cases hl|skip
  ·have:us'=[]:=hb
   subst this; exact ha
  ·obtain ⟨v2,us2,rfl,dK,fI⟩:=hb
   exact ⟨v::v2::us2,rfl,v,_,rfl,ha,v2,us2,rfl,dK,fI⟩
theorem VX.app {l m:AV}:∀ {us vs:List Value},l.lst=true->VX H S ι hp l us->VX H S ι hp m vs->VX H S ι hp (l.app m) (us++vs):=by
 induction l<;>intro us vs hl h hm<;>simp only [AV.lst] at hl<;>first|cases hl|skip
 ·have:us=[]:=h
  subst this; exact hm
 ·rename_i a b _ ihb
  obtain ⟨v,us',rfl,ha,hb⟩:=h;exact ⟨v,us'++vs,rfl,ha,ihb hl hb hm⟩
theorem OO (s:St):∀ l:List Operand,(s.M2 l).lst=true
 | []=>rfl
 | _::l=>OO s l
theorem Z3:∀ {ks:List PK} {vs:List Value} {y:DL (F9 ks)} {L:List Nat},F9 ks=[]->I1 H S ks vs y L->L=[]
 | [],_,_,_,_,h=>h.2
 | .rw t::ks,_,_,_,e,_=>by cases e
 | .mu t::ks,_,_,_,e,_=>by cases e
 | .v _::ks,_,_,_,e,⟨_,us,_,h⟩=>Z3 (ks:=ks) e h
 | .rd _::ks,_,_,_,e,⟨_,us,_,h⟩=>Z3 (ks:=ks) e h
 | .D9 _ _::ks,_,_,_,e,⟨_,us,_,h⟩=>Z3 (ks:=ks) e h
 | .X4::ks,_,_,_,e,⟨_,us,_,h⟩=>Z3 (ks:=ks) e h
 | .rcs _ _::ks,_,_,_,e,⟨_,us,_,h⟩=>Z3 (ks:=ks) e h
 | .el _::ks,_,_,_,e,⟨_,us,_,h⟩=>Z3 (ks:=ks) e h
 | .own _::ks,_,_,_,e,⟨_,us,_,h⟩=>Z3 (ks:=ks) e h
theorem BD {k:PK} {v:AV} {x:k.den} {g m:List Nat} (h:v.T3 s k=some (x,g,m)) (hk:(match k with|.rw _|.mu _=>false|_=>true)=true):m=[]:=by
 cases k with
 | v t=>simp only [AV.T3] at h; split at h<;>cases h; rfl
 | rd t=>simp only [AV.T3] at h; split at h<;>cases h; rfl
 | D9 f ts =>
  cases v<;>simp only [AV.T3] at h<;>first|cases h|skip
  split at h
  ·split at h<;>cases h; rfl
  ·cases h
 | X4=>simp only [AV.T3] at h; split at h<;>cases h; rfl
 | rcs f n=>simp only [AV.T3] at h; cases h
 | el q=>simp only [AV.T3] at h; cases h
 | own t =>
  simp only [AV.T3] at h;split at h
  ·split at h<;>cases h; rfl
  ·split at h
   ·split at h<;>cases h; rfl
   ·cases h
 | rw t=>cases hk
 | mu t=>cases hk
def VL (H':Array Go.Obj) (S':Nat->Prop) (ι:Ix) (i:Nat) (e':g9) (L:List Nat):Prop :=
 ∃ O',OB H' S' (ι.E1 i O') i e'/\L=l8 (ι.E1 i O') i e'
theorem AQ (h:HS B S ι s.hp w):∀ {ks:List PK} {v:AV} {x:DK ks} {vs:List Value} {g m:List Nat} {y:DL (F9 ks)} {s1 s2:St} {L:List Nat},AV.vH s ks v=some (x,g,m)->VX w.heap S ι s.hp v vs->wr ks y m s1=some s2->I1 H' S' ks vs y L->L.Nodup ->
  (m=[]/\s2=s1/\L=[])\/(∃ i e e',m=[i]/\look i s.hp=some e/\BX e e'/\s2=(s1.vR i e.vQ).y9 i e'/\VL H' S' ι i e' L)
 | [],v,x,vs,g,m,y,s1,s2,L,hx,hv,hw,ho,aK=>by
  cases v<;>simp only [AV.vH] at hx<;>first|cases hx|skip
  simp only [wr,aAc] at hw;exact .inl ⟨rfl,hw.symm,ho.2⟩
 | k::ks,v,x,vs,g,m,y,s1,s2,L,hx,hv,hw,ho,aK=>by
  cases v<;>simp only [AV.vH] at hx<;>first|cases hx|skip
  rename_i a b;split at hx
  ·rename_i x1 g1 m1 x2 g2 m2 h1 h2
   cases hx;obtain ⟨v,us,rfl,ha,hb⟩:=hv;cases k with
   | v t =>
    have:=BD h1 rfl; subst this;obtain ⟨v',us',e,fb⟩:=ho;cases e;exact AQ h h2 hb hw fb aK
   | rd t =>
    have:=BD h1 rfl; subst this;obtain ⟨v',us',e,fb⟩:=ho;cases e;exact AQ h h2 hb hw fb aK
   | D9 f ts =>
    have:=BD h1 rfl; subst this;obtain ⟨v',us',e,fb⟩:=ho;cases e;exact AQ h h2 hb hw fb aK
   | X4 =>
    have:=BD h1 rfl; subst this;obtain ⟨v',us',e,fb⟩:=ho;cases e;exact AQ h h2 hb hw fb aK
   | own t =>
    have:=BD h1 rfl; subst this;obtain ⟨v',us',e,fb⟩:=ho;cases e;exact AQ h h2 hb hw fb aK
   | rcs f n=>simp only [AV.T3] at h1; cases h1
   | el q=>simp only [AV.T3] at h1; cases h1
   | rw t =>
    simp only [AV.T3] at h1;split at h1
    ·rename_i i
     split at h1
     ·rename_i u z aT
      split at h1
      ·rename_i hu; subst hu; cases h1
       obtain ⟨e,b0,off,q1,q2,q3,q4⟩:=ha;obtain rfl:=xy q1 aT;have hl:(ι.root i).1=b0/\(ι.root i).2=off:=by
        have:=(E0 q3).1;simp only [Place,C8,VR,aAc,aBb] at this;exact this
       obtain ⟨rfl,rfl⟩:=hl;obtain ⟨b1,off1,O,us',L',r1,r2,r3,r4,r5⟩:=ho;have q4:v=.pointer (some ⟨(ι.root i).1,(ι.root i).2,none⟩):=by simpa using q4
       rw [q4] at r1;simp only [aBc,Value.pointer.injEq,aAc,Addr.mk.injEq,and_true] at r1;obtain ⟨⟨rfl,rfl⟩,rfl⟩:=r1;cases m2 with
       | cons j m2=>simp [wr] at hw
       | nil =>
        simp only [aAv,wr] at hw;split at hw
        ·rename_i kS
         cases hw;have:=Z3 kS r5;subst this;rw [aAv] at r4;subst r4;exact .inr ⟨i,_,.var u y.1,rfl,q1,.inl ⟨u,z,y.1,rfl,rfl⟩,rfl,O,⟨⟨O,by simp [Ix.E1],r2⟩,r3,by simpa [Ix.E1] using aK⟩,by simp [l8,Ix.E1]⟩
        ·cases hw
      ·cases h1
     ·cases h1
    ·cases h1
   | mu t =>
    simp only [AV.T3] at h1;split at h1
    ·rename_i i
     split at h1
     ·rename_i u z aT
      split at h1
      ·rename_i hu; subst hu; cases h1
       obtain ⟨e,u',y',cs,q1,q2,q3,q4,q5⟩:=ha;obtain rfl:=xy q1 aT;have q3:j9 (.d0 true t) z []=some ⟨u',y'⟩:=q3;rw [D6] at q3; cases q3;obtain ⟨⟨O0,_,eX⟩,_⟩:=h.ob i _ q1;have cG:=X3 q4 eX.length;obtain ⟨cs1,O,us',L',r1,r1',r2,r4,r5⟩:=ho;have q5:v=s5 (.d0 true t) cs:=by simpa using q5
       rw [q5] at r1;have cK:cs.length=1:=by rw [cG]; exact eX.length
       have cX:cs1=cs:=by
        match cs,cs1,cK,r1' with
        | [c],[c'],_,_ =>
         simp only [aBc,s5,Ty.agg] at r1;have:=r1.1;simp at this;rw [this]
       subst cX;cases m2 with
       | cons j m2=>simp [wr] at hw
       | nil =>
        simp only [aAv,wr] at hw;split at hw
        ·rename_i kS
         cases hw;have:=Z3 kS r5;subst this;rw [aAv] at r4;subst r4;exact .inr ⟨i,_,.own (.d0 true t) y.1,rfl,q1,.inr (.inl ⟨t,z,y.1,rfl,rfl⟩),rfl,L,⟨⟨L,by simp [Ix.E1],by rw [show (ι.E1 i L).cells i=cs1 from cG.symm]; exact r2⟩,by simpa [Ix.E1] using aK⟩,by simp [l8,Ix.E1]⟩
        ·cases hw
      ·cases h1
     ·cases h1
    ·cases h1
  ·cases hx
end
end Go.Ex
namespace Go.Ex
section
variable {E:Env} {B:F5} {S S':Nat->Prop} {ι:Ix} {s:St} {a:Act} {w:World} {hp:List (Nat×g9)} {H H':Array Go.Obj}
theorem RS.share (h:RS B S ι s a w) (hS:∀ b,S b->S' b) (jh:∀ b,S' b->S b\/((B.w0.heap.size<=b\/B.M b)/\b<w.heap.size/\∀ i e,look i s.hp=some e->b∉l8 ι i e)):RS B S' ι s a w:=by
 refine ⟨⟨h.hs.os,h.hs.tape,h.hs.out,h.hs.size,h.hs.frame,?_,λ b hb=>hS b (h.hs.s0 b hb),?_,?_,?_,h.hs.dj,h.hs.pin⟩,h.dfr,h.sz,λ t v hv=>?_⟩
 ·intro b hb; rcases jh b hb with h1|h1; exact h.hs.slt b h1; exact h1.2.1
 ·intro b hb; rcases jh b hb with h1|h1; exact h.hs.s1 b h1; exact .inr h1.1
 ·intro i e hi; exact (h.hs.ob i e hi).x7 (λ _ _=>rfl) hS
 ·intro i e hi b hb
  obtain ⟨q1,q2,q3⟩:=h.hs.bl i e hi b hb;exact ⟨λ hs=>by rcases jh b hs with h1|h1; exact q1 h1; exact h1.2.2 i e hi hb,q2,q3⟩
 ·exact VX.grow (λ _ _=>rfl) hS h.hs.slt h.hs.ob (h.fr t v hv)
theorem Mq (hE:E2 E B) (h:RS B S ι s a w) {o:Oper} {c:Call} (ho:o.op=.call c) {f:Operand} (hf:c.callee=.value f) {g:FuncId} {caps:AV} {us:List Value} (he:a.eval f=.func (.func g) #[] us.toArray) (cR:VX w.heap S ι s.hp caps us) :
  G7 E.P B o a w (U7 E g ((s.M2 c.args.toList).app caps) o.dst s):=by
 have aF:=VX.app (OO s _) (h.M2 c.args.toList) cR;generalize rT:(s.M2 c.args.toList).app caps=av at *
 unfold U7
 split
 ·trivial
 ·rename_i ct oI
  have hV:=hE.E3 g ct oI
  split
  ·trivial
  ·rename_i x gs ms hx
   split
   ·trivial
   ·rename_i bB
    split
    ·trivial
    ·rename_i s2 oZ
     split
     ·trivial
     ·rename_i gC
      split
      ·rename_i l cI hl
       intro bc next Q hn
       simp only [aAa,aBr] at bB;obtain ⟨⟨⟨⟨jT,fp⟩,tv⟩,tu⟩,_⟩:=bB;obtain ⟨fn,jW,ga,ij⟩:=hV.ent;have ni:=DA jT
       let S1:Nat->Prop:=λ b=>S b\/P0 ι s.hp (U7.loose ct.ps av) b
       obtain ⟨L,hK,fP,eo,oQ⟩:=Kl (S1:=S1) h.hs (λ b hb=>.inl hb) hx aF ni (λ b hb=>.inr hb);have gF:∀ b,S1 b->b<w.heap.size:=by
        rintro b (hb|⟨i,e,h1,h2,h3⟩)
        ·exact h.hs.slt b hb
        ·exact (h.hs.bl i e h2 b h3).2.2
       have oS:∀ b∈L,¬ S1 b/\b<w.heap.size:=by
        intro b hb;obtain ⟨i,e,h1,h2,h3⟩:=eo b hb;obtain ⟨q1,q2,q3⟩:=h.hs.bl i e h2 b h3;refine ⟨?_,q3⟩;rintro (hs|⟨j,ej,r1,r2,r3⟩)
        ·exact q1 hs
        ·have bS:i≠j:=by rintro rfl; exact Sv fp i h1 r1
         exact h.hs.dj i j e ej h2 r2 bS b h3 r3
       have jf:Calls E.P g (c.args.toList.map a.eval++us).toArray w (λ e w'=>∃ rs O Lo S',e=.returned (xl rs)/\G2 L w w'/\(∀ b,S1 b->S' b)/\(∀ b,S' b->S1 b\/((w.heap.size<=b\/b∈L)/\b<w'.heap.size)) /\
         N2 w'.heap S' ct.rs O rs (ct.fn x)/\I1 w'.heap S' ct.ps (c.args.toList.map a.eval++us) (ct.out x) Lo/\(O++Lo).Nodup/\(∀ b∈O++Lo,¬ S' b/\(w.heap.size<=b\/b∈L)/\b<w'.heap.size) /\
         (ct.new=true->N2 w'.heap (λ b=>S' b/\w.heap.size<=b) ct.rs O rs (ct.fn x))):=by
        cases sW:ct.new with
        | true=>exact (hV.fresh sW w S1 _ x L gF ((hE.gb.at_ h.hs).sub (λ b hb=>.inl hb)) bc hK (Ds (CP hx)) fP oS).mono (λ e w' ⟨rs,O,Lo,S',a1,a2,a3,a4,a5,a6,a7,a8,a9⟩=>⟨rs,O,Lo,S',a1,a2,a3,a4,a5,a6,a7,a8,λ _=>a9⟩)
        | false=>exact (hV.run w S1 _ x L gF ((hE.gb.at_ h.hs).sub (λ b hb=>.inl hb)) bc hK (Ds (CP hx)) fP oS).mono (λ e w' ⟨rs,O,Lo,S',a1,a2,a3,a4,a5,a6,a7,a8⟩=>⟨rs,O,Lo,S',a1,a2,a3,a4,a5,a6,a7,a8,λ h=>by cases h⟩)
       unfold Oper.wp;have aP:(execOp a.eval o).run E.P w=.ok (.enter g (c.args.toList.map a.eval++us).toArray) w:=by
        have cJ:fn.body.isNone=false:=ij;have hq:(fn.name == "runtime.NumGoroutine")=false:=ga
        simp only [execOp,ho,resolve,hf,he,Deferred.ofValue,Sem.run_bind,Sem.run_pure,Result.andThen,invoke,callFunc,program];simp [Sem.run,jW,hq,cJ]
       rw [aP];refine Calls.mono jf ?_;rintro e w' ⟨rs,O,Lo,S',e1,bn,iO,jI,eO,eP,aK,hO,dP⟩;subst e1;have aW:=bn.size;have hd:=h.B9 (g:=gs) (by simpa using tv);have qi:∀ i∈gs,i∉ms:=λ i hi hm=>(aAg.1 ni).2.2 i hi i hm rfl;have main:∀ S2:Nat->Prop,(∀ b,S b->S2 b)->(∀ b,S2 b->S b\/((w.heap.size<=b\/b∈L)/\b<w'.heap.size))->(∀ b∈O++Lo,¬ S2 b)->N2 w'.heap S2 ct.rs O rs (ct.fn x)->I1 w'.heap S2 ct.ps (c.args.toList.map a.eval++us) (ct.out x) Lo->next (a.put o.dst (xl rs)) w':=by
        intro S2 rZ oc oO mM mW;have sj:∀ {L':List Nat},L'.Nodup->(∀ b∈L',b∈L)->(∀ b∈L',∀ i e,i∈ms->look i s.hp=some e->b∉l8 ι i e)->H2 B S ι (St.B9 gs s).hp w L':=by
         intro L' eD bU ll;refine H2.B9 h.hs eD (λ b hb=>?_);obtain ⟨i,e,q1,q2,q3⟩:=eo b (bU b hb);rcases aAi.1 q1 with q1|q1
         ·exact ⟨i,e,q1,q2,q3⟩
         ·exact absurd q3 (ll b hb i e q1 q2)
        have fin:∀ {ι2:Ix},RS B S2 ι2 s2 a w'->H2 B S2 ι2 s2.hp w' O->next (a.put o.dst (xl rs)) w':=by
         intro ι2 fJ oi;obtain ⟨ι',k1,k2,k3⟩:=MO hl fJ.hs mM oi;refine hn S2 ι' w' (xl rs) ⟨k1,fJ.dfr,fJ.sz,λ t v hv=>?_⟩ (YX (Me hl) k2);exact k3 v _ (λ k jT fp=>Dz (Gj gC k (by omega)) hv) (fJ.fr t v hv)
        have og:∀ b∈O,¬ S2 b/\(B.w0.heap.size<=b\/B.M b)/\b<w'.heap.size:=by
         intro b hb;obtain ⟨q1,q2,q3⟩:=hO b (aBf _ hb);refine ⟨oO b (aBf _ hb),?_,q3⟩;rcases q2 with q2|q2
         ·exact .inl (aAx h.hs.size q2)
         ·obtain ⟨i,e,_,r2,r3⟩:=eo b q2
          exact (h.hs.bl i e r2 b r3).2.1
        have se:∀ b∈O,∀ j ej,j∉gs->j∉ms->look j s.hp=some ej->b∉l8 ι j ej:=by
         intro b hb j ej qd jt dp jy;obtain ⟨q1,q2,q3⟩:=hO b (aBf _ hb);rcases q2 with q2|q2
         ·have:=(h.hs.bl j ej dp b jy).2.2; omega
         ·obtain ⟨i,e,r1,r2,r3⟩:=eo b q2
          have bS:i≠j:=by rintro rfl; rcases aAi.1 r1 with r1|r1; exact qd r1; exact jt r1
          exact h.hs.dj i j e ej r2 dp bS b r3 jy
        rcases AQ h.hs hx aF oZ mW (aAg.1 aK).2.1 with ⟨rfl,rfl,rfl⟩|⟨i,e,e',rfl,hi,eV,rfl,O',aT,my⟩
        ·
         have hF:=sj fP (λ b hb=>hb) (by simp);have ke:=hd.vC hF bn;have fJ:RS B S2 ι (St.B9 gs s) a w':=ke.share rZ (λ b hb=>by
          rcases oc b hb with h1|h1
          ·exact .inl h1
          ·rcases h1.1 with h2|h2
           ·refine .inr ⟨.inl (aAx h.hs.size h2),h1.2,λ j ej hj jy=>?_⟩
            have:=(hd.hs.bl j ej hj b jy).2.2; omega
           ·exact .inr ⟨(hF.2 b h2).2.1,h1.2,(hF.2 b h2).2.2.2⟩)
         refine fin fJ ⟨(aAg.1 aK).1,λ b hb=>?_⟩;obtain ⟨q1,q2,q3⟩:=og b hb;refine ⟨q1,q2,q3,λ j ej hj=>?_⟩;rw [K7] at hj;split at hj
         ·cases hj
         ·rename_i gl; exact se b hb j ej gl (by simp) hj
        ·
         have tG:i∉gs:=λ cW=>qi i cW (by simp);have cW:look i (St.B9 gs s).hp=some e:=by rw [K7,if_neg tG]; exact hi
         have hF:=sj (L':=L.filter (λ b=>!(l8 ι i e).contains b)) (fP.filter _) (λ b hb=>(aBw.1 hb).1) (λ b hb j ej hj dp=>by
          simp only [aAq,aEq,or_false] at hj;subst hj;rw [hi] at dp; cases dp;have:=(aBw.1 hb).2;simpa using this)
         have fJ:=hd.renew cW eV hF bn (λ b hb=>by
          by_cases kL:b∈l8 ι i e
          ·exact .inl kL
          ·exact .inr (aBw.2 ⟨hb,by simpa using kL⟩)) rZ oc aT (λ c hc=>by
           rw [<- my] at hc;obtain ⟨q1,q2,q3⟩:=hO c (aBs _ hc);exact ⟨oO c (aBs _ hc),q2,q3⟩)
         refine fin fJ ⟨(aAg.1 aK).1,λ b hb=>?_⟩;obtain ⟨q1,q2,q3⟩:=og b hb;refine ⟨q1,q2,q3,λ j ej hj=>?_⟩;simp only [St.y9,p9] at hj;by_cases dO:j=i
         ·subst dO
          rw [if_pos rfl] at hj; cases hj;rw [<- my];exact λ bQ=>(aAg.1 aK).2.2 b hb b bQ rfl
         ·rw [if_neg dO] at hj
          have hj:look j (St.B9 gs s).hp=some ej:=hj;rw [(Y4 dO O').l8];rw [K7] at hj;split at hj
          ·cases hj
          ·rename_i gl; exact se b hb j ej gl (by simpa using dO) hj
       rcases tu with ⟨ib|ib,nd⟩|hle
       rotate_left
       ·refine main (λ b=>S b\/(S' b/\w.heap.size<=b)) (λ _ h=>.inl h) (λ b hb=>?_) (λ b hb hs=>?_) ?_ (eP.L8 nd)
        ·rcases hb with hb|⟨hb,fI⟩
         ·exact .inl hb
         ·rcases jI b hb with h1|h1
          ·have:=gF b h1; omega
          ·exact .inr ⟨.inl fI,h1.2⟩
        ·rcases hs with hs|hs
         ·exact (hO b hb).1 (iO b (.inl hs))
         ·exact (hO b hb).1 hs.1
        ·exact (dP ib).mono (λ b hb=>.inr hb)
       rotate_left
       ·exact main S (λ _ h=>h) (λ b hb=>.inl hb) (λ b hb hs=>(hO b hb).1 (iO b (.inl hs))) (eO.L8 ib) (eP.L8 nd)
       ·have jr:U7.loose ct.ps av=[]:=by
         revert hle;cases U7.loose ct.ps av with
         | nil=>intro _; rfl
         | cons x y=>intro h; cases h
        refine main S' (λ b hb=>iO b (.inl hb)) (λ b hb=>?_) (λ b hb=>(hO b hb).1) eO eP;rcases jI b hb with (h1|⟨i,e,h1,_⟩)|h1
        ·exact .inl h1
        ·rw [jr] at h1; cases h1
        ·exact .inr h1
      ·trivial
theorem G7.yF {P:Program} {o:Oper} {r:OR} {p:Prop} (h:p->G7 P B o a w r):G7 P B o a w (r.yF p):=by
 cases r with
 | fail y=>trivial
 | ok v s'=>exact λ hp=>h hp.1
 | H3 q v s'=>exact λ hp=>h hp.1 hp.2
theorem IU (h:RS B S ι s a w) {x:Operand} {g:Nat} {b:Bool} (hx:s.ev x=.val (.fn g) b):a.eval x=fnV g b:=by
 obtain ⟨cs,e,_,rfl⟩:=D8 h hx;simpa [s5,Ty.agg] using e
end
end Go.Ex
namespace Go.Ex
section
variable {E:Env} {B:F5} {S S':Nat->Prop} {ι ι':Ix} {s:St} {a:Act} {w w':World} {hp:List (Nat×g9)} {H H':Array Go.Obj}
end
end Go.Ex
namespace Go.Ex
section
variable {E:Env} {B:F5} {S S':Nat->Prop} {ι:Ix} {s:St} {a:Act} {w:World} {hp:List (Nat×g9)} {H H':Array Go.Obj}
theorem b8Y (hE:E2 E B) (h:RS B S ι s a w) {o:Oper} {T:TypeId} {x y:Operand} (ho:o.op=.index T x y):G7 E.P B o a w (n6 E o s):=by
 have he:execOp a.eval o=(do pure (.value (<- Instr.index T (a.eval x) (a.eval y)))):=by simp [execOp,ho]
 unfold n6;rw [ho];simp only
 split
 ·rename_i l k n hx hy
  split
  ·rename_i hc
   intro hn;obtain ⟨gy,_⟩:=VX.zS (D8 h hx);obtain ⟨dN,_⟩:=VX.J6 (D8 h hy);have hu:=Y9 (E5 hE hc);exact J9 he h (val:=.int .u8 ((List.getD l (Int.toNat n) 0).toNat:Int)) (by rw [gy,dN]; exact b5q hu hn) (VX.int (by generalize List.getD l (Int.toNat n) 0=c; have:=c.toNat_lt; unfold w4; simp [IntKind.min,IntKind.max,IntKind.signed,IntKind.bits]; omega))
  ·trivial
 ·rename_i m t z k n hx hy
  split
  ·rename_i hc
   intro hn;obtain ⟨cs,e,hR⟩:=D8 h hx;have e:a.eval x=s5 (.arr m t) cs:=by simpa using e
   obtain ⟨dN,_⟩:=VX.J6 (D8 h hy);obtain ⟨et,k',h1,h2,h3⟩:=yw (E5 hE hc);obtain ⟨b1',b2,b3,b4⟩:=F0 (sz:=t.size) hn;obtain ⟨P1,P2,P3,e1,g1,g2,g3⟩:=j5.split (d:=t.w5) (i:=Int.toNat n) (by rw [hR.1]; exact b1') hR.2;have hP:P2=[]:=(aBi.1 (aBi.1 e1.symm).2).1;rw [hP] at g2;refine J9 he h (val:=s5 t ((cs.drop (Int.toNat n*t.size)).take t.size)) ?_ ⟨_,rfl,g2⟩;have hp:=zj (w:=w) h3 g2;rw [e,dN,s5];have eD:0<=(n:Int)/\(n:Int)<m:=hn;simp [Instr.index,asIntOf,x8 h1,Ty.agg,eD,run_sizeOf h3,hp]
  ·trivial
 ·rename_i i p k n hx hy
  split
  ·rename_i m t z cT
   split
   ·rename_i hc
    obtain ⟨e,u',y',cs,q1,q2,q3,q4,q5⟩:=D8 h hx;have cC:=J5 q1 cT;rw [q3] at cC; cases cC;have q5:a.eval x=s5 (.arr m t) cs:=by simpa using q5
    obtain ⟨dN,_⟩:=VX.J6 (D8 h hy);obtain ⟨O2,m1,m2,hR⟩:=I2 h.hs q1 q2 q3 q4;obtain ⟨et,k',h1,h2,h3⟩:=yw (E5 hE hc);have core:(0<=(n:Int)/\(n:Int)<m)->∃ P2,(∀ c∈P2,c∈O2)/\i6 w.heap S t P2 ((cs.drop (Int.toNat n*t.size)).take t.size) (List.getD z (Int.toNat n) t.w5)/\(Instr.index T (a.eval x) (a.eval y)).run E.P w=.ok (s5 t ((cs.drop (Int.toNat n*t.size)).take t.size)) w:=by
     intro hn;obtain ⟨b1',b2,b3,b4⟩:=F0 (sz:=t.size) hn;obtain ⟨P1,P2,P3,e1,g1,g2,g3⟩:=j5.split (d:=t.w5) (i:=Int.toNat n) (by rw [hR.1]; exact b1') hR.2;refine ⟨P2,λ c hc=>by rw [e1]; simp [hc],g2,?_⟩;have hp:=zj (w:=w) h3 g2;rw [q5,dN,s5];have eD:0<=(n:Int)/\(n:Int)<m:=hn;simp [Instr.index,asIntOf,x8 h1,Ty.agg,eD,run_sizeOf h3,hp]
    split
    ·rename_i hs
     intro hn;obtain ⟨P2,k1,k2,k3⟩:=core hn;have:=k2.Q8 hs;subst this;exact J9 he h k3 ⟨_,rfl,k2⟩
    ·intro hn
     obtain ⟨P2,k1,k2,k3⟩:=core hn;refine J9 he h k3 ⟨e,t,List.getD z (Int.toNat n) t.w5,_,q1,Y5 q3 q2 ⟨hn,Q7⟩,Uo q3 D6,?_,rfl⟩;obtain ⟨b0,off0,g1,rfl⟩:=q4;obtain ⟨b1',b2,b3,b4⟩:=F0 (sz:=t.size) hn;refine ⟨b0,off0+Int.toNat n*t.size,Bm q3 g1 (by simp only [C6,C8]),?_⟩;rw [o8,n9 _ _ _ _ (by simp only [Ty.size]; omega)]
   ·trivial
  ·trivial
 ·trivial
where
 b5q {P:Program} {w:World} {T:TypeId} {l:yY} {k:IntKind} {n:Int} (hu:P.underlying T=some .string) (hn:0<=n/\n<(l.length:Int)) :
   (Instr.index T (.string ⟨l.toArray⟩) (.int k n)).run P w=.ok (.int .u8 ((l.getD n.toNat 0).toNat:Int)) w:=by
  have h1:n.toNat<l.length:=by omega
  have h2:(ByteArray.mk l.toArray)[n.toNat]?=some (l.getD n.toNat 0):=by
   have:n.toNat<(ByteArray.mk l.toArray).size:=by simpa [ByteArray.size] using h1
   rw [getElem?_pos (ByteArray.mk l.toArray) n.toNat this];simp [ByteArray.getElem_eq_getElem_data,h1]
  simp [Instr.index,asIntOf,x8 hu,hn.1,h2]
theorem Ly {P:Program} (h:RS B S ι s a w) {k:IntKind} {f:Int->Int->Int} {m2:Value->Value->Sem Value} (hf:∀ x y,w4 k x->w4 k y->w4 k (f x y)) (hm:∀ x y,(m2 (.int k x) (.int k y)).run P w=.ok (.int k (f x y)) w) :
  ∀ {l:List Operand} {x:Int} {v:AV} {s':St},w4 k x->foldI s k f x l=.ok v s'->∃ n,v=.val (.int k) n/\s'=s/\w4 k n/\((l.map a.eval).foldlM m2 (.int k x)).run P w=.ok (.int k n) w
 | [],x,v,s',hx,gD=>by
  simp only [foldI,OR.ok.injEq] at gD;obtain ⟨rfl,rfl⟩:=gD;exact ⟨x,rfl,rfl,hx,rfl⟩
 | y::l,x,v,s',hx,gD=>by
  simp only [foldI] at gD;split at gD
  ·rename_i k' b hy
   split at gD
   ·rename_i hk
    subst hk;obtain ⟨dN,hb⟩:=VX.J6 (D8 h hy);obtain ⟨n,k1,k2,k3,k4⟩:=Ly h hf hm (hf x b hx hb) gD;refine ⟨n,k1,k2,k3,?_⟩;simp only [aCf,List.foldlM_cons,Sem.run_bind,dN,hm,Result.andThen];exact k4
   ·cases gD
  ·cases gD
theorem KT {k:IntKind} {f:Int->Int->Int}:∀ {l:List Operand} {x:Int} {p:Prop} {v:AV} {s':St},foldI s k f x l≠.H3 p v s'
 | [],x,p,v,s',h=>by cases h
 | y::l,x,p,v,s',h=>by
  simp only [foldI] at h;split at h
  ·split at h
   ·exact KT h
   ·cases h
  ·cases h
theorem OT {P:Program} {T ty:TypeId} {k:Nat} {u:Ty} (hT:r8 P k T u=true) {v:Value} {n:Nat}
  (h:(∃ q t b off cap,u=.d0 q t/\v=.slice b n cap/\off=0)\/(∃ l:yY,u=.str/\v=.string ⟨l.toArray⟩/\n=l.length)\/(∃ t,u=.arr n t)) :
  (Builtin.len_ #[T] ty #[v]).run P w=.ok (.int .i64 n) w:=by
 rcases h with ⟨q,t,b,off,cap,rfl,rfl,_⟩|⟨l,rfl,rfl,rfl⟩|⟨t,rfl⟩
 ·obtain ⟨e,k',h1,_⟩:=H9 hT
  simp [Builtin.len_,x8 h1,goInt]
 ·have h1:=Y9 hT
  have e:(ByteArray.mk l.toArray).size=l.length:=rfl;simp [Builtin.len_,x8 h1,goInt,e]
 ·obtain ⟨e,k',h1,_⟩:=yw hT
  simp [Builtin.len_,x8 h1,goInt]
theorem Ac (hE:E2 E B) (h:RS B S ι s a w) {o:Oper} {c:Call} (ho:o.op=.call c) (hc:c.callee=.builtin .len) {x:Operand} {T:TypeId} (ha:c.args.toList=[x]) (hT:c.argTypes.toList=[T]) {u:Ty} (hk:K0 E T u=true) {n:Nat}
  (hv:(∃ q t b off cap,u=.d0 q t/\a.eval x=.slice b n cap/\off=0)\/(∃ l:yY,u=.str/\a.eval x=.string ⟨l.toArray⟩/\n=l.length)\/(∃ t,u=.arr n t)) (hn:(n:Int)<=9223372036854775807) :
  D0 E.P B o a w (.val (.int .i64) (n:Int)) s:=by
 have aF:c.args=#[x]:=by rw [<- ha]
 have eG:c.argTypes=#[T]:=by rw [<- hT]
 refine D0.value (val:=.int .i64 n) ?_ h (VX.int (by unfold w4; simp [IntKind.min,IntKind.max,IntKind.signed,IntKind.bits]; omega));have:=OT (w:=w) (ty:=o.type) (E5 hE hk) hv;simp [execOp,ho,resolve,hc,invoke,builtin,aF,eG,this]
theorem CA {q:Bool} {u:Ty} {O:List Nat} {cs:List Value} {z:(Ty.d0 q u).den} (hR:i6 H S (.d0 q u) O cs z):∃ b cap,s5 (.d0 q u) cs=.slice b (List.length z) cap/\((List.length z:Nat):Int)<=9223372036854775807:=by
 rcases hR with ⟨_,⟨a,c,h1,_⟩,h2⟩|⟨b,off,cap,O',c1,c2,c3,_⟩
 ·subst h2; subst h1; exact ⟨a,c,rfl,by simp⟩
 ·rw [c1]; exact ⟨_,cap,rfl,by have:=c3.1; unfold maxLen at this; omega⟩
theorem PJ {u:Ty} {O:List Nat} {cs:List Value} {z:(Ty.D4 u).den} (hR:i6 H S (.D4 u) O cs z):∃ b cap,s5 (.D4 u) cs=.slice b (List.length z.2.1) cap/\((List.length z.2.1:Nat):Int)<=9223372036854775807:=by
 obtain ⟨n,l,m⟩:=z
 match n,hR with
 | 0,hR=>exact CA (q:=false) hR
 | 1,hR=>exact CA (q:=true) hR
 | n+2,⟨b,off,O',c1,c2,_⟩ =>
  subst c1;exact ⟨_,_,rfl,by have:=c2.1; unfold maxLen at this; show ((List.length l:Nat):Int)<=_; omega⟩
theorem RF (off:Nat):∀ (vs:List Value) (k:Nat) (cells:Array Value),off+k+vs.length<=cells.size ->
  ((vs.zipIdx k).foldl (λ cs (q:Value×Nat)=>cs.setIfInBounds (off+q.2) q.1) cells)=(over cells.toList (off+k) vs).toArray
 | [],k,cells,_=>by simp [over]
 | v::vs,k,cells,h=>by
  simp only [aAh] at h;simp only [List.zipIdx_cons,List.foldl_cons];rw [RF off vs (k+1) _ (by simp; omega)];congr 1;have e:=list_seg_step cells.toList (off+k) v vs (by simp; omega);simpa [over,aGt,aBo] using e
theorem Zu {place:Nat->Option (Nat×Nat)} {cells:List Value} {i off size:Nat} {v:Value} {vs:List Value} {rest:List (Nat×Value)} (hp:place i=some (off,size)) (hv:v.cells=vs.toArray) (hl:vs.length=size) (hb:off+size<=cells.length) :
  Instr.fill place cells.toArray ((i,v)::rest)=Instr.fill place (over cells off vs).toArray rest:=by
 have hz:=RF off vs 0 cells.toArray (by simp; omega);simp only [Instr.fill,hp,hv];have h1:¬ ((vs.toArray.size≠size)\/(off+vs.toArray.size > cells.toArray.size)):=by simp [hl]; omega
 simp only [aBr,decide_eq_true_eq];rw [if_neg (by simpa using h1)];congr 1;simp only [aDu] at hz;rw [<- hz,<- Array.foldl_toList];simp
theorem YW {t:Ty} {x:t.den} {O:List Nat} {cs:List Value} (hR:i6 H S t O cs x) (hS:∀ b,S b->b<H.size) (hO:∀ b∈O,¬ S b) (aK:O.Nodup) {p:List Step} (aH:C1 t x p) {u0:Ty} {y0:u0.den} (hg:j9 t x p=some ⟨u0,y0⟩) {off:Nat}
  (hn:∀ (G:Array Go.Obj) (b o:Nat),C6 G t p b o=some (b,o+off)) {u:Ty} {z:u.den} {O2:List Nat} {cs':List Value} (hz:i6 H S u O2 cs' z) (db:O2.Nodup) (nM:∀ b∈O2,b∉O) {r:Sigma Ty.den} (aI:w7 t x p u z=some r) :
  ∃ O',i6 H S r.1 O' (over cs off cs') r.2/\O'.Nodup/\(∀ b∈O',b∈O\/b∈O2)/\r.1.sh=t.sh/\off+u0.size<=cs.length/\u.size=u0.size:=by
 have pb:=Dl hg aI;have jE:=H4 pb
 let G:Array Go.Obj:=H.push (.cells cs.toArray 0)
 let G':Array Go.Obj:=H.push (.cells (over cs off cs').toArray 0)
 have hold:∀ {c},c<H.size->G[c]?=H[c]?:=λ h=>CG h;have iU:∀ {c},c<H.size->G'[c]?=H[c]?:=λ h=>CG h;have dS:y8 G H.size=cs:=by simp [G,y8]
 have kK:y8 G' H.size=over cs off cs':=by simp [G',y8]
 have oM:∀ c∈O,c<H.size:=λ c hc=>hR.ye c hc;have oh:∀ c∈O2,c<H.size:=λ c hc=>hz.ye c hc;have bG:e8 G H.size 0 t.size=cs:=by
  simp only [e8,dS,aBz];exact aAw (by rw [hR.length]; exact aAk _)
 have uu:i6 G S t O (e8 G H.size 0 t.size) x:=by
  rw [bG]; exact hR.x7 (λ c hc=>hold (hc.elim (oM c) (hS c))) (λ _ h=>h)
 have rR:0+t.size<=(y8 G H.size).length:=by rw [dS,hR.length]; omega
 obtain ⟨O1,O3,b',ar,e1,e2,e3,e4,e5,e6⟩:=focus (b:=H.size) (off:=0) uu rR aH hg
 rw [hn] at e3; cases e3;rw [dS] at e5;have hle:off+u0.size<=cs.length:=by simpa using e5
 have cK:cs'.length=u0.size:=by rw [hz.length,jE]
 have oC:(over cs off cs').length=cs.length:=Us (by omega);have ir:¬ S H.size:=λ h=>aCk _ (hS _ h);have hc:X7 G G' H.size (0+off) u0.size:=by
  refine ⟨⟨cs.toArray,(over cs off cs').toArray,0,⟨_,⟨Fs,.inl rfl⟩,Fs⟩,by simp [oC],?_⟩,?_⟩
  ·intro j hj
   exact QP (by omega) (by omega)
  ·intro c dQ iH
   have:c<H.size:=by simp [G] at iH; omega
   rw [iU this,hold this]
 have iI:i6 G' S u O2 (e8 G' H.size (0+off) u.size) z:=by
  have:e8 G' H.size (0+off) u.size=cs':=by
   simp only [e8,kK,aEz];rw [<- hz.length]; exact PO (by omega)
  rw [this];exact hz.x7 (λ c hc=>iU (hc.elim (oh c) (hS c))) (λ _ h=>h)
 have cx:=(e1.nodup_iff).1 aK;have jQ:∀ c∈O1,c∈O:=λ c hc=>e1.mem_iff.2 (by simp [hc]);obtain ⟨O4,f1,f2,f3⟩:=CD e2 hg (hn G H.size 0) rR (by simp [G]) (aAg.1 cx).1 (λ hm=>aCk _ (oM _ (jQ _ hm))) (λ c hc=>⟨hO c (jQ c hc),by have:=oM c (jQ c hc); simp [G]; omega⟩) ir
  (λ c hc=>by have:=hS c hc; simp [G]; omega) (λ _ h=>h) hc iI aI
 have bU:∀ b∈O4,b∈O\/b∈O2:=λ b hb=>(aAi.1 (f1.mem_iff.1 hb)).imp (jQ b) id;refine ⟨O4,?_,(f1.nodup_iff).2 (aAg.2 ⟨(aAg.1 cx).1,db,λ c h1 d h2 e=>nM d h2 (e▸jQ c h1)⟩),bU,f3,hle,jE⟩;have:e8 G' H.size 0 r.1.size=over cs off cs':=by
  simp only [e8,kK,aBz];exact aAw (by rw [oC,hR.length,H4 f3]; omega)
 rw [this] at f2;exact f2.x7 (λ c hc=>(iU (hc.elim (λ h=>(bU c h).elim (oM c) (oh c)) (hS c))).symm) (λ _ h=>h)
def Am (t:Ty) (i:Nat):Nat :=
 match t with
 | .arr _ t=>i*t.size
 | t=>U1 t i
theorem ZL {t:Ty} {x:t.den} {i:Nat} (hi:xt t i=true) {r:Sigma Ty.den} (hg:j9 t x (Z2 t i)=some r):C1 t x (Z2 t i)/\∀ (G:Array Go.Obj) (b o:Nat),C6 G t (Z2 t i) b o=some (b,o+Am t i):=by
 obtain ⟨u,y⟩:=r;cases t with
 | arr n t =>
  have:i<n:=by simpa [xt,aDf] using hi
  refine ⟨⟨by omega,Q7⟩,λ G b o=>?_⟩;simp [Z2,C6,Am,C8]
 | _=>exact ⟨yQ hg,λ G b o=>zd hg⟩
theorem Gl (h:RS B S ι s a w) {place:Nat->Option (Nat×Nat)}:∀ {parts:List (Nat×Operand)} {t:Ty} {x:t.den} {O:List Nat} {cs:List Value} {r:Sigma Ty.den} {G g:List Nat},i6 w.heap S t O cs x->O.Nodup->(∀ b∈O,P0 ι s.hp G b)->(G++g).Nodup->parts.all (λ q=>xt t q.1)=true ->
  (∀ (t':Ty) (x':t'.den) (i:Nat) (u:Ty) (y:u.den),t'.sh=t.sh->j9 t' x' (Z2 t' i)=some ⟨u,y⟩->xt t' i=true->place i=some (Am t' i,u.size))->V0 s ⟨t,x⟩ parts=some (r,g) ->
  ∃ cs' O',Instr.fill place cs.toArray (parts.map λ q=>(q.1,a.eval q.2))=some cs'.toArray/\i6 w.heap S r.1 O' cs' r.2/\O'.Nodup/\(∀ b∈O',P0 ι s.hp (G++g) b)/\r.1.sh=t.sh
 | [],t,x,O,cs,r,G,g,hR,aK,hO,_,_,_,hb=>by
  simp only [V0,aAc,aBb] at hb;obtain ⟨rfl,rfl⟩:=hb;exact ⟨cs,O,rfl,hR,aK,λ b hb=>(hO b hb).mono (by simp),rfl⟩
 | (i,v)::parts,t,x,O,cs,r,G,g,hR,aK,hO,hG,bH,hp,hb=>by
  simp only [aDn,aAa] at bH;simp only [V0] at hb;split at hb
  ·cases hb
  ·rename_i u0 y0 hg
   obtain ⟨aH,jO⟩:=ZL bH.1 hg;have lf:=hp t x i u0 y0 rfl hg bH.1;have oO:∀ b∈O,¬ S b:=λ b hb=>by obtain ⟨j,e,_,q2,q3⟩:=hO b hb; exact (h.hs.bl j e q2 b q3).1
   have one:∀ {u:Ty} {z:u.den} {O2:List Nat} {cs1:List Value} {r1:Sigma Ty.den} {g1 g2:List Nat},i6 w.heap S u O2 cs1 z->O2.Nodup->(∀ b∈O2,P0 ι s.hp g1 b)->a.eval v=s5 u cs1->w7 t x (Z2 t i) u z=some r1->V0 s r1 parts=some (r,g2)->g=g1++g2 ->
     ∃ cs' O',Instr.fill place cs.toArray (((i,v)::parts).map λ q=>(q.1,a.eval q.2))=some cs'.toArray/\i6 w.heap S r.1 O' cs' r.2/\O'.Nodup/\(∀ b∈O',P0 ι s.hp (G++g) b)/\r.1.sh=t.sh:=by
    intro u z O2 cs1 r1 g1 g2 hz db eY df aI hb tL;subst tL;have nM:∀ b∈O2,b∉O:=by
     intro b fI dK;obtain ⟨i1,e1,q1,q2,q3⟩:=eY b fI;obtain ⟨i2,e2,r1',r2,r3⟩:=hO b dK;have br:i1≠i2:=by rintro rfl; exact (aAg.1 hG).2.2 i1 r1' i1 (by simp [q1]) rfl
     exact h.hs.dj i1 i2 e1 e2 q2 r2 br b q3 r3
    obtain ⟨O',k1,Vq,Vp,k2,k3,k4⟩:=YW hR h.hs.slt oO aK aH hg jO hz db nM aI;obtain ⟨t1,x1⟩:=r1;have cj:t1.sh=t.sh:=k2;have dy:∀ j,xt t1 j=xt t j:=by
     intro j;cases t<;>cases t1<;>simp only [Ty.sh] at cj<;>first|cases cj|rfl|skip
     all_goals first|rfl|(simp only [Ty.arr.injEq] at cj; simp only [xt,cj.1])
    obtain ⟨cs',O4,q1,q2,q3,q4,q5⟩:=Gl h (place:=place) (parts:=parts) (G:=G++g1) (g:=g2) k1 Vq (λ b hb=>(Vp b hb).elim (λ hb=>(hO b hb).mono (by simp; intro i hi; exact .inl hi)) (λ hb=>(eY b hb).mono (by simp; intro i hi; exact .inr hi))) (by rw [aAj]; exact hG) (by simp only [dy]; exact bH.2) (λ t' x' j u' y' e1 e2 e3=>hp t' x' j u' y' (e1.trans cj) e2 e3) hb;refine ⟨cs',O4,?_,q2,q3,by rw [<- aAj]; exact q4,q5.trans cj⟩;simp only [aCf];rw [Zu (vs:=cs1) lf (by rw [df]; exact hz.cells) (by rw [hz.length,k4]) k3];exact q1
   split at hb
   ·rename_i hv
    have fT:[a.eval v]=[Value.slice none 0 0]:=D8 h hv;split at hb
    ·rename_i o' u' _
     split at hb
     ·rename_i r1 aI
      exact one (u:=.d0 o' u') (z:=([]:List u'.den)) (cs1:=[.slice none 0 0]) (g1:=[]) (.inl ⟨rfl,⟨none,0,rfl,λ _=>rfl⟩,rfl⟩) aAy (by simp) (by simpa [s5,Ty.agg] using fT) aI hb rfl
     ·cases hb
    ·cases hb
   ·split at hb
    ·rename_i u z g1 cU
     obtain ⟨O2,cs1,e,hz,db,eY⟩:=FI h.hs cU (h.ev v);split at hb
     ·rename_i r1 aI
      split at hb
      ·rename_i r2 g2 fI
       simp only [aAc,aBb] at hb;obtain ⟨rfl,rfl⟩:=hb;exact one hz db eY e aI fI rfl
      ·cases hb
     ·cases hb
    ·cases hb
def plc:Ty->Nat->List (Nat×Nat)
 | .pair a b,off=>(off,a.size)::plc b (off+a.size)
 | _,_=>[]
theorem XU:∀ {t:Ty} {x:t.den} {n:Nat} {u:Ty} {z:u.den} {off:Nat},j9 t x [.m0 n]=some ⟨u,z⟩->(plc t off)[n]?=some (off+U1 t n,u.size):=by
 intro t
 induction t with
 | pair a c _ ihc =>
  intro x n u z off h
  match n,h with
  | 0,h =>
   have h:some (⟨a,x.1⟩:Sigma Ty.den)=some ⟨u,z⟩:=by rw [<- h]; simp only [j9]
   cases h;simp [plc,U1]
  | n+1,h =>
   have:=ihc (x:=x.2) (off:=off+a.size) h;simp only [plc,U1,aDm,this];simp [aBo]
 | d0 o t _=>intro x n u z off h; cases o<;>simp [j9] at h
 | _=>intro x n u z off h; simp [j9] at h
theorem Pz {P:Program} {k:Nat}:∀ {fs:List Field} {off:Nat} {t:Ty},n7 (r8 P k) fs off t=true->(fs.mapM λ f=>Prod.mk f.offset <$> sizeOf f.type).run P w=.ok (plc t off) w
 | [],off,t,h=>by
  cases t<;>simp [n7] at h;rfl
 | f::fs,off,t,h=>by
  cases t<;>simp only [n7] at h<;>first|cases h|skip
  simp only [aAa] at h;obtain ⟨⟨⟨⟨h1,_⟩,h3⟩,_⟩,h4⟩:=h;have ih:=Pz h4;simp [aGv,run_sizeOf h3,ih,plc,aAe h1]
theorem WQ:∀ {t u:Ty} {off:Nat},u.sh=t.sh->plc u off=plc t off:=by
 intro t
 induction t with
 | pair a c _ ihc =>
  intro u off h;cases u<;>simp only [Ty.sh] at h<;>try cases h
  simp only [Ty.pair.injEq] at h;simp only [plc,H4 h.1,ihc h.2]
 | _ =>
  intro u off h;cases u<;>simp only [Ty.sh] at h<;>try cases h
  all_goals rfl
theorem MA {P:Program} {k:Nat} {T:TypeId} {t:Ty} (h:r8 P k T t=true) (ht:t.agg=true) (hn:∀ n u,t≠.arr n u):∃ fs k',P.underlying T=some (.struct fs)/\n7 (r8 P k') fs.toList 0 t=true:=by
 cases k with
 | zero=>simp [r8] at h
 | succ k =>
  obtain ⟨d,h1,h2⟩:=T4 h;simp only [r8,aAa,h1] at h;obtain ⟨_,h⟩:=h;cases t with
  | pair a c=>cases d<;>first|(exact (aBa h).elim)|(exact ⟨_,k,h1,h⟩)
  | unit=>cases d<;>first|(exact (aBa h).elim)|(exact ⟨_,k,h1,h⟩)
  | arr n u=>exact absurd rfl (hn n u)
  | _=>cases ht
end
end Go.Ex
namespace Go.Ex
section
variable {E:Env} {B:F5} {S S':Nat->Prop} {ι:Ix} {s:St} {a:Act} {w:World} {hp:List (Nat×g9)} {H H':Array Go.Obj}
theorem TQ (z:List Value):∀ n:Nat,(List.range (n*z.length)).map (λ i=>z.getD (i % z.length) default)=(List.replicate n z).flatten
 | 0=>by simp
 | n+1=>by
  rw [aBg,aFs,List.range_add,aCw,aEa,aEl,<- TQ z n];congr 1
  ·apply aFp
   ·simp
   ·intro i h1 h2
    simp only [aAl,List.length_range] at h1;simp [Nat.mod_eq_of_lt h1,aAf h1]
  ·simp [aHm,Function.comp_def]
theorem Ki (z:List Value) (n:Nat):((Array.range (n*z.length)).map (z.toArray[· % z.toArray.size]!))=(List.replicate n z).flatten.toArray:=by
 rw [<- TQ];apply aGz;simp [Array.toList_range,aAb]
theorem Gq (z:List Value) (n:Nat):Builtin.zeroCells z.toArray n=(List.replicate n z).flatten.toArray:=Ki z n
theorem j5.Ie {t:Ty}:∀ n:Nat,j5 (i6 H S t) t.size [] (List.replicate n (zc t)).flatten (List.replicate n t.w5)
 | 0=>⟨rfl,rfl⟩
 | n+1=>⟨[],[],rfl,by
   rw [aEa,aEl,aDd (T5 t)]; exact i6.w5 t,by
   rw [aEa,aEl,aEu (T5 t)]; exact j5.Ie n⟩
theorem D0.lay {P:Program} {o:Oper} {d:Nat} {g:List Nat} {t:Ty} {x:t.den} {v:AV} {s':St} (hl:s.lay d g t x=.ok v s') {w':World} {val:Value} (hr:(execOp a.eval o).run P w=.ok (.value val) w')
  {O:List Nat} {cs:List Value} (hv:val=s5 t cs) (hR:i6 w'.heap S t O cs x) (hs:RS B S ι (St.B9 g s) a w') (hF:H2 B S ι (St.B9 g s).hp w' O):D0 P B o a w v s':=by
 unfold St.lay at hl;split at hl
 ·cases hl
 ·split at hl
  ·rename_i hf
   cases hl;intro next Q hn
   unfold Oper.wp;rw [hr];exact hn S _ w' val (hs.hold hf hR hF) (by rw [hv]; exact AH hR.length)
  ·cases hl
theorem Jn {d:Nat} {g:List Nat} {t:Ty} {x:t.den} {v:AV} {s':St} (hl:s.lay d g t x=.ok v s'):g.Nodup/\(g.all λ i=>!pinned i)=true:=by
 unfold St.lay at hl;split at hl
 ·cases hl
 ·rename_i hc
  simp only [aAa] at hc;exact ⟨DA hc.1.1,hc.1.2⟩
theorem xD {d:Nat} {g:List Nat} {t:Ty} {x:t.den} {p:Prop} {v:AV} {s':St}:s.lay d g t x≠.H3 p v s':=by
 unfold St.lay
 split
 ·simp
 ·split<;>simp
theorem G7.Js {P:Program} {o:Oper} {d:Nat} {g:List Nat} {t:Ty} {x:t.den} {p:Prop} (h:∀ v s',s.lay d g t x=.ok v s'->p->D0 P B o a w v s'):G7 P B o a w ((s.lay d g t x).f8 p):=by
 cases hl:s.lay d g t x with
 | fail y=>trivial
 | ok v s'=>exact λ hp=>h v s' hl hp
 | H3 q v s'=>exact absurd hl xD
theorem G7.lay {P:Program} {o:Oper} {d:Nat} {g:List Nat} {t:Ty} {x:t.den} (h:∀ v s',s.lay d g t x=.ok v s'->D0 P B o a w v s'):G7 P B o a w (s.lay d g t x):=by
 cases hl:s.lay d g t x with
 | fail y=>trivial
 | ok v s'=>exact h v s' hl
 | H3 q v s'=>exact absurd hl xD
theorem Fu {t:Ty} {l:List t.den} {O:List Nat} {cells:List Value} (hS:∀ c,S c->c<w.heap.size) (hR:j5 (i6 w.heap S t) t.size O (cells.take (l.length*t.size)) l) {cap:Nat} (hc:l.length<=cap) (hm:cap<=maxLen)
  (aW:cap*t.size<=cells.length) (T:TypeId) (hO:∀ c∈O,c<w.heap.size) {w':World} {fz:Nat×Nat} (hh:w'.heap=w.heap.push (.cells cells.toArray T fz)) (hz:fz=(0,0)\/(t.isB=true/\cells.length<=fz.1)) :
  ∃ O',i6 w'.heap S (.d0 true t) O' [.slice (some ⟨w.heap.size,0,none⟩) l.length cap] l/\(∀ b∈O',b=w.heap.size\/b∈O)/\(O.Nodup->O'.Nodup):=by
 have dP:w'.heap[w.heap.size]?=some (.cells cells.toArray T fz):=by rw [hh]; exact Fs
 have hold:∀ {b},b<w.heap.size->w'.heap[b]?=w.heap[b]?:=λ hb=>by rw [hh]; exact CG hb
 have dS:y8 w'.heap w.heap.size=cells:=by simp only [y8,dP]
 have hle:l.length*t.size<=cap*t.size:=aAm _ hc;by_cases h0:cap=0
 ·have js:l.length=0:=by omega
  have hl:l=[]:=aCp.1 js;exact ⟨[],.inl ⟨rfl,⟨some ⟨w.heap.size,0,none⟩,0,by rw [js,h0],λ _=>rfl⟩,hl⟩,by simp,λ _=>aAy⟩
 ·refine ⟨w.heap.size::O,.inr ⟨w.heap.size,0,cap,O,rfl,hc,⟨hm,λ _=>by omega⟩,?_,?_,rfl,cells.toArray,T,⟨fz,dP,by simpa using hz⟩,by simpa using aW⟩,λ b hb=>aAq.1 hb,λ hn=>aAt.2 ⟨λ hb=>aCk _ (hO _ hb),hn⟩⟩
  ·rw [dS,aEz]; exact aAx hle aW
  ·have:e8 w'.heap w.heap.size 0 (List.length l*t.size)=cells.take (l.length*t.size):=by simp only [e8,dS,aBz]
   rw [this];exact j5.mono (L:=O) (λ _ h=>h) (λ O1 cs y hL hr=>hr.x7 (λ b hb=>hold (hb.elim (λ hb=>hO b (hL b hb)) (hS b))) (λ _ h=>h)) hR
theorem Py {t:Ty} {l:List t.den} {O:List Nat} {cells:List Value} (hS:∀ c,S c->c<w.heap.size) (hR:j5 (i6 w.heap S t) t.size O (cells.take (l.length*t.size)) l) {cap:Nat} (hc:l.length<=cap) (hm:cap<=maxLen)
  (aW:cap*t.size<=cells.length) (T:TypeId) (hO:∀ c∈O,c<w.heap.size) :
  ∃ O',i6 (I7 w (.cells cells.toArray T)).heap S (.d0 true t) O' [.slice (some ⟨w.heap.size,0,none⟩) l.length cap] l/\(∀ b∈O',b=w.heap.size\/b∈O)/\(O.Nodup->O'.Nodup) :=
 Fu hS hR hc hm aW T hO (w':=I7 w (.cells cells.toArray T)) rfl (.inl rfl)
theorem H2.new {O O':List Nat} (h:RS B S ι s a w) (hF:H2 B S ι s.hp w O) {w':World} (k:G2 [] w w') (bf:w.heap.size<w'.heap.size) (hs:∀ b∈O',b=w.heap.size\/b∈O) (hn:O'.Nodup):H2 B S ι s.hp w' O':=by
 refine ⟨hn,λ b hb=>?_⟩;rcases hs b hb with rfl|hb
 ·refine ⟨λ hS=>aCk _ (h.hs.slt _ hS),.inl h.hs.size,bf,λ i e hi kL=>aCk _ (h.hs.bl i e hi _ kL).2.2⟩
 ·exact (hF.vC k).2 b hb
theorem Vg {n:Nat} {t:Ty} (t':Ty) (x':t'.den) (i:Nat) (u':Ty) (y':u'.den) (e1:t'.sh=(Ty.arr n t).sh) (e2:j9 t' x' (Z2 t' i)=some ⟨u',y'⟩) (_:xt t' i=true):some (i*t.size,t.size)=some (Am t' i,u'.size):=by
 cases t'<;>simp only [Ty.sh] at e1<;>first|cases e1|skip
 rename_i n' t'' _;simp only [Ty.arr.injEq] at e1;have:t''=u':=by
  simp only [Z2,j9,D6,aAc] at e2;exact congrArg Sigma.fst e2
 subst this;simp only [Am,H4 e1.2]
theorem b9u (hE:E2 E B) (h:RS B S ι s a w) {o:Oper} {T:TypeId} {parts:Array (Nat×Operand)} (ho:o.op=.build T parts):G7 E.P B o a w (n6 E o s):=by
 have he:execOp a.eval o=(do pure (.value (<- Instr.build T (parts.map λ q=>(q.1,a.eval q.2))))):=by simp [execOp,ho]
 unfold n6;rw [ho];simp only
 split
 ·rename_i ti hT
  split
  ·rename_i bH
   simp only [aAa] at bH;have core:∀ {u:Ty} {y:u.den} {g:List Nat},V0 s ⟨ti.ty,ti.ty.w5⟩ parts.toList=some (⟨u,y⟩,g)->g.Nodup->∃ cs' O',(Instr.build T (parts.map λ q=>(q.1,a.eval q.2))).run E.P w=.ok (s5 u cs') w/\i6 w.heap S u O' cs' y/\O'.Nodup/\∀ b∈O',P0 ι s.hp g b:=by
    intro u y g hb iE;have di:=s7 hE hT;have hz:=CJ (w:=w) di;have eX:i6 w.heap S ti.ty [] (zc ti.ty) ti.ty.w5:=i6.w5 _;have kP:(s5 ti.ty (zc ti.ty)).cells=(zc ti.ty).toArray:=eX.cells;have mT:(parts.map λ q=>(q.1,a.eval q.2)).toList=parts.toList.map λ q=>(q.1,a.eval q.2):=by simp
    by_cases eU:∃ n t,ti.ty=.arr n t
    ·obtain ⟨n,t,e0⟩:=eU
     rw [e0] at di hb eX bH hz kP;obtain ⟨et,k',h1,h2,h3⟩:=yw di;obtain ⟨cs',O',q1,q2,q3,q4,q5⟩:=Gl h (place:=λ i=>some (i*t.size,t.size)) (G:=[]) eX aAy (by simp) (by simpa using iE) bH.2 (λ t' x' i u' y' e1 e2 e3=>Vg t' x' i u' y' e1 e2 e3) hb;refine ⟨cs',O',?_,q2,q3,q4⟩;have dv:u.agg=true:=by rw [Ey q5]; rfl
     simp only [Instr.build,Sem.run_bind,hz,Result.andThen,x8 h1,kP,mT,run_sizeOf h3,q1];simp [s5,dv]
    ·have hn:∀ n u,ti.ty≠.arr n u:=λ n u e=>eU ⟨n,u,e⟩
     obtain ⟨fs,k',h1,h2⟩:=MA di bH.1 hn;have bV:=Pz (w:=w) h2;obtain ⟨cs',O',q1,q2,q3,q4,q5⟩:=Gl h (place:=λ i=>(plc ti.ty 0)[i]?) (G:=[]) eX aAy (by simp) (by simpa using iE) bH.2 (by
      intro t' x' i u' y' e1 e2 e3;have eD:∀ n u,t'≠.arr n u:=by
       rintro n u rfl;cases ht:ti.ty<;>rw [ht] at e1<;>simp only [Ty.sh] at e1<;>first|cases e1|skip
       exact eU ⟨_,_,ht⟩
      have e2':j9 t' x' [.m0 i]=some ⟨u',y'⟩:=by
       cases t'<;>first|exact e2|(exact absurd rfl (eD _ _))
      have:=XU (off:=0) e2';rw [WQ e1] at this;have e4:Am t' i=U1 t' i:=by cases t'<;>first|rfl|(exact absurd rfl (eD _ _))
      rw [e4];simpa using this) hb
     refine ⟨cs',O',?_,q2,q3,q4⟩;have dv:u.agg=true:=by rw [Ey q5]; exact bH.1
     simp only [Instr.build,Sem.run_bind,hz,Result.andThen,x8 h1,kP,mT];simp [aGx,bV,q1,s5,dv]
   split
   ·rename_i u y hb
    obtain ⟨cs',O',q1,q2,q3,q4⟩:=core hb aAy;have:O'=[]:=aDl.2 (λ b hb=>by obtain ⟨i,e,hi,_⟩:=q4 b hb; cases hi);subst this;exact J9 he h q1 ⟨cs',rfl,q2⟩
   ·rename_i u y g d hd hb dI
    refine G7.lay (λ v s' hl=>?_);obtain ⟨g1,g2⟩:=Jn hl;obtain ⟨cs',O',q1,q2,q3,q4⟩:=core hb g1;exact D0.lay hl (Q9 he q1) rfl q2 (h.B9 g2) (H2.B9 h.hs q3 q4)
   ·trivial
  ·trivial
 ·trivial
theorem Qe {n:Nat} {t:Ty} {parts:List (Nat×Operand)} {r:Sigma Ty.den×List Nat} (h:Ap s n t parts=some r):∃ t0:Ty,t0.sh=t.sh/\V0 s ⟨.arr n t0,(Ty.arr n t0).w5⟩ parts=some r:=by
 unfold Ap at h;split at h
 ·rename_i r' hr
  cases h;exact ⟨t,rfl,hr⟩
 ·exact ⟨t.sh,Ty.Ay t,h⟩
theorem b0T (hE:E2 E B) (h:RS B S ι s a w) {o:Oper} {T:TypeId} {n:Nat} {parts:Array (Nat×Operand)} (ho:o.op=.buildSlice T n parts):G7 E.P B o a w (n6 E o s):=by
 have he:execOp a.eval o=(do pure (.value (<- Instr.buildSlice T n (parts.map λ q=>(q.1,a.eval q.2))))):=by simp [execOp,ho]
 unfold n6;rw [ho];simp only
 split
 ·rename_i t bts d hT hd
  split
  ·rename_i bH
   simp only [aAa,aFv] at bH;obtain ⟨⟨dZ,dy⟩,aW⟩:=bH
   split
   ·rename_i m t' l g mv
    obtain ⟨t0,kX,hb⟩:=Qe mv;refine G7.lay (λ v s' hl=>?_);obtain ⟨gn,gp⟩:=Jn hl;have di:=s7 hE hT;obtain ⟨et,k',h1,h2,h3⟩:=H9 di;have oq:∀ u:Ty,(zc u).length=u.size:=λ u=>(i6.w5 (H:=w.heap) (S:=S) u).length;have eX:i6 w.heap S (.arr n t0) [] (zc (.arr n t)) (Ty.arr n t0).w5:=by
     have:=i6.w5 (H:=w.heap) (S:=S) (.arr n t0)
     rwa [show zc (.arr n t0)=zc (.arr n t) from Nx (congrArg (Ty.arr n) kX)] at this
    obtain ⟨cs',O',q1,q2,qn,qb,q3⟩:=Gl h (place:=λ i=>some (i*t.size,t.size)) (G:=[]) eX aAy (by simp) (by simpa using gn) (by simpa [xt] using dy) (λ t' x' i u' y' e1 e2 e3=>Vg t' x' i u' y' (e1.trans (congrArg (Ty.arr n) kX)) e2 e3) hb;have mT:(parts.map λ q=>(q.1,a.eval q.2)).toList=parts.toList.map λ q=>(q.1,a.eval q.2):=by simp
    simp only [Ty.sh,Ty.arr.injEq] at q3;obtain ⟨rfl,q3⟩:=q3;have q3:=q3.trans kX;have eG:=H4 q3;obtain ⟨g1,g2⟩:=q2;have hlen:cs'.length=m*t'.size:=by rw [j5.length (λ _ _ _ h=>h.length) g2,g1]
    have gC:m*t'.size<=16777216:=by rw [eG]; exact aW
    have pT:m<=maxLen:=by
     have:m*1<=m*t'.size:=Nat.mul_le_mul_left _ (by omega);unfold maxLen; omega
    have aP:(execOp a.eval o).run E.P w=.ok (.value (.slice (some ⟨w.heap.size,0,none⟩) m m)) (I7 w (.cells cs'.toArray et)):=by
     rw [he];have ot:(zc (.arr m t)).toArray=(List.replicate m (zc t)).flatten.toArray:=rfl;by_cases h0:m*t.size=0
     ·have:m=0:=by rcases Nat.mul_eq_zero.1 h0 with h|h<;>omega
      subst this;simp only [Instr.buildSlice,Sem.run_bind,x8 h1,Result.andThen,run_sizeOf h3];have e0:(zc (.arr 0 t)).toArray=(#[]:Array Value):=rfl;rw [e0] at q1;have r0:Array.range 0=(#[]:Array Nat):=rfl;simp only [aEy,r0,Array.map_empty];rw [mT];simp [q1,newRow,newObj,Sem.run,I7]
     ·have jB:(s5 t (zc t)).cells=(zc t).toArray:=(i6.w5 (H:=w.heap) (S:=S) t).cells
      have hle:¬ (m*t.size > 16777216):=by omega
      have hq:=Ki (zc t) m;rw [oq] at hq;rw [ot] at q1;have pY:¬ (m*t.size > 2^24):=by omega
      simp only [Instr.buildSlice,Sem.run_bind,x8 h1,Result.andThen,run_sizeOf h3,pY,h0,if_false,CJ h3,jB,mT,Sem.run_pure,hq,q1];simp [newRow,newObj,Sem.run,I7]
    have g1':List.length l=m:=g1;have gX:∀ c∈O',c<w.heap.size:=λ c hc=>by obtain ⟨i,e,_,r2,r3⟩:=qb c hc; exact (h.hs.bl i e r2 c r3).2.2
    have eg:=h.B9 (g:=g) gp;obtain ⟨O2,k1,k2,k3⟩:=Py (cap:=m) h.hs.slt (O:=O') (l:=l) (cells:=cs') (by rw [g1',aAw (by omega)]; exact g2) (by omega) pT (by omega) et gX;have hp:G2 [] w (I7 w (.cells cs'.toArray et)):=G2.push _;exact D0.lay hl aP (by rw [<- g1']; rfl) k1 (eg.vC H2.nil hp) (H2.new eg (H2.B9 h.hs qn qb) hp (by simp [I7]) k2 (k3 qn))
   ·trivial
  ·trivial
 ·trivial
theorem SN {P:Program} {k:IntKind} {n:Int}:(asInt (.int k n)).run P w=.ok n w:=by simp [asInt,asIntOf]
theorem b9x (hE:E2 E B) (h:RS B S ι s a w) {o:Oper} {T:TypeId} {x y:Operand} (ho:o.op=.makeSlice T x y):G7 E.P B o a w (Nl E T (s.ev x) (s.ev y) o.dst s):=trivial
theorem b1I (hE:E2 E B) (h:RS B S ι s a w) {o:Oper} {T:TypeId} {x y:Operand} (ho:o.op=.makeSlice T x y):G7 E.P B o a w (n6 E o s):=by
 have he:execOp a.eval o=(do pure (.value (<- Instr.makeSlice T (a.eval x) (a.eval y)))):=by simp [execOp,ho]
 unfold n6;rw [ho];simp only
 split
 ·exact b9x hE h ho
 split
 ·rename_i t bts d k n k' m hT hd hx hy
  refine G7.Js (λ v s' hl hp=>?_);have de:@LE.le Int Int.instLEInt 0 n:=hp.1;have gC:@LE.le Int Int.instLEInt n m:=hp.2.1;have vg:@LE.le Int Int.instLEInt m 140737488355328:=hp.2.2.1;obtain ⟨gy,_⟩:=VX.J6 (D8 h hx);obtain ⟨dN,_⟩:=VX.J6 (D8 h hy);have di:=s7 hE hT;obtain ⟨et,k2,h1,h2,h3⟩:=H9 di;obtain ⟨i,hi,eF,lz⟩:=Y3 h3;have mq:=Mb h3 hi;obtain ⟨M,rfl⟩:∃ M:Nat,m=((M:Nat):Int):=⟨Int.toNat m,(aEb (Int.le_trans de gC)).symm⟩;obtain ⟨N,rfl⟩:∃ N:Nat,n=((N:Nat):Int):=⟨Int.toNat n,(aEb de).symm⟩;have qH:((t.wb:Nat):Int)*(M:Int)<=281474976710656:=by
   have:=hp.2.2.2;have e:((M:Nat):Int)*(t.wb:Nat)=(t.wb:Nat)*(M:Nat):=Int.mul_comm _ _;have:@LE.le Int Int.instLEInt (((M:Nat):Int)*(t.wb:Nat)) 140737488355328:=hp.2.2.2;rw [e] at this;omega
  have jB:(s5 t (zc t)).cells=(zc t).toArray:=(i6.w5 (H:=w.heap) (S:=S) t).cells;have kj:IntKind.i64.wrap (M:Int)=(M:Int):=V2 (by unfold w4; simp [IntKind.min,IntKind.max,IntKind.signed,IntKind.bits]; omega);have ki:IntKind.i64.wrap (N:Int)=(N:Int):=V2 (by unfold w4; simp [IntKind.min,IntKind.max,IntKind.signed,IntKind.bits]; omega);have aP:(Instr.makeSlice T (a.eval x) (a.eval y)).run E.P w=.ok (.slice (some ⟨w.heap.size,0,none⟩) N M) (I7 w (.cells (List.replicate M (zc t)).flatten.toArray et)):=by
   rw [gy,dN];have c1:¬ ((M:Int)<0):=by omega
   have c2:¬ ((N:Int)<0):=by omega
   have c3:¬ ((M:Int)<(N:Int)):=by omega
   have c4:¬ (281474976710656<((t.wb:Nat):Int)*(M:Int)):=by omega
   by_cases h0:M*t.size=0
   ·have:M=0:=by rcases Nat.mul_eq_zero.1 h0 with h|h<;>omega
    subst this;have hN:N=0:=by omega
    subst hN;simp only [Instr.makeSlice,Sem.run_bind,x8 h1,Result.andThen,SN,typeInfo,kj];have r0:Array.range 0=(#[]:Array Nat):=rfl;simp [run_sizeOf h3,newRow,newObj,Sem.run,I7,Result.andThen,hi,r0]
   ·have hq:=Ki (zc t) M
    rw [T5] at hq;simp only [Instr.makeSlice,Sem.run_bind,x8 h1,Result.andThen,SN,typeInfo,kj,ki];simp [c1,c2,c3,c4,run_sizeOf h3,h0,CJ h3,jB,Result.andThen,newRow,newObj,Sem.run,I7,hi,mq];congr 2;rw [<- hq];apply aGz;simp [T5]
  have eg:=h.B9 (g:=[]) rfl;obtain ⟨O2,k1,k2',k3⟩:=Py (cap:=M) h.hs.slt (O:=[]) (l:=List.replicate N t.w5) (cells:=(List.replicate M (zc t)).flatten) (by
   have e:(List.replicate M (zc t)).flatten=(List.replicate N (zc t)).flatten++(List.replicate (M - N) (zc t)).flatten:=by
    rw [<- List.flatten_append,List.replicate_append_replicate]; congr 2; omega
   rw [e,aDd (by simp [T5])];exact j5.Ie N) (by simp; omega) (by unfold maxLen; omega) (by simp [T5]) et (by simp)
  have cI:G2 [] w (I7 w (.cells (List.replicate M (zc t)).flatten.toArray et)):=G2.push _;exact D0.lay hl (Q9 he aP) (by simp [s5,Ty.agg]) k1 (eg.vC H2.nil cI) (H2.new eg H2.nil cI (by simp [I7]) k2' (k3 aAy))
 ·trivial
end
end Go.Ex
namespace Go.Ex
section
variable {E:Env} {B:F5} {S S':Nat->Prop} {ι:Ix} {s:St} {a:Act} {w:World} {hp:List (Nat×g9)} {H H':Array Go.Obj}
theorem QZ:∀ {t:Ty} {x:t.den} {p:List Step} {u:Ty} {y:u.den} {r:Sigma Ty.den},w7 t x p u y=some r->xZ p=false->r.1=t:=by
 intro t
 induction t with
 | pair a c iha ihc =>
  intro x p u y r h hf
  match p,h,hf with
  | [],_,hf=>cases hf
  | .m0 0::p,h,hf =>
   simp only [w7] at h;split at h
   ·rename_i t' w hw; cases h; exact congrArg (Ty.pair · c) (iha (r:=⟨t',w⟩) hw hf)
   ·cases h
  | .m0 (n+1)::p,h,hf =>
   simp only [w7] at h;split at h
   ·rename_i t' w hw; cases h; exact congrArg (Ty.pair a) (ihc (r:=⟨t',w⟩) hw hf)
   ·cases h
  | .idx i::p,h,_=>simp [w7] at h
 | arr n t ih =>
  intro x p u y r h hf
  match p,h,hf with
  | [],_,hf=>cases hf
  | .idx i::p,h,_ =>
   simp only [w7] at h;split at h
   ·split at h
    ·cases h; rfl
    ·cases h
   ·cases h
  | .m0 i::p,h,_=>simp [w7] at h
 | d0 o t ih =>
  intro x p u y r h hf
  match p,h,hf with
  | [],_,hf=>cases hf
  | .idx i::p,h,_ =>
   cases o with
   | false=>simp [w7] at h
   | true =>
    simp only [w7] at h;split at h
    ·split at h
     ·cases h; rfl
     ·cases h
    ·cases h
  | .m0 i::p,h,_=>cases o<;>simp [w7] at h
 | _ =>
  intro x p u y r h hf
  match p,h,hf with
  | [],_,hf=>cases hf
  | .idx i::p,h,_=>simp [w7] at h
  | .m0 i::p,h,_=>simp [w7] at h
theorem OB.zV {i:Nat} {e:g9} (ho:OB H S ι i e) (he:e≠.N0) (hS:∀ c,S c->c<H.size) {p:List Step} (aH:C1 e.ty e.x p) {u:Ty} {y:u.den} (hg:j9 e.ty e.x p=some ⟨u,y⟩) {b off:Nat} (hl:Loc H ι i e p=some (b,off))
  {Op:List Nat} (fJ:i6 H S u Op (e8 H b off u.size) y):b∉Op:=by
 obtain ⟨h1,h2⟩:=E0 hl;obtain ⟨O,hO,hR,hb,aK,bf,gB,dZ⟩:=ho.see he hS;obtain ⟨O1,O2,b',ar,e1,e2,e3,e4,e5,e6⟩:=focus hR hb aH hg
 rw [J1 he,e3] at h1; cases h1;have hm:∀ c,c∈O1\/c∈O2->c∈ι.own i:=λ c hc=>hO.mem_iff.1 (e1.mem_iff.2 (by simpa using hc));have lq:∀ c∈O2,c<H.size:=λ c hc=>ho.V6 he (hm c (.inr hc));have k:=(wN (e:=e) (ι:=ι) (i:=i) lq hS).1 e4;rw [l7 (H7 h2)] at k;have hd:=i6.det k fJ;subst hd;rcases e6 with ⟨rfl,_⟩|⟨g1,_⟩
 ·intro hb; exact (aAt.1 aK).1 (hm _ (.inr hb))
 ·intro hb
  have:=(e1.nodup_iff).1 ((hO.nodup_iff).2 (aAt.1 aK).2);exact (aAg.1 this).2.2 _ g1 _ hb rfl
theorem Zs {d i:Nat}:∀ {v:AV},v.i8 d=false->(v.drop i).i8 d=false:=by
 intro v
 induction v with
 | cons a b iha ihb=>intro h; simp only [AV.i8,aBx] at h; simp only [AV.drop,AV.map,AV.i8,aBx]; exact ⟨iha h.1,ihb h.2⟩
 | M9 l ih=>intro h; exact ih h
 | D9 f l ih=>intro h; exact ih h
 | bx l ih=>intro h; exact ih h
 | rc f l ih=>intro h; exact ih h
 | ptr j p=>intro h; simp only [AV.drop,AV.map]; split<;>first|rfl|exact h
 | at_ j p=>intro h; simp only [AV.drop,AV.map]; split<;>first|rfl|exact h
 | sub j p x y=>intro h; simp only [AV.drop,AV.map]; split<;>first|rfl|exact h
 | _=>intro h; rfl
theorem MN {d:Nat}:∀ {g:List Nat} {s:St},wP d s.fr=true->wP d (St.B9 g s).fr=true
 | [],_,h=>h
 | i::g,s,h=>MN (g:=g) (s:=s.drop i) (by
  simp only [St.drop];generalize s.fr=fr at h
  induction fr with
  | nil=>rfl
  | cons q l ih =>
   obtain ⟨n,v⟩:=q;simp only [wP,aAa,aAu] at h;simp only [mapA,wP,aAa,aAu];exact ⟨Zs h.1,ih h.2⟩)
theorem Yq:∀ {t:Ty} {p:List Step} {b off:Nat} {G:Array Go.Obj} {r:Nat×Nat},xZ p=true->C6 G t p b off=some r->r.1=b:=by
 intro t
 induction t with
 | pair a c iha ihc =>
  intro p b off G r h hn
  match p,h,hn with
  | [],_,hn=>rw [C8] at hn; cases hn; rfl
  | .m0 0::p,h,hn=>exact iha (p:=p) h hn
  | .m0 (n+1)::p,h,hn=>exact ihc (p:=.m0 n::p) h hn
  | .idx i::p,h,_=>cases h
 | d0 o t ih =>
  intro p b off G r h hn
  match p,h,hn with
  | [],_,hn=>rw [C8] at hn; cases hn; rfl
  | .m0 i::p,_,hn=>cases o<;>simp [C6] at hn
  | .idx i::p,h,_=>cases h
 | _ =>
  intro p b off G r h hn
  match p,h,hn with
  | [],_,hn=>rw [C8] at hn; cases hn; rfl
  | .m0 i::p,_,hn=>simp [C6] at hn
  | .idx i::p,h,_=>cases h
theorem PQ {i:Nat} {e:g9} {p:List Step} {r:Nat×Nat} (hl:Loc H ι i e p=some r) (he:e.vQ=true):xZ p=false:=by
 obtain ⟨h1,h2⟩:=E0 (b:=r.1) (off:=r.2) hl;cases hf:xZ p with
 | false=>rfl
 | true =>
  exfalso;cases e with
  | own t x =>
   rw [J1 (by simp)] at h1;have:=Yq hf h1;simp only [VR] at this;omega
  | _=>cases he
theorem Bd (hE:E2 E B) (h:RS B S ι s a w) {o:Oper} {T:TypeId} {x y:Operand} (ho:o.op=.store T x y) {i:Nat} {e:g9} (h1:look i s.hp=some e) {p:List Step} (h2:C1 e.ty e.x p) {b off:Nat} (h3:Loc w.heap ι i e p=some (b,off)) (h4:a.eval x=.pointer (some ⟨b,off,none⟩))
  {u:Ty} {y0:u.den} (hg:j9 e.ty e.x p=some ⟨u,y0⟩) (bB:K0 E T u=true) {u':Ty} {z:u'.den} {O2:List Nat} {cs:List Value} {r:Sigma Ty.den}
  (hz:i6 w.heap S u' O2 cs z) (aK:O2.Nodup) (tS:a.eval y=s5 u' cs) (aI:w7 e.ty e.x p u' z=some r)
  (eY:∀ c∈O2,(¬ S c/\(B.w0.heap.size<=c\/B.M c)/\c<w.heap.size)/\(∀ j ej,j≠i->look j s.hp=some ej->c∉l8 ι j ej)/\(c∈l8 ι i e->∃ Op,i6 w.heap S u Op (e8 w.heap b off u.size) y0/\c∈Op)) (bP:b∉O2) :
  D0 E.P B o a w (.raw undef) ((s.kill i e.kd p).y9 i (e.F1 r)):=by
 intro next Q hn
 obtain ⟨Op,m1,mn,m2,m3,m4,m5⟩:=P6 (M6 h3) (h.hs.ob i e h1) h.hs.slt h2 hg h3;have cj:=Dl hg aI;have ir:¬ S b:=(h.hs.bl i e h1 b m4).1;obtain ⟨ι',cv⟩:=h.store h1 h2 hg h3 (u':=u') (z:=z) (cs:=cs) (O2:=O2) (λ H' aW hc=>hz.x7 (λ c dJ=>hc.rest c (by
   rintro rfl;rcases dJ with dJ|dJ
   ·exact bP dJ
   ·exact ir dJ) (by
   rcases dJ with dJ|dJ
   ·exact (eY c dJ).1.2.2
   ·exact h.hs.slt c dJ)) (λ _ h=>h)) (by rw [hz.length,H4 cj]) aK eY aI (λ bC _=>QZ aI (PQ h3 bC))
 unfold Oper.wp;have aP:(execOp a.eval o).run E.P w=.ok .skip (w.setRow b (over (y8 w.heap b) off cs).toArray):=by
  simp [execOp,ho,h4,tS,Instr.storeAt,Instr.sureAddr,MF (E5 hE bB) cj m5 hz]
 rw [aP];exact hn S ι' _ undef cv rfl
theorem Kx:∀ t:Ty,t.wD.sh=t.sh:=by
 intro t
 induction t with
 | pair a b iha ihb=>simp only [Ty.wD,Ty.sh,iha,ihb]
 | d0 o t ih=>cases o<;>rfl
 | _=>rfl
theorem i6.wD {H:Array Go.Obj} {S:Nat->Prop}:∀ {u:Ty} {O:List Nat} {cs:List Value} {y:u.den},i6 H S u O cs y->u.wD.shared=true->i6 H S u.wD [] cs (Ep u y):=by
 intro u
 induction u with
 | pair a b iha ihb =>
  rintro O cs y ⟨O1,O2,rfl,h1,h2⟩ hs;simp only [Ty.wD,Ty.shared,aAa] at hs;have ea:a.wD.size=a.size:=H4 (Kx a);have eb:b.wD.size=b.size:=H4 (Kx b);exact ⟨[],[],rfl,by rw [ea]; exact iha h1 hs.1,by rw [ea]; exact ihb h2 hs.2⟩
 | d0 o t ih =>
  intro O cs y h hs;cases o with
  | true =>
   rcases h with ⟨_,⟨a,c,rfl,_⟩,_⟩|⟨b,off,cap,O',rfl,_⟩
   ·exact ⟨rfl,_,rfl,rfl⟩
   ·exact ⟨rfl,_,rfl,rfl⟩
  | false =>
   have hn:=h.Q8 hs;subst hn; exact h
 | arr n t ih =>
  intro O cs y h hs;have hn:=h.Q8 hs;subst hn; exact h
 | map o k v =>
  intro O cs y h hs;have hn:=h.Q8 hs;subst hn; exact h
 | box o g t =>
  intro O cs y h hs;have hn:=h.Q8 hs;subst hn; exact h
 | _ =>
  intro O cs y h hs;have hn:=h.Q8 hs;subst hn; exact h
theorem ZV {H:Array Go.Obj} {S:Nat->Prop} {u:Ty} {q:Sigma Ty.den} {O:List Nat} {cs:List Value} (h:i6 H S q.1 O cs q.2):i6 H S (yh u q).1 O cs (yh u q).2/\(yh u q).1.agg=q.1.agg/\(yh u q).1.size=q.1.size:=by
 obtain ⟨t,z⟩:=q;cases u with
 | D4 a =>
  cases t with
  | d0 o b =>
   by_cases e:b=a
   ·subst e
    cases o with
    | false=>rw [show yh (.D4 b) ⟨.d0 false b,z⟩=⟨.D4 b,(0,z,[])⟩ from dif_pos rfl]; exact ⟨h,rfl,rfl⟩
    | true=>rw [show yh (.D4 b) ⟨.d0 true b,z⟩=⟨.D4 b,(1,z,[])⟩ from dif_pos rfl]; exact ⟨h,rfl,rfl⟩
   ·cases o with
    | false=>rw [show yh (.D4 a) ⟨.d0 false b,z⟩=⟨.d0 false b,z⟩ from dif_neg e]; exact ⟨h,rfl,rfl⟩
    | true=>rw [show yh (.D4 a) ⟨.d0 true b,z⟩=⟨.d0 true b,z⟩ from dif_neg e]; exact ⟨h,rfl,rfl⟩
  | _=>exact ⟨h,rfl,rfl⟩
 | _=>exact ⟨h,rfl,rfl⟩
theorem RE {H:Array Go.Obj} {S:Nat->Prop}:∀ {u:Ty} {q:Sigma Ty.den} {O:List Nat} {cs:List Value},i6 H S q.1 O cs q.2->i6 H S (S6 u q).1 O cs (S6 u q).2/\(S6 u q).1.agg=q.1.agg/\(S6 u q).1.size=q.1.size:=by
 intro u
 induction u with
 | D4 a=>intro q O cs h; exact ZV h
 | pair a b iha ihb =>
  rintro ⟨t,z⟩ O cs h;cases hm:a.Ak || b.Ak with
  | false =>
   have:S6 (.pair a b) ⟨t,z⟩=⟨t,z⟩:=by simp only [S6,hm]
   rw [this]; exact ⟨h,rfl,rfl⟩
  | true =>
   cases t with
   | pair c d =>
    have e:S6 (.pair a b) ⟨.pair c d,z⟩=⟨.pair (S6 a ⟨c,z.1⟩).1 (S6 b ⟨d,z.2⟩).1,((S6 a ⟨c,z.1⟩).2,(S6 b ⟨d,z.2⟩).2)⟩:=by
     simp only [S6,hm]
    rw [e];obtain ⟨O1,O2,rfl,h1,h2⟩:=h;obtain ⟨k1,_,k3⟩:=iha (q:=⟨c,z.1⟩) h1;obtain ⟨m1,_,m3⟩:=ihb (q:=⟨d,z.2⟩) h2;have k3:(S6 a ⟨c,z.1⟩).1.size=c.size:=k3;have m3:(S6 b ⟨d,z.2⟩).1.size=d.size:=m3;refine ⟨⟨O1,O2,rfl,?_,?_⟩,rfl,?_⟩
    ·rw [k3]; exact k1
    ·rw [k3]; exact m1
    ·simp only [Ty.size,k3,m3]
   | _ =>
    have:∀ r:Sigma Ty.den,r=⟨_,z⟩->S6 (.pair a b) r=r:=by
     rintro r rfl;simp only [S6,hm]
    rw [this _ rfl]; exact ⟨h,rfl,rfl⟩
 | _=>intro q O cs h; exact ⟨h,rfl,rfl⟩
theorem Rc {H:Array Go.Obj} {S:Nat->Prop} {u:Ty} {q:Sigma Ty.den} {O:List Nat} {cs:List Value} (h:i6 H S q.1 O cs q.2):i6 H S (S6 u q).1 O cs (S6 u q).2/\(S6 u q).1.agg=q.1.agg :=
 ⟨(RE h).1,(RE h).2.1⟩
theorem b59 (hE:E2 E B) (h:RS B S ι s a w) {o:Oper} {T:TypeId} {x y:Operand} (ho:o.op=.store T x y) {i:Nat} {p:List Step} (hx:s.ev x=.ptr i p):G7 E.P B o a w (S5 E T i p (s.ev y) s):=by
 obtain ⟨e,b,off,h1,h2,h3,h4⟩:=D8 h hx;have h4:a.eval x=.pointer (some ⟨b,off,none⟩):=by simpa using h4
 unfold S5
 split
 ·trivial
 ·rename_i e' aT
  obtain rfl:=xy h1 aT
  split
  ·trivial
  ·rename_i u y0 hg
   obtain ⟨Op,m1,mn,m2,m3,m4,m5⟩:=P6 (M6 h3) (h.hs.ob i e' h1) h.hs.slt h2 hg h3
   split
   ·trivial
   ·rename_i bB
    split
    ·rename_i hy
     have rl:=D8 h hy
     split
     ·rename_i o' u' _
      split
      ·rename_i r aI
       refine Bd hE h ho h1 h2 h3 h4 hg bB (u':=.d0 o' u') (z:=([]:List u'.den)) (O2:=[]) (cs:=[.slice none 0 0]) (.inl ⟨rfl,⟨none,0,rfl,λ _=>rfl⟩,rfl⟩) aAy ?_ aI (by simp) (by simp);have:[a.eval y]=[Value.slice none 0 0]:=rl;simpa [s5,Ty.agg] using this
      ·trivial
     ·rename_i a' _
      split
      ·rename_i r aI
       refine Bd hE h ho h1 h2 h3 h4 hg bB (u':=.D4 a') (z:=(1,([],[]))) (O2:=[]) (cs:=[.slice none 0 0]) (.inl ⟨rfl,⟨none,0,rfl,λ _=>rfl⟩,rfl⟩) aAy ?_ aI (by simp) (by simp);have:[a.eval y]=[Value.slice none 0 0]:=rl;simpa [s5,Ty.agg] using this
      ·trivial
     ·trivial
    ·rename_i j q lo hi hy
     split
     ·rename_i u' y1
      split
      ·rename_i r aI
       split
       ·rename_i bS
        have bS:=aAe bS;subst bS;rintro ⟨rfl,_⟩;obtain ⟨e2,v2,k1,k2,k3,k4,k5,k6⟩:=D8 h hy;rw [h1] at k1; cases k1;rcases k6 with ⟨t',l,A,cap,q1,q2,q3,q4⟩|⟨n,t',l,b2,off2,q1,_⟩
        ·rw [hg] at q1; cases q1
         obtain ⟨b0,off0,r1,r2⟩:=q3;obtain ⟨r3,r4⟩:=E0 h3;rw [r3] at r1; cases r1;rw [l7 (H7 r4)] at r2;have m2':i6 w.heap S (.d0 true u') Op [.slice A (List.length y1) cap] y1:=by rw [r2]; exact m2
         obtain ⟨O,cs,g1,g2,g3,g4⟩:=OJ m2' mn k4 k5 q2 q4;have k3:a.eval y=v2:=by simpa using k3
         refine Bd hE h ho h1 h2 h3 h4 hg bB (u':=.d0 true u') (z:=o6 lo hi y1) g2 g3 (by rw [k3,g1]) aI (λ c hc=>?_) ?_
         ·have eh:=m1 c (g4 c hc)
          exact ⟨h.hs.bl i e' h1 c (J8 eh),λ j ej hj dp=>h.hs.dj i j e' ej h1 dp (Ne.symm hj) c (J8 eh),λ _=>⟨Op,m2,g4 c hc⟩⟩
         ·intro hb
          have:=(h.hs.ob i e' h1).zV (M6 h3) h.hs.slt h2 hg h3 m2;exact this (g4 b hb)
        ·rw [hg] at q1; cases q1
       ·trivial
      ·trivial
     ·trivial
    ·rename_i xv _ _
     split
     ·rename_i q g cU
      split
      ·rename_i r aI
       split
       ·rename_i lF
        simp only [aAa,aAu] at lF;obtain ⟨⟨ez,iE⟩,cC⟩:=lF;have ez:i∉g:=by
         intro hm;simp [hm] at ez
        obtain ⟨O2,cs,k1,k2,k3,k4⟩:=FI h.hs (t:=q.1) (x:=q.2) cU (h.ev y);obtain ⟨k2,kf⟩:=Rc (u:=u) k2;rw [<- CC kf] at k1;have hd:=h.B9 (g:=g) cC;have jR:look i (St.B9 g s).hp=some e':=by rw [K7,if_neg ez]; exact h1
        have br:∀ c∈O2,∀ j ej,j∉g->look j s.hp=some ej->c∉l8 ι j ej:=by
         intro c hc j ej hj dp;obtain ⟨j2,e2,q1,q2,q3⟩:=k4 c hc;exact h.hs.dj j2 j e2 ej q2 dp (by rintro rfl; exact hj q1) c q3
        refine Bd hE hd ho jR h2 h3 h4 hg bB k2 k3 k1 aI (λ c hc=>?_) (λ hb=>br b hb i e' ez h1 m4);obtain ⟨j2,e2,q1,q2,q3⟩:=k4 c hc;refine ⟨h.hs.bl j2 e2 q2 c q3,λ j ej hj dp=>?_,λ kJ=>absurd kJ (br c hc i e' ez h1)⟩;rw [K7] at dp;split at dp
        ·cases dp
        ·rename_i gl; exact br c hc j ej gl dp
       ·trivial
      ·trivial
     ·split
      ·rename_i j q hy
       split
       ·rename_i u' y' cT
        split
        ·rename_i r aI
         split
         ·rename_i hc
          simp only [aAa] at hc;obtain ⟨e2,u2,y2,cs,k1,k2,k3,k4,k5⟩:=D8 h hy;have gN:=J5 k1 cT;rw [k3] at gN; cases gN;obtain ⟨O2,g1,_,g2⟩:=I2 h.hs k1 k2 k3 k4;exact Bd hE h ho h1 h2 h3 h4 hg bB (g2.wD hc.1.1) aAy (by rw [Ja (Kx _)]; simpa using k5) aI (by simp) (by simp)
         ·trivial
        ·trivial
       ·trivial
      ·trivial
theorem c4P (_hE:E2 E B) (h:RS B S ι s a w) {o:Oper} {T:TypeId} {x:Operand} (ho:o.op=.box T x):G7 E.P B o a w (n6 E o s):=by
 unfold n6;rw [ho];simp only
 split
 ·rename_i t d ht hd
  split
  ·rename_i hf
   have core:∀ {u:Ty} {y:u.den} {O:List Nat} {cs:List Value} {g:List Nat},i6 w.heap S u O cs y->a.eval x=s5 u cs->(g.all λ i=>!pinned i)=true->d∉g->H2 B S ι (St.B9 g s).hp w O->D0 E.P B o a w (.ptr d []) ((St.B9 g s).y9 d (.var u y)):=by
    intro u y O cs g hR e hg vk hF next Q hn
    unfold Oper.wp;have:(execOp a.eval o).run E.P w=.ok (.value (.pointer (some ⟨w.heap.size,0,none⟩))) (I7 w (.cells cs.toArray T)):=by
     simp [execOp,ho,Instr.box,e,newVar,newRow,newObj,Sem.run,I7,hR.cells]
    rw [this];have tP:(St.B9 g s).fresh d=true:=by
     obtain ⟨f1,f2⟩:=FG hf;simp only [St.fresh,aAa,aCr];refine ⟨by rw [K7]; split<;>first|rfl|exact f1,?_⟩;exact MN (by simp only [St.fresh,aAa] at hf; exact hf.2)
    exact hn S _ _ _ ((h.B9 hg).alloc tP hR hF T) (JM (by simp [I7]))
   split
   ·rename_i u y g cU
    split
    ·rename_i hs
     split
     ·rename_i lF
      simp only [aAa,aAu] at lF;obtain ⟨⟨iE,qj⟩,cC⟩:=lF;obtain ⟨O2,cs,k1,k2,k3,k4⟩:=FI h.hs cU (h.ev x);exact core k2 k1 cC (by intro hm; simp [hm] at qj) (H2.B9 h.hs k3 k4)
     ·trivial
    ·trivial
   ·split
    ·rename_i o' u hx _
     have hv:[a.eval x]=[Value.slice none 0 0]:=D8 h hx;exact core (g:=[]) (cs:=[.slice none 0 0]) (u:=.d0 o' u) (y:=([]:List u.den)) (O:=[]) (.inl ⟨rfl,⟨none,0,rfl,λ _=>rfl⟩,rfl⟩) (by simpa [s5,Ty.agg] using hv) rfl (by simp) H2.nil
    ·rename_i i p o0 t0 hx _
     intro next Q hn
     obtain ⟨e,b,off,k1,k2,k3,k4⟩:=D8 h hx;have k4:a.eval x=.pointer (some ⟨b,off,none⟩):=by simpa using k4
     unfold Oper.wp;have:(execOp a.eval o).run E.P w=.ok (.value (.pointer (some ⟨w.heap.size,0,none⟩))) (I7 w (.cells #[.pointer (some ⟨b,off,none⟩)] T)):=by
      simp [execOp,ho,Instr.box,k4,newVar,newRow,newObj,Sem.run,I7,Value.cells]
     rw [this];have h1:=h.vC H2.nil (G2.push (.cells #[.pointer (some ⟨b,off,none⟩)] T));have h2:=h1.share (S':=λ c=>S c\/c=w.heap.size) (λ _ h=>.inl h) (λ c hc=>by
      rcases hc with hc|rfl
      ·exact .inl hc
      ·exact .inr ⟨.inl h.hs.size,by simp [I7],λ j ej hj hb=>aCk _ (h.hs.bl j ej hj _ hb).2.2⟩)
     have hb:y8 (I7 w (.cells #[.pointer (some ⟨b,off,none⟩)] T)).heap w.heap.size=[.pointer (some ⟨b,off,none⟩)]:=by
      simp only [y8,I7,Array.getElem?_push_size]
     refine hn _ _ _ _ h2 ⟨w.heap.size,0,.pointer (some ⟨b,off,none⟩),rfl,.inr rfl,by rw [hb]; simp,by rw [e8,hb]; rfl,?_⟩;have h3:=h2.ev x;rw [hx,k4] at h3;exact h3
    ·trivial
  ·trivial
 ·trivial
end
end Go.Ex
namespace Go.Ex
section
variable {E:Env} {B:F5} {S S':Nat->Prop} {ι:Ix} {s:St} {a:Act} {w:World} {hp:List (Nat×g9)} {H H':Array Go.Obj}
theorem Uf {P:Program} {k:Nat} {T U:TypeId} {t:Ty} (hT:r8 P k T (.d0 true t)=true) (ty:TypeId) (hS:∀ c,S c->c<w.heap.size)
  {base:Option Addr} {cap:Nat} {l m:List t.den} {O1 Og:List Nat} {x:Value} {olds news:List Value}
  (hold:(Builtin.firstCells t.size l.length (.slice base l.length cap)).run P w.drew=.ok olds.toArray w.drew) (hL:j5 (i6 w.heap S t) t.size O1 olds l)
  (hs:Src P t.size U x m.length news w) (hN:j5 (i6 w.heap S t) t.size Og news m) (aK:(O1++Og).Nodup) (hO:∀ c∈O1++Og,c<w.heap.size)
  (cR:cap<l.length+m.length) (jj:l.length+m.length<=140737488355328) (ig:(l.length+m.length)*t.wb<=140737488355328) :
  ∃ v' w' O',(Builtin.append_ #[T,U] ty #[.slice base l.length cap,x]).run P w=.ok v' w'/\i6 w'.heap S (.d0 true t) O' [v'] (l++m)/\O'.Nodup/\G2 [] w w'/\w.heap.size<w'.heap.size/\∀ c∈O',(c=w.heap.size\/c∈O1++Og)/\c<w'.heap.size:=by
 obtain ⟨et,k2,h1,h2,h3⟩:=H9 hT;obtain ⟨i,hi,eF,lz⟩:=Y3 h3;have mq:=Mb h3 hi;have jR:olds.length=l.length*t.size:=j5.length (λ _ _ _ h=>h.length) hL;have mo:news.length=m.length*t.size:=j5.length (λ _ _ _ h=>h.length) hN;have kG:=grownCap_ge w (l.length+m.length) cap et;have gg:=grownCap_le_maxLen w (l.length+m.length) cap et (by unfold maxLen; omega);have jB:(s5 t (zc t)).cells=(zc t).toArray:=(i6.w5 (H:=w.heap) (S:=S) t).cells;have aP:=run_append_grow_src (P:=P) w T U ty et i (s5 t (zc t)) h1 hi lz base l.length cap olds (by rw [eF]; exact hold) x m.length news (by rw [eF]; exact hs) cR (by omega) (by rw [mq]; exact growslice_fits cR ig);generalize lF:grownCap w (l.length+m.length) cap et=gc at aP kG gg;have bn:G2 [] w (w.drew.alloc (.cells ((olds++news).toArray++Builtin.zeroCells (s5 t (zc t)).cells (gc - (l.length+m.length))) et)) :=
  G2.trans G2.drew (G2.push _) (by simp)
 have cH:((olds++news).toArray++Builtin.zeroCells (s5 t (zc t)).cells (gc - (l.length+m.length)))=((olds++news)++(List.replicate (gc - (l.length+m.length)) (zc t)).flatten).toArray:=by
  rw [jB,Gq]; simp
 rw [cH] at aP bn;have bf:(l++m).length=l.length+m.length:=aAd;obtain ⟨O',q1,q2,q3⟩:=Fu (w:=w) (t:=t) (l:=l++m) (cap:=gc) hS (O:=O1++Og) (cells:=(olds++news)++(List.replicate (gc - (l.length+m.length)) (zc t)).flatten) (by
  rw [bf,aDd (by rw [aAd,jR,mo,aBp])];exact j5.append (λ _ _ _ h=>h.length) hL hN) (by rw [bf]; exact kG) gg (by
  simp only [aAd,jR,mo,aHy,List.map_replicate,aHg,T5];rw [<- aBp,<- aBp]; exact aAm _ (by omega)) et hO (w':=w.drew.alloc (.cells ((olds++news)++(List.replicate (gc - (l.length+m.length)) (zc t)).flatten).toArray et)) rfl (.inl rfl)
 have aW:(w.drew.alloc (.cells ((olds++news)++(List.replicate (gc - (l.length+m.length)) (zc t)).flatten).toArray et)).heap.size=w.heap.size+1:=by
  show (w.heap.push _).size=_;simp
 refine ⟨_,_,O',aP,?_,q3 aK,bn,by omega,λ c hc=>⟨q2 c hc,?_⟩⟩
 ·rw [bf] at q1; exact q1
 ·rcases q2 c hc with rfl|h
  ·omega
  ·have:=hO c h; omega
theorem b9v {P:Program} {k:Nat} {T U:TypeId} {t:Ty} (hT:r8 P k T (.d0 true t)=true) (ty:TypeId)
  {b off cap:Nat} {l m:List t.den} {O1 Og:List Nat} {x:Value} {news:List Value}
  (hl:l.length<=cap) (eh:cap<=maxLen) (gr:W3 t.isB w.heap b (off+cap*t.size)) (hL:j5 (i6 w.heap S t) t.size O1 (e8 w.heap b off (l.length*t.size)) l)
  (hs:Src P t.size U x m.length news w) (hN:j5 (i6 w.heap S t) t.size Og news m) (aK:(b::O1++Og).Nodup) (oJ:¬ S b)
  (cy:l.length+m.length<=cap) (lY:1<=cap) :
  ∃ w',(Builtin.append_ #[T,U] ty #[.slice (some ⟨b,off,none⟩) l.length cap,x]).run P w=.ok (.slice (some ⟨b,off,none⟩) (l.length+m.length) cap) w' /\
   X7 w.heap w'.heap b (off+l.length*t.size) news.length/\w'.heap.size=w.heap.size/\i6 w'.heap S (.d0 true t) (b::(O1++Og)) [.slice (some ⟨b,off,none⟩) (l.length+m.length) cap] (l++m)/\G2 [b] w w' /\
   i6 w'.heap S (.d0 true t) (b::O1) [.slice (some ⟨b,off,none⟩) l.length cap] l:=by
 obtain ⟨et,k2,h1,h2,h3⟩:=H9 hT;obtain ⟨i,hi,eF,lz⟩:=Y3 h3;have mo:news.length=m.length*t.size:=j5.length (λ _ _ _ h=>h.length) hN;have hle:l.length*t.size+m.length*t.size<=cap*t.size:=by rw [<- aBp]; exact aAm _ cy
 have bf:(l++m).length=l.length+m.length:=aAd;obtain ⟨arr,T',⟨fz,e,ef⟩,hn⟩:=gr;have bQ:y8 w.heap b=arr.toList:=by simp only [y8,e]
 have bO:=Gy (P:=P) b (off+l.length*t.size) T' fz news 0 arr w ⟨e,ef.imp id (·.2)⟩ (by omega) hs.one;simp only [aDu] at bO;have iT:arr.toList.take (off+l.length*t.size)++news++arr.toList.drop (off+l.length*t.size+news.length)=over (y8 w.heap b) (off+l.length*t.size) news:=by rw [bQ]; rfl
 rw [iT] at bO;have aP:(Builtin.append_ #[T,U] ty #[.slice (some ⟨b,off,none⟩) l.length cap,x]).run P w=.ok (.slice (some ⟨b,off,none⟩) (l.length+m.length) cap) (w.setRow b (over (y8 w.heap b) (off+l.length*t.size) news).toArray):=by
  rw [<- eF] at hs bO ⊢;rcases hs.kind with ⟨e',hk⟩|hk<;>simp [Builtin.append_,run_underlying h1,run_underlying hk,sizeOf,typeInfo,hi,hs.len,cy,hs.cells,Addr.add_lit,bO]
 obtain ⟨hc,cG⟩:=FU (w:=w) (b:=b) (off:=off+l.length*t.size) (cs:=news) ⟨arr,T',⟨fz,e,ef.imp id (·.2)⟩,by omega⟩;have dR:b<w.heap.size:=(aAp.1 e).1;have pO:=(aAt.1 (by simpa using aK:(b::(O1++Og)).Nodup));have hold:e8 (w.setRow b (over (y8 w.heap b) (off+l.length*t.size) news).toArray).heap b off (l.length*t.size)=e8 w.heap b off (l.length*t.size):=hc.cells dR (λ _=>.inl (aAk _));have bO:∀ {O:List Nat} {cs:List Value} {y:t.den},(∀ c∈O,c∈O1++Og)->i6 w.heap S t O cs y->i6 (w.setRow b (over (y8 w.heap b) (off+l.length*t.size) news).toArray).heap S t O cs y:=by
  intro O cs y hO hr;refine hr.x7 (λ c cX=>setRow_other ?_) (λ _ h=>h);intro cD;rw [cD] at cX;rcases cX with h|h
  ·exact pO.1 (hO _ h)
  ·exact oJ h
 have dZ:W3 t.isB (w.setRow b (over (y8 w.heap b) (off+l.length*t.size) news).toArray).heap b (off+cap*t.size):=hc.HY ⟨arr,T',⟨fz,e,ef⟩,hn⟩;refine ⟨_,aP,hc,setRow_size,?_,⟨rfl,.of rfl rfl,rfl,by rw [setRow_size]; exact aAk _,λ c cK cD=>setRow_other (by simpa using cD)⟩,?_⟩
 rotate_left
 ·refine .inr ⟨b,off,cap,O1,rfl,hl,⟨eh,λ _=>lY⟩,?_,?_,rfl,dZ⟩
  ·have:=dZ.free.y8
   have:=aAm t.size hl;omega
  ·rw [hold]
   exact j5.mono (L:=O1) (λ _ h=>h) (λ O cs y hO hr=>bO (λ c hc=>by simp [hO c hc]) hr) hL
 refine .inr ⟨b,off,cap,O1++Og,by rw [bf],by rw [bf]; exact cy,⟨eh,λ _=>lY⟩,?_,?_,rfl,dZ⟩
 ·have:=dZ.free.y8
  rw [bf,aBp]; omega
 ·rw [bf,aBp,Mr,hold,<- mo,cG]
  exact j5.append (λ _ _ _ h=>h.length) (j5.mono (L:=O1) (λ _ h=>h) (λ O cs y hO hr=>bO (λ c hc=>by simp [hO c hc]) hr) hL) (j5.mono (L:=Og) (λ _ h=>h) (λ O cs y hO hr=>bO (λ c hc=>by simp [hO c hc]) hr) hN)
theorem SY {P:Program} {k:Nat} {T U:TypeId} {t:Ty} (hT:r8 P k T (.d0 true t)=true) (ty:TypeId) (hS:∀ c,S c->c<w.heap.size)
  {v:Value} {l m:List t.den} {Of Og:List Nat} {x:Value} {news:List Value}
  (hR:i6 w.heap S (.d0 true t) Of [v] l) (hs:Src P t.size U x m.length news w) (hN:j5 (i6 w.heap S t) t.size Og news m)
  (aK:(Of++Og).Nodup) (hO:∀ c∈Of++Og,¬ S c/\c<w.heap.size)
  (jj:l.length+m.length<=140737488355328) (ig:(l.length+m.length)*t.wb<=140737488355328) :
  ∃ v' w' O',(Builtin.append_ #[T,U] ty #[v,x]).run P w=.ok v' w'/\i6 w'.heap S (.d0 true t) O' [v'] (l++m)/\O'.Nodup/\G2 Of w w'/\(∀ c∈O',(w.heap.size<=c\/c∈Of++Og)/\c<w'.heap.size)/\i6 w'.heap S (.d0 true t) Of [v] l /\
   (G2 [] w w'\/∃ b off cap n,v=.slice (some ⟨b,off,none⟩) l.length cap/\l.length<=cap/\1<=cap/\X7 w.heap w'.heap b (off+l.length*t.size) n/\w'.heap.size=w.heap.size):=by
 have eX:=hR;rcases hR with ⟨rfl,⟨A,c,e,hc⟩,rfl⟩|⟨b,off,cap,O1,e,c2,c3,c4,c5,rfl,c7⟩
 ·obtain rfl:=hc rfl
  simp only [aBc,and_true] at e;subst e;by_cases h0:m.length=0
  ·obtain rfl:m=[]:=aCp.1 h0
   obtain ⟨rfl,rfl⟩:=hN;obtain ⟨et,k2,h1,h2,h3⟩:=H9 hT;obtain ⟨i,hi,eF,lz⟩:=Y3 h3;refine ⟨.slice A 0 0,w,[],?_,.inl ⟨rfl,⟨A,0,rfl,λ _=>rfl⟩,rfl⟩,aAy,⟨rfl,.refl _,rfl,aAk _,λ _ _ _=>rfl⟩,by simp,eX,.inl ⟨rfl,.refl _,rfl,aAk _,λ _ _ _=>rfl⟩⟩;rw [<- eF] at hs;have js:=hs.len;have eT:=hs.cells;simp only [aCi] at js eT;rcases hs.kind with ⟨e',hk⟩|hk<;>cases A<;>simp [Builtin.append_,run_underlying h1,run_underlying hk,sizeOf,typeInfo,hi,js,eT,storeCells]
  ·obtain ⟨v',w',O',q1,q2,q3,q4,q5,q6⟩:=Uf hT ty hS (base:=A) (cap:=0) (l:=([]:List t.den)) (olds:=[]) (O1:=[]) (by
    cases A with
    | none=>exact run_firstCells_none w.drew t.size 0 0 0
    | some A=>exact run_firstCells_some w.drew t.size 0 A 0 0 [] (by simp) (by simp)) ⟨rfl,rfl⟩ hs hN (by simpa using aK) (λ c hc=>(hO c (by simpa using hc)).2) (by simp; omega) jj ig
   exact ⟨v',w',O',q1,q2,q3,q4,λ c hc=>⟨(q6 c hc).1.imp (λ h=>by omega) (λ h=>by simpa using h),(q6 c hc).2⟩,eX.x7 (λ c hc=>q4.frame c (hc.elim (λ h=>by cases h) (hS c)) (by simp)) (λ _ h=>h),.inl q4⟩
 ·simp only [aBc,and_true] at e
  subst e;by_cases cy:l.length+m.length<=cap
  ·obtain ⟨w',q1,q2,q3,q4,q5,q6⟩:=b9v (S:=S) hT ty c2 c3.1 c7 c5 hs hN aK (hO b (by simp)).1 cy (c3.2 rfl)
   refine ⟨_,w',b::(O1++Og),q1,q4,by simpa using aK,q5.mono (by simp),λ c hc=>⟨.inr (by simpa using hc),?_⟩,q6,.inr ⟨b,off,cap,news.length,rfl,c2,c3.2 rfl,q2,q3⟩⟩;rw [q3]; exact (hO c (by simpa using hc)).2
  ·have eC:(O1++Og).Nodup:=(aAt.1 (by simpa using aK:(b::(O1++Og)).Nodup)).2
   obtain ⟨v',w',O',q1,q2,q3,q4,q5,q6⟩:=Uf hT ty hS (base:=some ⟨b,off,none⟩) (cap:=cap) (l:=l) (olds:=e8 w.heap b off (l.length*t.size)) (O1:=O1) (by
    refine run_firstCells_some w.drew t.size l.length _ l.length cap _ (MT _ _ _ c4) (λ j u hu=>?_);rw [Addr.J0]; exact O8 hu) c5 hs hN eC (λ c hc=>(hO c (by simp at hc ⊢; exact .inr hc)).2) (by omega) jj ig
   exact ⟨v',w',O',q1,q2,q3,q4.mono (by simp),λ c hc=>⟨(q6 c hc).1.imp (λ h=>by omega) (λ h=>by simp at h ⊢; exact .inr h),(q6 c hc).2⟩,eX.x7 (λ c hc=>q4.frame c (hc.elim (λ h=>(hO c (aBf _ h)).2) (hS c)) (by simp)) (λ _ h=>h),.inl q4⟩
theorem Kj {P:Program} (h:RS B S ι s a w) {v:AV} {t0:Ty} {U:TypeId} (hk:(∃ e',P.underlying U=some (.slice e'))\/P.underlying U=some .string) {t:Ty} {m:List t.den} {g:List Nat} {x:Value} (hx:v.vJ s t0=some (⟨t,m⟩,g)) (hv:VX w.heap S ι s.hp v [x]) :
  ∃ Og news,Src P t.size U x m.length news w/\j5 (i6 w.heap S t) t.size Og news m/\Og.Nodup/\∀ b∈Og,P0 ι s.hp g b:=by
 have src:∀ {A:Option Addr} {n c:Nat} {news:List Value},news.length=n*t.size->(n≠0->∃ b off,A=some ⟨b,off,none⟩/\news=e8 w.heap b off (n*t.size))->(∀ u∈news,u.oneCell'=true)->Src P t.size U (.slice A n c) n news w:=by
  intro A n c news hl hn h1;by_cases h0:n=0
  ·subst h0
   have:news=[]:=aCp.1 (by omega);subst this;cases A with
   | none=>exact ⟨hk,λ _=>rfl,run_firstCells_none w _ 0 0 c,run_firstCells_none w.drew _ 0 0 c,by simp,λ _ h=>by cases h⟩
   | some A=>exact ⟨hk,λ _=>rfl,run_firstCells_some w _ 0 A 0 c [] (by simp) (by simp),run_firstCells_some w.drew _ 0 A 0 c [] (by simp) (by simp),by simp,λ _ h=>by cases h⟩
  ·obtain ⟨b,off,rfl,e⟩:=hn h0
   have bM:∀ j u,news[j]?=some u->w.cell? ((⟨b,off,none⟩:Addr).add j)=some u:=by
    intro j u hu;rw [Addr.J0]; rw [e] at hu; exact O8 hu
   exact ⟨hk,λ _=>rfl,run_firstCells_some w _ n _ n c news hl bM,run_firstCells_some w.drew _ n _ n c news hl (by simpa using bM),hl,h1⟩
 unfold AV.vJ at hx;split at hx
 ·cases hx
  have fT:[x]=[Value.slice none 0 0]:=hv;obtain rfl:x=.slice none 0 0:=by simpa using fT
  exact ⟨[],[],src (by simp) (by simp) (by simp),⟨rfl,rfl⟩,aAy,by simp⟩
 ·rename_i y
  cases hx;obtain ⟨rfl,hm⟩:=VX.zS hv;refine ⟨[],byteCells ⟨y.toArray⟩,?_,?_,aAy,by simp⟩
  ·have hl:(List.map (λ b:UInt8=>(b.toNat:Int)) y).length=(⟨y.toArray⟩:ByteArray).size:=by simp [ByteArray.size]
   have e:∀ w':World,(Builtin.firstCells 1 (⟨y.toArray⟩:ByteArray).size (.string ⟨y.toArray⟩)).run P w'=.ok (byteCells ⟨y.toArray⟩).toArray w':=firstCells_string _;show Src P 1 U (.string ⟨y.toArray⟩) (List.map (λ b:UInt8=>(b.toNat:Int)) y).length (byteCells ⟨y.toArray⟩) w;rw [hl];exact ⟨hk,λ _=>rfl,e w,e w.drew,by rw [byteCells_length,Nat.mul_one],λ u hu=>by
    obtain ⟨_,_,rfl⟩:=aDa.1 hu;rfl⟩
  ·simp only [byteCells]
   clear src hv hm
   induction y with
   | nil=>exact ⟨rfl,rfl⟩
   | cons c y ih=>exact ⟨[],[],rfl,⟨rfl,rfl,by simp only [w4,IntKind.min,IntKind.max,IntKind.signed,IntKind.bits]; have:=c.toNat_lt; simp; omega⟩,by simpa [Ty.size] using ih⟩
 ·split at hx
  ·cases hx
  ·rename_i t' l fE
   split at hx
   ·rename_i cj
    cases hx;obtain ⟨A,c,e,k⟩:=ES h.hs hv fE;subst e;rcases k with rfl|⟨b,off,O',rfl,k1,k2,k3,k4⟩
    ·exact ⟨[],[],src (by simp) (by simp) (by simp),⟨rfl,rfl⟩,aAy,by simp⟩
    ·have hO:O'=[]:=j5.Q8 (λ _ _ _ hr=>i6.Q8 cj hr) k3
     subst hO;exact ⟨[],_,src (j5.length (λ _ _ _ h=>h.length) k3) (λ _=>⟨b,off,rfl,rfl⟩) (j5.plain (λ _ _ _ hr=>hr.plain) k3 · · |>.1),k3,aAy,by simp⟩
   ·split at hx
    ·rename_i u m' g' cU
     cases hx;obtain ⟨O,cs,k1,k2,k3,k4⟩:=Bf h.hs cU hv;rcases k2 with ⟨rfl,⟨A,c,rfl,hc⟩,rfl⟩|⟨b,off,cap,O',rfl,c2,c3,c4,c5,rfl,c7⟩
     ·have e:x=.slice A 0 c:=k1
      subst e;exact ⟨[],[],src (by simp) (by simp) (by simp),⟨rfl,rfl⟩,aAy,by simp⟩
     ·have e:x=.slice (some ⟨b,off,none⟩) (List.length m) cap:=k1
      subst e;exact ⟨O',_,src (j5.length (λ _ _ _ h=>h.length) c5) (λ _=>⟨b,off,rfl,rfl⟩) (j5.plain (λ _ _ _ hr=>hr.plain) c5 · · |>.1),c5,(aAt.1 k3).2,λ c hc=>k4 c (by simp [hc])⟩
    ·cases hx
theorem c2N (hE:E2 E B) (h:RS B S ι s a w) {o:Oper} {c:Call} (ho:o.op=.call c) (hc:c.callee=.builtin .append) {x y:Operand} {T U:TypeId} (ha:c.args.toList=[x,y]) (fi:c.argTypes.toList=[T,U])
  {q:Bool} {t0:Ty} {bts d:Nat} (hT:look T E.tt=some ⟨.d0 q t0,bts⟩) {l m:List t0.den} {f g Of Og:List Nat} {v1:Value} {news:List Value} (fa:a.eval x=v1) (hR:i6 w.heap S (.d0 true t0) Of [v1] l) (og:Of.Nodup) (rQ:∀ b∈Of,P0 ι s.hp f b)
  (hs:Src E.P t0.size U (a.eval y) m.length news w) (hN:j5 (i6 w.heap S t0) t0.size Og news m) (mw:Og.Nodup) (lR:∀ b∈Og,P0 ι s.hp g b) {p:Prop} (hp:p->l.length+m.length<=140737488355328/\(l.length+m.length)*t0.wb<=140737488355328) :
  G7 E.P B o a w ((s.lay d (f++g) (.d0 true t0) (l++m)).f8 p):=by
 refine G7.Js (λ v s' hl pE=>?_);obtain ⟨jj,ig⟩:=hp pE;obtain ⟨gn,gp⟩:=Jn hl;have di:r8 E.P 100 T (.d0 true t0)=true:=EZ (t:=.d0 q t0) (u:=.d0 true t0) rfl (s7 hE hT);have aK:(Of++Og).Nodup:=aAg.2 ⟨og,mw,by
  rintro c h1 c' h2 rfl;obtain ⟨i,e,i1,i2,i3⟩:=rQ c h1;obtain ⟨j,e',j1,j2,j3⟩:=lR c h2;exact h.hs.dj i j e e' i2 j2 (λ e=>(aAg.1 gn).2.2 i i1 j j1 e) c i3 j3⟩
 have dS:∀ b∈Of++Og,P0 ι s.hp (f++g) b:=λ b hb=>(aAi.1 hb).elim (λ hb=>(rQ b hb).mono (by simp +contextual)) (λ hb=>(lR b hb).mono (by simp +contextual));have hF:=H2.B9 h.hs aK dS;have hd:=h.B9 (g:=f++g) gp;obtain ⟨v',w',O',q1,q2,q3,q4,q5,_⟩:=SY di o.type h.hs.slt hR hs hN aK (λ c hc=>⟨(hF.2 c hc).1,(hF.2 c hc).2.2.1⟩) jj ig;have aF:c.args=#[x,y]:=by rw [<- ha]
 have eG:c.argTypes=#[T,U]:=by rw [<- fi]
 have aP:(execOp a.eval o).run E.P w=.ok (.value v') w':=by
  subst fa;simp [execOp,ho,resolve,hc,invoke,builtin,aF,eG,q1]
 have om:H2 B S ι (St.B9 (f++g) s).hp w Of:=hF.sub og (by simp +contextual);refine D0.lay hl aP (cs:=[v']) rfl q2 (hd.vC om q4) ⟨q3,λ c hc=>?_⟩;obtain ⟨k1,k2⟩:=q5 c hc;rcases k1 with k1|k1
 ·exact ⟨λ hS=>by have:=h.hs.slt c hS; omega,.inl (by have:=h.hs.size; omega),k2,λ i e hi hb=>by have:=(hd.hs.bl i e hi c hb).2.2; omega⟩
 ·exact ⟨(hF.2 c k1).1,(hF.2 c k1).2.1,k2,(hF.2 c k1).2.2.2⟩
theorem UK (hE:E2 E B) (h:RS B S ι s a w) {o:Oper} {c:Call} (ho:o.op=.call c) (hc:c.callee=.builtin .append) {x y:Operand} {T U:TypeId} (ha:c.args.toList=[x,y]) (fi:c.argTypes.toList=[T,U])
  (hk:(∃ e',E.P.underlying U=some (.slice e'))\/E.P.underlying U=some .string):G7 E.P B o a w (xA E T (s.ev x) (s.ev y) o.dst s):=by
 unfold xA
 split
 ·rename_i q t0 bts d hT hd
  split
  ·trivial
  ·rename_i t m g cw
   obtain ⟨Og,news,k1,k2,k3,k4⟩:=Kj (P:=E.P) h hk cw (h.ev y);simp only;have own:∀ {l:List t0.den} {f Of:List Nat} {v1:Value},a.eval x=v1->i6 w.heap S (.d0 true t0) Of [v1] l->Of.Nodup->(∀ b∈Of,P0 ι s.hp f b) ->
     G7 E.P B o a w (if h:t=t0 then (s.lay d (f++g) (.d0 true t0) (l++R8 h m)).f8 ((l.length+m.length:Nat)<=140737488355328/\(l.length+m.length:Nat)*(t0.wb:Nat)<=140737488355328) else .fail "append: type"):=by
    intro l f Of v1 e1 e2 e3 e4
    split
    ·rename_i ht
     subst ht;exact c2N hE h ho hc ha fi hT e1 e2 e3 e4 k1 k2 k3 k4 (λ hp=>hp)
    ·trivial
   split
   ·rename_i hx
    have ew:[a.eval x]=[Value.slice none 0 0]:=D8 h hx;exact own (f:=[]) (Of:=[]) (v1:=.slice none 0 0) (by simpa using ew) (.inl ⟨rfl,⟨none,0,rfl,λ _=>rfl⟩,rfl⟩) aAy (by simp)
   ·rename_i u lx hx
    split
    ·obtain ⟨cs,e,hR⟩:=D8 h hx
     rcases hR with ⟨_,⟨A,c,rfl,eT⟩,rfl⟩|⟨b,off,cap,O',rfl,c2,c3,c4,c5,c6,c7⟩
     ·exact own (f:=[]) (Of:=[]) (v1:=.slice A 0 c) (by simpa [s5,Ty.agg] using e) (.inl ⟨rfl,⟨A,c,rfl,eT⟩,rfl⟩) aAy (by simp)
     ·cases c6
    ·trivial
   ·rename_i xv _ _
    split
    ·rename_i u l f cU
     split
     ·rename_i hu
      subst hu;obtain ⟨O2,cs,r1,r2,r3,r4⟩:=Bf h.hs cU (h.ev x);have r1':a.eval x=cs.headD undef:=r1;have cG:cs=[cs.headD undef]:=by
       have:=r2.length
       match cs,this with
       | [c],_=>rfl
      rw [cG] at r2;exact own r1' r2 r3 r4
     ·trivial
    ·trivial
 ·trivial
end
end Go.Ex
namespace Go.Ex
section
variable {E:Env} {B:F5} {S S':Nat->Prop} {ι:Ix} {s:St} {a:Act} {w:World} {hp:List (Nat×g9)} {H H':Array Go.Obj}
def yC (a:Act) (d n:Int):Option Operand->Prop
 | none=>n=d
 | some x=>∃ k,a.eval x=.int k n
theorem xe (h:RS B S ι s a w) {d n:Int} {x:Option Operand} (hb:bnd s d x=some n):yC a d n x:=by
 unfold bnd at hb;split at hb
 ·cases hb; rfl
 ·rename_i x
  split at hb
  ·rename_i k m hx
   cases hb;exact ⟨k,(VX.J6 (D8 h hx)).1⟩
  ·cases hb
theorem zX {P:Program} {k:IntKind} {n:Int} {y:Nat} {c:BoundsCode} (h0:0<=n) (h1:n<=y):(Instr.sliceBound (.int k n) y c).run P w=.ok n.toNat w:=by
 simp [Instr.sliceBound,asIntOf,h0,h1]
theorem LU {P:Program} {isS:Bool} {len cap:Nat} {lo hi:Option Operand} {x y:Int} (h1:yC a 0 x lo) (h2:yC a (len:Int) y hi) (h0:0<=x) (mD:x<=y) (hy:y<=(cap:Int)) :
  (Instr.sliceBounds isS len cap (lo.map a.eval) (hi.map a.eval) none).run P w=.ok (x.toNat,y.toNat,cap) w:=by
 cases hi with
 | none =>
  have h2:y=len:=h2;cases lo with
  | none =>
   have h1:x=0:=h1;subst h1 h2;simp [Instr.sliceBounds,Sem.run_pure]
  | some z =>
   obtain ⟨k,e⟩:=h1;subst h2;simp only [Instr.sliceBounds,aBh,aCx,e,Sem.run_bind,Sem.run_pure,Result.andThen_ok,zX h0 mD,aCa]
 | some z2 =>
  obtain ⟨k2,e2⟩:=h2;have hb:∀ c,(Instr.sliceBound (.int k2 y) cap c).run P w=.ok y.toNat w:=λ c=>zX (by omega) (by omega);cases lo with
  | none =>
   have h1:x=0:=h1;subst h1;simp [Instr.sliceBounds,e2,hb]
  | some z =>
   obtain ⟨k,e⟩:=h1;have fI:∀ c,(Instr.sliceBound (.int k x) y.toNat c).run P w=.ok x.toNat w:=λ c=>zX h0 (by omega);simp only [Instr.sliceBounds,aBh,e,e2,Sem.run_bind,Sem.run_pure,Result.andThen_ok,hb,fI]
theorem b8K {P:Program} {len cap:Nat} {lo:Option Operand} {x y:Operand} {k k':IntKind} (h1:yC a 0 0 lo) (h2:a.eval x=.int k 0) (h3:a.eval y=.int k' 0) :
  (Instr.sliceBounds true len cap (lo.map a.eval) (some (a.eval x)) (some (a.eval y))).run P w=.ok (0,0,0) w:=by
 have hb:∀ (k:IntKind) (n:Nat) c,(Instr.sliceBound (.int k 0) n c).run P w=.ok 0 w:=λ k n c=>zX (n:=0) (by omega) (by omega);cases lo with
 | none=>simp only [Instr.sliceBounds,aCx,h2,h3,Sem.run_bind,hb,Sem.run_pure,Result.andThen_ok,if_true]
 | some z =>
  obtain ⟨k,e⟩:=h1;simp only [Instr.sliceBounds,aBh,e,h2,h3,Sem.run_bind,hb,Sem.run_pure,Result.andThen_ok,if_true]
theorem Xu {y:yY} {x z:Int} (h:0<=x):(⟨y.toArray⟩:ByteArray).extract x.toNat z.toNat=⟨(o6 x z y).toArray⟩:=by
 have:((⟨y.toArray⟩:ByteArray).extract x.toNat z.toNat).data=(o6 x z y).toArray:=by
  rw [ByteArray.data_extract];simp only [List.extract_toArray,List.extract_eq_take_drop,o6];congr 2;omega
 exact congrArg ByteArray.mk this
theorem Xz {α:Type} {x z:Int} {l:List α}:(o6 x z l).length<=l.length:=by simp only [o6,aAn,aAo]; omega
theorem LV {P:Program} {T:TypeId} {k:Nat} {q:Bool} {t:Ty} (hT:r8 P k T (.d0 q t)=true) {A:Option Addr} {len cap:Nat} {lo hi:Option Operand} {x y:Int} (h1:yC a 0 x lo) (h2:yC a (len:Int) y hi) (h0:0<=x) (mD:x<=y) (hy:y<=(cap:Int)) :
  (Instr.sliceAt T (.slice A len cap) (lo.map a.eval) (hi.map a.eval) none).run P w=.ok (.slice (if cap=x.toNat then A else A.map (·.add (x.toNat*t.size))) (y.toNat - x.toNat) (cap - x.toNat)) w:=by
 obtain ⟨et,k',e1,e2,e3⟩:=H9 hT;simp only [Instr.sliceAt,Instr.slice,Sem.run_bind,x8 e1,Result.andThen_ok,LU h1 h2 h0 mD hy,run_sizeOf e3,Sem.run_pure]
theorem LC {P:Program} {T:TypeId} {k:Nat} {q:Bool} {t:Ty} (hT:r8 P k T (.d0 q t)=true) {A:Option Addr} {len cap:Nat} {lo hi:Option Operand} {x y:Int} (h1:yC a 0 x lo) (h2:yC a (len:Int) y hi) (h0:0<=x) (mD:x<=y) (hy:y<=(len:Int)) (hc:len<=cap) :
  (Instr.sliceAt T (.slice A len cap) (lo.map a.eval) (hi.map a.eval) none).run P w=.ok (.slice (if cap=x.toNat then A else A.map (·.add (x.toNat*t.size))) (y.toNat - x.toNat) (cap - x.toNat)) w:=LV hT h1 h2 h0 mD (by omega)
theorem b6a (hE:E2 E B) (h:RS B S ι s a w) {o:Oper} {T:TypeId} {x:Operand} {lo hi mx:Option Operand} (ho:o.op=.slice T x lo hi mx):G7 E.P B o a w (yS E T (s.ev x) lo hi mx s):=by
 have he:execOp a.eval o=(do pure (.value (<- Instr.sliceAt T (a.eval x) (lo.map a.eval) (hi.map a.eval) (mx.map a.eval)))):=by simp [execOp,ho]
 unfold yS
 split
 ·trivial
 ·rename_i m jr
  have h1:=xe h jr;have nil3:∀ {q:Bool} {t:Ty} {A:Option Addr} {len cap:Nat} {c n:Int},K0 E T (.d0 q t)=true->hi.isSome=true->(∃ z,mx=some z)->bnd s 0 mx=some c->(bnd s (len:Int) hi=some n)->a.eval x=.slice A len cap->m=0/\n=0/\c=0 ->
    D0 E.P B o a w (.val (.d0 true t) ([]:List t.den)) s:=by
   rintro q t A len cap c n bB hh ⟨z,rfl⟩ hm hb hv ⟨rfl,rfl,rfl⟩;cases hi with
   | none=>cases hh
   | some y =>
    obtain ⟨k1,e1⟩:=xe h hb;obtain ⟨k2,e2⟩:=xe h hm;obtain ⟨et,k',f1,f2,f3⟩:=H9 (E5 hE bB);refine D0.value (val:=.slice A 0 0) ?_ h ⟨[.slice A 0 0],rfl,.inl ⟨rfl,⟨A,0,rfl,λ _=>rfl⟩,rfl⟩⟩;rw [he];simp only [aBh,hv,Instr.sliceAt,Instr.slice,Sem.run_bind,x8 f1,Result.andThen_ok,b8K h1 e1 e2,run_sizeOf f3,Sem.run_pure];simp
  have any3:∀ {q:Bool} {t:Ty} {A:Option Addr} {len cap:Nat} {c n:Int},K0 E T (.d0 q t)=true->hi.isSome=true->lo.isSome=true->(∃ z,mx=some z)->bnd s 0 mx=some c->(bnd s (len:Int) hi=some n)->a.eval x=.slice A len cap->len<=cap->(0<=m/\m<=n/\n<=c/\c<=(len:Int)) ->
    D0 E.P B o a w .any s:=by
   rintro q t A len cap c n bB hh mo ⟨z,rfl⟩ hm hb hv cR ⟨g1,g2,g3,g4⟩;cases hi with
   | none=>cases hh
   | some y =>
    cases lo with
    | none=>cases mo
    | some z0 =>
     obtain ⟨k1,e1⟩:=xe h hb;obtain ⟨k2,e2⟩:=xe h hm;obtain ⟨k0,e0⟩:=h1;obtain ⟨et,k',f1,f2,f3⟩:=H9 (E5 hE bB);have dK:∀ d,(Instr.sliceBound (.int k2 c) cap d).run E.P w=.ok c.toNat w:=λ d=>zX (by omega) (by omega);have fI:∀ d,(Instr.sliceBound (.int k1 n) c.toNat d).run E.P w=.ok n.toNat w:=λ d=>zX (by omega) (by omega);have qK:∀ d,(Instr.sliceBound (.int k0 m) n.toNat d).run E.P w=.ok m.toNat w:=λ d=>zX g1 (by omega);refine D0.value (val:=.slice (if c.toNat=m.toNat then A else A.map (·.add (m.toNat*t.size))) (n.toNat - m.toNat) (c.toNat - m.toNat)) ?_ h ⟨_,rfl⟩;rw [he];simp only [aBh,hv,Instr.sliceAt,Instr.slice,Instr.sliceBounds,e0,e1,e2,dK,fI,qK,Sem.run_bind,x8 f1,Result.andThen_ok,run_sizeOf f3,Sem.run_pure,if_true]
  split
  ·rename_i y hx
   split
   ·rename_i n hb
    split
    ·rename_i bB
     rintro ⟨g1,g2,g3⟩;obtain ⟨hv,hl⟩:=VX.zS (D8 h hx);have hu:=Y9 (E5 hE bB);refine D0.value (val:=.string ⟨(o6 m n y).toArray⟩) ?_ h (VX.str (aAx Xz hl));rw [he];have aW:(⟨y.toArray⟩:ByteArray).size=List.length y:=rfl;simp only [hv,aCx,Instr.sliceAt,Instr.slice,Sem.run_bind,x8 hu,Result.andThen_ok,aW];simp only [Option.isSome_none,aFd,if_false,LU (isS:=false) h1 (xe h hb) g1 g2 g3,Sem.run_pure,Result.andThen_ok,Sem.run_bind,Xu g1]
    ·trivial
   ·trivial
  ·rename_i t y hx
   obtain ⟨cs,e,hR⟩:=D8 h hx
   split
   ·rename_i n hb
    split
    ·rename_i bB
     rintro ⟨g1,g2,g3⟩;have key:∀ {A:Option Addr} {cap:Nat},a.eval x=.slice A (List.length y) cap->List.length y<=cap->(∃ cs',Value.slice (if cap=m.toNat then A else A.map (·.add (m.toNat*t.size))) (n.toNat - m.toNat) (cap - m.toNat)=s5 (.d0 false t) cs'/\i6 w.heap S (.d0 false t) [] cs' (o6 m n y)) ->
       D0 E.P B o a w (.val (.d0 false t) (o6 m n y)) s:=by
      rintro A cap hv hc ⟨cs',e1,e2⟩;refine D0.value (val:=s5 (.d0 false t) cs') ?_ h ⟨cs',rfl,e2⟩;rw [he,hv,<- e1];simp only [aCx,Sem.run_bind,LC (E5 hE bB) h1 (xe h hb) g1 g2 g3 hc,Result.andThen_ok,Sem.run_pure]
     have hlen:(o6 m n y).length=(n - m).toNat:=Ae g1 g3;rcases hR with ⟨_,⟨A,c,rfl,_⟩,rfl⟩|⟨b1,o1,cap,O',rfl,c2,c3,c4,c5,c6,rfl,c7⟩
     ·have hn:n=0:=by have:n<=((([]:List t.den).length:Nat):Int):=g3; simp at this; omega
      have iB:m=0:=by omega
      subst hn iB;exact key (A:=A) (cap:=c) (by simpa [s5,Ty.agg] using e) (by simp) ⟨[_],rfl,.inl ⟨rfl,⟨_,_,rfl,by simp⟩,by simp [o6]⟩⟩
     ·refine key (A:=some ⟨b1,o1,none⟩) (cap:=cap) (by simpa [s5,Ty.agg] using e) c2 ⟨[_],rfl,?_⟩
      by_cases hz:o6 m n y=[]
      ·have:n.toNat - m.toNat=0:=by rw [hz] at hlen; simp at hlen; omega
       rw [this];exact .inl ⟨rfl,⟨_,_,rfl,by simp⟩,hz⟩
      ·have gH:0<(n - m).toNat:=by rw [<- hlen]; exact aCg.2 hz
       obtain ⟨P1,P2,P3,e1,g⟩:=c5.cut m.toNat (n - m).toNat;have hP:P2=[]:=by have:=e1.symm; simp at this; exact this.2.1
       subst hP;have hle:m.toNat*t.size+(n - m).toNat*t.size<=List.length y*t.size:=by rw [<- aBp]; exact aAm _ (by omega)
       rw [o8,n9 _ _ _ _ (by omega)] at g;refine .inr ⟨b1,o1+m.toNat*t.size,cap - m.toNat,[],?_,by rw [hlen]; omega,⟨by have:=c3.1; omega,by simp⟩,by rw [hlen]; omega,by rw [hlen]; exact g,rfl,rfl,c7⟩;rw [if_neg (by omega),aBh,Addr.J0,hlen,show n.toNat - m.toNat=(n - m).toNat from by omega]
    ·trivial
   ·rename_i z hb
    split
    ·rename_i c bB hc
     simp only [aAa] at bB;intro hp;obtain ⟨A,c,e1,_⟩:=CA hR;exact nil3 bB.1 bB.2 ⟨_,rfl⟩ hc hb (by rw [show a.eval x=s5 (.d0 false t) cs by simpa using e]; exact e1) hp
    ·trivial
   ·trivial
  ·rename_i t y hx
   obtain ⟨cs,e,hR⟩:=D8 h hx
   split
   ·rename_i n hb
    split
    ·rename_i bB
     obtain ⟨fl,l,m'⟩:=y;rintro ⟨rfl,g1,g2,g3⟩;obtain ⟨b1,o1,O',rfl,c2,c4,c5,_,rfl,c7⟩:=hR;have hv:a.eval x=.slice (some ⟨b1,o1,none⟩) l.length (l.length+m'.length):=by simpa [s5,Ty.agg] using e
     have g3:n<=((l++m').length:Int):=by rw [aAd]; exact g3
     have hlen:(o6 m n (l++m')).length=(n - m).toNat:=Ae g1 g3;have c4':=c4;rw [aAd] at g3;refine D0.value (val:=.slice (if l.length+m'.length=m.toNat then some ⟨b1,o1,none⟩ else (some ⟨b1,o1,none⟩:Option Addr).map (·.add (m.toNat*t.size))) (n.toNat - m.toNat) (l.length+m'.length - m.toNat)) ?_ h ⟨[_],rfl,?_⟩
     ·rw [he,hv]
      simp only [aCx,Sem.run_bind,LV (E5 hE bB) h1 (xe h hb) g1 g2 g3,Result.andThen_ok,Sem.run_pure]
     by_cases hz:o6 m n (l++m')=[]
     ·have:n.toNat - m.toNat=0:=by rw [hz] at hlen; simp at hlen; omega
      rw [this];exact .inl ⟨rfl,⟨_,_,rfl,by simp⟩,hz⟩
     ·have gH:0<(n - m).toNat:=by rw [<- hlen]; exact aCg.2 hz
      obtain ⟨P1,P2,P3,e1,g⟩:=c5.cut m.toNat (n - m).toNat;have hP:P2=[]:=by have:=e1.symm; simp at this; exact this.2.1
      subst hP;have hle:m.toNat*t.size+(n - m).toNat*t.size<=List.length (l++m')*t.size:=by rw [<- aBp,aAd]; exact aAm _ (by omega)
      rw [o8,n9 _ _ _ _ (by omega)] at g;refine .inr ⟨b1,o1+m.toNat*t.size,l.length+m'.length - m.toNat,[],?_,by rw [hlen]; omega,⟨by have:=c2.1; omega,by simp⟩,by rw [hlen]; omega,by rw [hlen]; exact g,rfl,rfl,c7⟩;rw [if_neg (by omega),aBh,Addr.J0,hlen,show n.toNat - m.toNat=(n - m).toNat from by omega]
    ·trivial
   ·trivial
  ·rename_i hx
   split
   ·rename_i n q t bts hb hT
    rintro ⟨rfl,rfl⟩;have hv:a.eval x=.slice none 0 0:=by simpa using (show [a.eval x]=[Value.slice none 0 0] from D8 h hx)
    refine D0.value (val:=.slice none 0 0) ?_ h rfl;rw [he,hv];have:=LC (w:=w) (A:=none) (len:=0) (cap:=0) (s7 hE hT) h1 (xe h hb) (aDo _) (aDo _) (aDo _) (aAk _);simp only [aCx,Sem.run_bind,this,Result.andThen_ok,Sem.run_pure];simp
   ·trivial
  ·rename_i i p hx
   obtain ⟨e,u,y0,cs,k1,k2,k3,k4,k5⟩:=D8 h hx;have k5:a.eval x=s5 u cs:=by simpa using k5
   split
   ·rename_i t y cT
    have hg:=J5 k1 cT;rw [k3] at hg; cases hg;obtain ⟨O2,m1,m2,m3⟩:=I2 h.hs k1 k2 k3 k4;have nJ:∃ A cap,cs=[.slice A (List.length y) cap]/\List.length y<=cap:=by
     rcases m3 with ⟨_,⟨A,c,rfl,_⟩,rfl⟩|⟨b1,o1,cap,O',rfl,c2,_⟩
     ·exact ⟨A,c,rfl,by simp⟩
     ·exact ⟨_,cap,rfl,c2⟩
    obtain ⟨A,cap,rfl,hc⟩:=nJ;have k5:a.eval x=.slice A (List.length y) cap:=k5
    split
    ·rename_i n hb
     split
     ·rename_i bB
      rintro ⟨g1,g2,g3⟩;refine D0.value (val:=.slice (if cap=m.toNat then A else A.map (·.add (m.toNat*t.size))) (n.toNat - m.toNat) (cap - m.toNat)) ?_ h ⟨e,_,k1,k2,rfl,g1,g2,.inl ⟨t,y,A,cap,k3,g3,k4,_,_,by rw [show (n - m).toNat=n.toNat - m.toNat from by omega],λ br=>by rw [if_neg (by omega)],by omega,by omega⟩⟩;rw [he,k5];simp only [aCx,Sem.run_bind,LC (E5 hE bB) h1 (xe h hb) g1 g2 g3 hc,Result.andThen_ok,Sem.run_pure]
     ·trivial
    ·rename_i z hb
     split
     ·rename_i c bB dJ
      simp only [aAa] at bB
      split
      ·intro hp
       exact nil3 bB.1 bB.2 ⟨_,rfl⟩ dJ hb k5 hp
      ·rename_i pX
       rintro ⟨g1,g2,g3,g4⟩;exact any3 bB.1 bB.2 pX ⟨_,rfl⟩ dJ hb k5 hc ⟨g1,g2,g3,g4⟩
     ·trivial
    ·trivial
   ·trivial
  ·rename_i i p a0 b0 hx
   obtain ⟨e,v,k1,k2,k3,k4,k5,k6⟩:=D8 h hx;have k3:a.eval x=v:=by simpa using k3
   have core:∀ {t:Ty} {n:Int} {A0:Option Addr} {cap:Nat},K0 E T (.d0 true t)=true->bnd s (b0 - a0) hi=some n->mx=none->0<=m->m<=n->a0+n<=(cap:Int)->Br t.size A0 cap a0 b0 v->∃ val,(execOp a.eval o).run E.P w=.ok (.value val) w/\Br t.size A0 cap (a0+m) (a0+n) val:=by
    rintro t n A0 cap bB hb rfl g1 g2 g3 ⟨c,A,e1,e2,e3,e4⟩;refine ⟨.slice (if c=m.toNat then A else A.map (·.add (m.toNat*t.size))) (n.toNat - m.toNat) (c - m.toNat),?_,_,_,by rw [show (a0+n - (a0+m)).toNat=n.toNat - m.toNat from by omega],?_,by omega,by omega⟩
    ·rw [he,k3,e1]
     have cV:bnd s (((b0 - a0).toNat:Nat):Int) hi=some n:=by rw [aEb (by omega)]; exact hb
     simp only [aCx,Sem.run_bind,LV (A:=A) (cap:=c) (E5 hE bB) h1 (xe h cV) g1 g2 (show n<=(c:Int) by omega),Result.andThen_ok,Sem.run_pure]
    ·intro br
     rw [if_neg (by omega),e2 (by omega),aEo,show (a0+m).toNat=a0.toNat+m.toNat from by omega];congr 1
     funext ad
     have lT:∀ x y:Nat,(ad.add x).add y=ad.add (x+y):=by
      intro x y;unfold Addr.add;by_cases hx:x=0<;>by_cases hy:y=0<;>simp [hx,hy,aBo]
     simp only [Function.comp,aBp,lT]
   split
   ·rename_i t y ee
    split
    ·rename_i n hb
     split
     ·rename_i bB
      rintro ⟨g1,g2,g3⟩;have hg:=J5 k1 ee;rcases k6 with ⟨t',l,A,cap,q1,q2,q3,q4⟩|⟨n',t',l,b2,off2,q1,q2,q3,q4⟩
      ·rw [q1] at hg; cases hg
       obtain ⟨O2,m1,m2,m3⟩:=I2 h.hs k1 k2 q1 q3;have hc:List.length y<=cap:=by
        rcases m3 with ⟨_,⟨A,c,_,_⟩,rfl⟩|⟨b1,o1,gY,O',c1,c2,_⟩
        ·simp
        ·cases c1; exact c2
       obtain ⟨val,r1,r2⟩:=core bB hb rfl g1 g2 (by omega) q4;exact D0.value r1 h ⟨e,val,k1,k2,rfl,by omega,by omega,.inl ⟨_,_,A,cap,q1,by omega,q3,r2⟩⟩
      ·rw [q1] at hg; cases hg
     ·trivial
    ·trivial
   ·rename_i n0 t y ee
    split
    ·rename_i n hb
     split
     ·rename_i bB
      rintro ⟨g1,g2,g3⟩;have hg:=J5 k1 ee;rcases k6 with ⟨t',l,A,cap,q1,q2,q3,q4⟩|⟨n',t',l,b2,off2,q1,q2,q3,q4⟩
      ·rw [q1] at hg; cases hg
      ·rw [q1] at hg; cases hg
       obtain ⟨val,r1,r2⟩:=core bB hb rfl g1 g2 (by omega) q4;exact D0.value r1 h ⟨e,val,k1,k2,rfl,by omega,by omega,.inr ⟨_,_,_,b2,off2,q1,⟨by omega,q2.2⟩,q3,r2⟩⟩
     ·trivial
    ·trivial
   ·trivial
  ·rename_i i p hx
   obtain ⟨e,b,off,k1,k2,k3,k4⟩:=D8 h hx;have k4:a.eval x=.pointer (some ⟨b,off,none⟩):=by simpa using k4
   split
   ·rename_i N t y cT
    have hg:=J5 k1 cT
    split
    ·rename_i n hb
     split
     ·rename_i bB
      simp only [aAa,aFv] at bB;rintro ⟨g1,g2,g3⟩;have fI:=LU (P:=E.P) (w:=w) (isS:=false) h1 (xe h hb) g1 g2 g3;refine D0.value (val:=.slice (some (if N=m.toNat then ⟨b,off,none⟩ else (⟨b,off,none⟩:Addr).add (m.toNat*t.size))) (n.toNat - m.toNat) (N - m.toNat)) ?_ h ⟨e,_,k1,k2,rfl,g1,g2,.inr ⟨N,t,y,b,off,hg,⟨g3,by have:=bB.2; unfold maxLen; omega⟩,k3,_,_,by rw [show (n - m).toNat=n.toNat - m.toNat from by omega],λ br=>by rw [if_neg (by omega)]; rfl,by omega,by omega⟩⟩;rw [he,k4];have hc:=bB.1;unfold yS.Na at hc;split at hc
      ·rename_i A hT
       obtain ⟨et,k',f1,f2,f3⟩:=yw (E5 hE hc);simp only [aCx,Instr.sliceAt,Instr.slice,Sem.run_bind,x8 hT,x8 f1,asAddr,fI,Result.andThen_ok,Sem.run_pure,run_sizeOf f3]
      ·obtain ⟨et,k',f1,f2,f3⟩:=yw (E5 hE hc)
       simp only [aCx,Instr.sliceAt,Sem.run_bind,x8 f1,Instr.sureAddr,fI,Result.andThen_ok,Sem.run_pure,run_sizeOf f3]
      ·cases hc
     ·trivial
    ·trivial
   ·trivial
  ·trivial
end
end Go.Ex
namespace Go.Ex
section
variable {E:Env} {B:F5} {S S':Nat->Prop} {ι:Ix} {s:St} {a:Act} {w:World} {hp:List (Nat×g9)} {H H':Array Go.Obj}
theorem j5.two {α:Type} {R:List Nat->List Value->α->Prop} {sz:Nat} (hR:∀ O cs x,R O cs x->cs.length=sz) (h0:∀ O cs x,R O cs x->O=[]) {l m:List α} {O:List Nat} {cs:List Value} (h:j5 R sz O cs (l++m)):j5 R sz [] (cs.take (l.length*sz)) l/\j5 R sz [] (cs.drop (l.length*sz)) m:=by
 induction l generalizing O cs with
 | nil =>
  have:=j5.Q8 h0 h;subst this;exact ⟨⟨rfl,by simp⟩,by simpa using h⟩
 | cons x l ih =>
  obtain ⟨O1,O2,e,h1,h2⟩:=h;obtain ⟨k1,k2⟩:=ih h2;have e1:=h0 _ _ _ h1;subst e1;refine ⟨⟨[],[],rfl,?_,?_⟩,?_⟩
  ·rw [aCs,aAh,aBg,aCb (by omega)]; exact h1
  ·rw [aAh,aBg,aDk,show l.length*sz+sz - sz=l.length*sz by omega]; exact k1
  ·rw [aAh,aBg,aFs,<- aBm]; exact k2
theorem b9y (hE:E2 E B) (h:RS B S ι s a w) {o:Oper} {c:Call} (ho:o.op=.call c) (hc:c.callee=.builtin .append) {x y:Operand} {T U:TypeId} (ha:c.args.toList=[x,y]) (fi:c.argTypes.toList=[T,U])
  (hk:∃ e',E.P.underlying U=some (.slice e')):G7 E.P B o a w (Eh E T (s.ev x) (s.ev y) o.dst s):=trivial
theorem c2P (hE:E2 E B) (h:RS B S ι s a w) {o:Oper} {c:Call} (ho:o.op=.call c) (hc:c.callee=.builtin .append) {x y:Operand} {T U:TypeId} (ha:c.args.toList=[x,y]) (fi:c.argTypes.toList=[T,U])
  (hk:∃ e',E.P.underlying U=some (.slice e')):G7 E.P B o a w (xW E T (s.ev x) (s.ev y) o.dst s):=by
 unfold xW
 split
 ·exact b9y hE h ho hc ha fi hk
 ·exact UK hE h ho hc ha fi (.inl hk)
end
end Go.Ex
namespace Go.Ex
section
variable {E:Env} {B:F5} {S S':Nat->Prop} {ι:Ix} {s:St} {a:Act} {w:World} {hp:List (Nat×g9)} {H H':Array Go.Obj}
theorem PB {q:Bool} {u:Ty} {O:List Nat} {cs:List Value} {z:List u.den} (hR:i6 H S (.d0 q u) O cs z):z.length<=maxLen:=by
 rcases hR with ⟨_,_,h2⟩|⟨b,off,cap,O',c1,c2,c3,_⟩
 ·rw [h2]; exact aAr _
 ·have:=c3.1
  have c2:z.length<=cap:=c2;omega
theorem Jk (h:HS B S ι s.hp w) {v:AV} {val:Value} (hv:VX w.heap S ι s.hp v [val]) {t:Ty} {l:List t.den} (hw:v.els s=some ⟨t,l⟩):l.length<=maxLen:=by
 unfold AV.els at hw;split at hw
 ·cases hw
  obtain ⟨cs,_,hR⟩:=hv;exact PB hR
 ·rename_i i p
  split at hw
  ·rename_i q t' l' hp
   cases hw;obtain ⟨e,u,y,cs,h1,h2,h3,h4,h5⟩:=hv;have hg:=J5 h1 hp;rw [h3] at hg; cases hg;obtain ⟨O2,m1,m2,m3⟩:=I2 h h1 h2 h3 h4;exact PB m3
  ·cases hw
 ·obtain ⟨A,c,_,k⟩:=PC h hv hw
  rcases k with rfl|⟨b,off,O,_,_,_,_,_,k1,k2⟩
  ·exact aAr _
  ·omega
 ·cases hw
theorem Yh (c:UInt8):w4 .u8 (c.toNat:Int):=by
 simp only [w4,IntKind.min,IntKind.max,IntKind.signed,IntKind.bits]; have:=c.toNat_lt; simp; omega
theorem c4M (y:yY):j5 (i6 H S (.int .u8)) 1 [] (byteCells ⟨y.toArray⟩) (List.map (λ b:UInt8=>(b.toNat:Int)) y:List Int):=by
 simp only [byteCells]
 induction y with
 | nil=>exact ⟨rfl,rfl⟩
 | cons c y ih=>exact ⟨[],[],rfl,⟨rfl,rfl,Yh c⟩,by simpa [Ty.size] using ih⟩
theorem TU {k:IntKind}:∀ {l:List Int} {O:List Nat} {cs:List Value},j5 (i6 H S (.int k)) 1 O cs l->cs=l.map (Value.int k)
 | [],_,_,⟨_,h⟩=>h
 | n::l,O,cs,⟨O1,O2,_,h1,h2⟩=>by
  have e1:cs.take 1=[.int k n]:=h1.2.1;have e2:=TU h2;rw [<- aBy 1 cs,e1,e2]; rfl
theorem QT:∀ (l:List Int) (r:ByteArray),l.foldl (λ r n=>r.push (UInt8.ofNat n.toNat)) r=⟨r.data++(l.map λ n=>UInt8.ofNat n.toNat).toArray⟩
 | [],r=>by simp
 | n::l,r=>by
  rw [List.foldl_cons,QT l];simp [ByteArray.push]
theorem b5B (hE:E2 E B) (h:RS B S ι s a w) {o:Oper} {T T':TypeId} {x:Operand} (ho:o.op=.convert T' T x):G7 E.P B o a w (n6 E o s):=by
 have he:execOp a.eval o=(do pure (.value (<- convert T' T (a.eval x)))):=by simp [execOp,ho]
 unfold n6;rw [ho];simp only
 split
 ·rename_i k n k0 by0 k' by_ hx lV hT
  obtain ⟨hv,_⟩:=VX.J6 (D8 h hx);have hu:=zk (s7 hE hT);have pd:=zk (s7 hE lV);refine J9 he h (val:=.int k' (k'.wrap n)) ?_ (VX.int (V7 _ _));rw [hv];simp [convert,x8 hu,x8 pd,Conv.intToInt]
 ·rename_i y b0 b1 hx lV hT
  split
  ·rename_i d hd
   refine G7.lay (λ v s' hl=>?_);obtain ⟨hv,hlen⟩:=VX.zS (D8 h hx);have pd:=Y9 (s7 hE lV);obtain ⟨et,k',f1,f2,f3⟩:=H9 (s7 hE hT);have f4:=zk f3;have aP:=run_bytes_of_string (P:=E.P) w T' T et ⟨y.toArray⟩ pd f1 f4;have aW:(⟨y.toArray⟩:ByteArray).size=List.length y:=rfl;rw [aW] at aP;have kG:=grownCap_ge w (List.length y) 0 et;have gg:=grownCap_le_maxLen w (List.length y) 0 et hlen;generalize grownCap w (List.length y) 0 et=gc at aP kG gg;have cH:(bytesRow ⟨y.toArray⟩ gc)=(byteCells ⟨y.toArray⟩++List.replicate (gc - List.length y) (Value.int .u8 0)).toArray:=by
    apply aGz;simp [bytesRow,byteCells,aW]
   rw [cH] at aP;have bQ:(byteCells ⟨y.toArray⟩).length=List.length y:=by rw [byteCells_length]; rfl
   have iA:(List.map (λ b:UInt8=>(b.toNat:Int)) y).length=List.length y:=aAl ..;have hp:G2 [] w (w.drew.alloc (.cells (byteCells ⟨y.toArray⟩++List.replicate (gc - List.length y) (Value.int .u8 0)).toArray et ((byteCells ⟨y.toArray⟩++List.replicate (gc - List.length y) (Value.int .u8 0)).toArray.size,(byteCells ⟨y.toArray⟩++List.replicate (gc - List.length y) (Value.int .u8 0)).toArray.size+1))) :=
    G2.trans G2.drew (G2.push _) (by simp)
   obtain ⟨O2,k1,k2,k3⟩:=Fu (w:=w) (S:=S) (t:=.int .u8) (l:=(List.map (λ b:UInt8=>(b.toNat:Int)) y:List Int)) (cap:=gc) h.hs.slt (O:=[]) (cells:=byteCells ⟨y.toArray⟩++List.replicate (gc - List.length y) (Value.int .u8 0)) (by
    show j5 _ 1 [] (List.take ((List.map (λ b:UInt8=>(b.toNat:Int)) y).length*1) _) _;rw [iA,Nat.mul_one,aDd bQ];exact c4M y) (by show (List.map (λ b:UInt8=>(b.toNat:Int)) y).length<=gc; rw [iA]; exact kG) gg (by simp only [aAd,aCc,bQ,Ty.size]; omega) et (by simp)
    (w':=w.drew.alloc (.cells (byteCells ⟨y.toArray⟩++List.replicate (gc - List.length y) (Value.int .u8 0)).toArray et ((byteCells ⟨y.toArray⟩++List.replicate (gc - List.length y) (Value.int .u8 0)).toArray.size,(byteCells ⟨y.toArray⟩++List.replicate (gc - List.length y) (Value.int .u8 0)).toArray.size+1))) rfl (.inr ⟨rfl,by simp⟩)
   have eg:=h.B9 (g:=[]) rfl;refine D0.lay hl (val:=.slice (some ⟨w.heap.size,0,none⟩) (List.length y) gc) (by rw [he,hv]; simp only [Sem.run_bind,aP,Result.andThen_ok,Sem.run_pure]) (by rw [<- iA]; rfl) k1 (eg.vC H2.nil hp) (H2.new eg H2.nil hp (by show w.heap.size<(w.heap.push _).size; simp) k2 (k3 aAy))
  ·trivial
 ·rename_i b0 b1 _ lV hT
  obtain ⟨et,k',f1,f2,f3⟩:=H9 (s7 hE lV);have f4:=zk f3;have f5:=Y9 (s7 hE hT)
  split
  ·rename_i l fE
   obtain ⟨A,c,e,k⟩:=ES h.hs (h.ev x) fE;have hlen:=Jk h.hs (h.ev x) fE;refine J9 he h (val:=.string ⟨(List.map (λ n:Int=>UInt8.ofNat n.toNat) l).toArray⟩) ?_ (VX.str (by rw [aAl]; exact hlen));rw [e];simp only [convert,Sem.run_bind,x8 f1,x8 f5,Result.andThen_ok,x8 f4];have cu:∀ a0:Addr,(loadCells a0 l.length).run E.P w=.ok (l.map (Value.int .u8)).toArray w->(Conv.bytesToString (.slice (some a0) l.length c)).run E.P w=.ok (.string ⟨(List.map (λ n:Int=>UInt8.ofNat n.toNat) l).toArray⟩) w:=by
    intro a0 hl;rw [run_bytesToString w a0 l.length c l hl,QT];simp
   rcases k with rfl|⟨b,off,O',rfl,k1,k2,k3,k4⟩
   ·cases A with
    | none=>simp [Conv.bytesToString,Sem.run_pure]; rfl
    | some A=>exact cu A (run_firstCells_some w 1 0 A 0 c [] (by simp) (by simp))
   ·refine cu _ ?_
    have hc:=TU k3;have:=run_firstCells_some (P:=E.P) w 1 l.length ⟨b,off,none⟩ l.length c (l.map (Value.int .u8)) (by simp) (λ j u hu=>by
     rw [Addr.J0]; rw [<- hc] at hu; exact O8 hu)
    simpa [Builtin.firstCells] using this
  ·split
   ·rename_i hx
    have ew:[a.eval x]=[Value.slice none 0 0]:=D8 h hx;have ew:a.eval x=Value.slice none 0 0:=by simpa using ew
    refine J9 he h (val:=.string ⟨([]:yY).toArray⟩) ?_ (VX.str (by simp));rw [ew];simp [convert,Sem.run_bind,x8 f1,x8 f5,Result.andThen_ok,x8 f4,Conv.bytesToString,Sem.run_pure];rfl
   ·trivial
 ·trivial
end
end Go.Ex
