import Derived.Test.YtijlnmgondibnaaGreatDoorExK3
import Derived.Laws.AppendOwn
import Derived.Laws.BytesString
import Derived.Laws.IdiomStrings
import Derived.Deep.AppendSrc
set_option linter.unusedVariables false
set_option linter.unusedSimpArgs false
set_option linter.unusedSectionVars false
namespace Go.Ex
section
variable {E:Env} {B:D8} {S S':Nat->Prop} {ι:Ix} {s:St} {a:Act} {w:World} {hp:List (Nat×g8)} {H H':Array Go.Obj}
def bxV (g:Option Nat) (i:Nat):AV:=match g with|none=>.ptr i []|some f=>.C1 f (.cons (.ptr i []) .nil)
theorem Iq (t:Ty) (x:t.den) (i:Nat):vx t x i=(.own t x,.at_ i [])\/∃ g u y,(⟨t,x⟩:Sigma Ty.den)=⟨.box true g u,some y⟩/\vx t x i=(.var u y,bxV g i):=by
 unfold vx
 split
 ·exact .inr ⟨none,_,_,rfl,rfl⟩
 ·exact .inr ⟨some _,_,_,rfl,rfl⟩
 ·exact .inl rfl
theorem YS {t:Ty} {x:t.den} {i k:Nat} (h:k≠i):(vx t x i).2.i7 k=false:=by
 rcases Iq t x i with e|⟨g,u,y,_,e⟩
 ·rw [e]; exact a28 h
 ·rw [e]
  cases g with
  | none=>exact a28 h
  | some f=>show (AV.i7 k (.ptr i []) || false)=false; rw [Bool.or_false]; exact a28 h
theorem c0g {t:Ty} {x:t.den} {i:Nat} {O:List Nat} {cs:List Value} (hR:g9 H S t O cs x) (aF:O.Nodup):∃ ι1,(∀ j,j≠i->E3 ι ι1 j)/\OB H S ι1 i (vx t x i).1/\(∀ b∈l5 ι1 i (vx t x i).1,b∈O) /\
  VX H S ι1 (Ex.put i (vx t x i).1 hp) (vx t x i).2 [o8 t cs]:=by
 rcases Iq t x i with e|⟨g,u,y,e0,e⟩
 ·rw [e]
  exact ⟨ι.T8 i cs O,λ j hj=>EC hj _ _,⟨⟨O,by simp [Ix.T8],by simpa [Ix.T8] using hR⟩,by simpa [Ix.T8] using aF⟩,by intro b hb; simpa [l5,Ix.T8] using hb,zD hR.length⟩
 ·cases e0
  rw [e];rcases hR with ⟨h0,_⟩|⟨z,b,off,O',h0,rfl,h2,h3,rfl,h5⟩
  ·cases h0
  cases h0;have bf:b<H.size:=by obtain ⟨_,_,⟨_,e,_⟩,_⟩:=h5; exact (Array.getElem?_eq_some_iff.1 e).1
  refine ⟨ι.S9 i (b,off) O',λ j hj=>KN hj _ _,⟨⟨O',by simp [Ix.S9],by simpa [Ix.S9] using h3⟩,by simpa [Ix.S9] using h5,by simpa [Ix.S9] using aF⟩,by intro c hc; simpa [l5,Ix.S9] using hc,?_⟩;have hp:VX H S (ι.S9 i (b,off) O') (Ex.put i (.var u y) hp) (.ptr i []) [.pointer (some ⟨b,off,none⟩)]:=by
   refine ⟨.var u y,b,off,by simp [o5],M7,?_,rfl⟩;simp only [Loc,Place,VR,VH,x8,Ix.S9,if_true,bf]
  cases g with
  | none=>exact hp
  | some f=>exact ⟨[.pointer (some ⟨b,off,none⟩)],rfl,_,_,rfl,hp,rfl⟩
theorem KY:∀ {ts:List Ty} {x:DL ts} {d j:Nat} {ι:Ix} {hp:List (Nat×g8)} {l:AV} {cH:List (Nat×g8)} {O:List Nat} {us:List Value},W7 ts x d j hp=some (l,cH)->HS B S ι hp w->K3 w.heap S ts O us x ->
  E9 B S ι hp w O->∃ ι',HS B S ι' cH w/\VX w.heap S ι' cH l us/\(∀ v vs,(∀ k,j<=k->k<j+ts.length->v.i7 (N2 d k)=false)->VX w.heap S ι hp v vs->VX w.heap S ι' cH v vs)
 | [],x,d,j,ι,hp,l,cH,O,us,hl,h,hR,_=>by
  simp only [W7,Option.some.injEq,Prod.mk.injEq] at hl;obtain ⟨rfl,rfl⟩:=hl;exact ⟨ι,h,hR.2,λ v vs _ hv=>hv⟩
 | t::ts,x,d,j,ι,hp,l,cH,O,us,hl,h,⟨v1,us1,O1,O2,cs,e1,e2,e3,h1,h2⟩,hF=>by
  subst e2;have ew:=List.nodup_append.1 hF.1;simp only [W7] at hl;split at hl
  ·rename_i hs
   split at hl
   ·rename_i l' fN ez
    cases hl;have cm:=h1.M8 hs;subst cm;obtain ⟨ι',k1,k2,k3⟩:=KY ez h h2 (hF.sub ew.2.1 (λ b hb=>by simp [hb]));refine ⟨ι',k1,⟨v1,us1,e1,⟨cs,by rw [e3],h1⟩,k2⟩,λ v vs hm hv=>k3 v vs (λ k ju fb=>hm k (by omega) (by simp; omega)) hv⟩
   ·cases hl
  ·split at hl
   ·cases hl
   ·rename_i dm
    split at hl
    ·rename_i l' fN ez
     cases hl;have hd:look (N2 d j) hp=none:=dm;obtain ⟨ι1,hs,oY,dG,jC⟩:=c0g (hp:=hp) (ι:=ι) (i:=N2 d j) h1 ew.1;have hH:HS B S ι1 (Ex.put (N2 d j) (vx t x.1 (N2 d j)).1 hp) w:=h.add hd hs oY (O:=O1) dG (hF.sub ew.1 (λ b hb=>by simp [hb]));have nz:E9 B S ι1 (Ex.put (N2 d j) (vx t x.1 (N2 d j)).1 hp) w O2:=by
      refine ⟨ew.2.1,λ b hb=>?_⟩;obtain ⟨q1,q2,q3,q4⟩:=hF.2 b (by simp [hb]);refine ⟨q1,q2,q3,λ i e hi=>?_⟩;rw [o5] at hi;by_cases ei:i=N2 d j
      ·subst ei; rw [if_pos rfl] at hi; cases hi
       exact λ eu=>ew.2.2 b (dG b eu) b hb rfl
      ·rw [if_neg ei] at hi
       rw [(hs i ei).l5];exact q4 i e hi
     obtain ⟨ι',k1,k2,k3⟩:=KY ez hH h2 nz;rw [<- e3] at jC;refine ⟨ι',k1,⟨v1,us1,e1,k3 _ _ (λ k ju fb=>?_) jC,k2⟩,λ v vs hm hv=>?_⟩
     ·exact YS (by simp only [N2]; omega)
     ·exact k3 v vs (λ k ju fb=>hm k (by omega) (by simp; omega)) (VX.add hs (hm j (Nat.le_refl _) (by simp)) hv)
    ·cases hl
theorem EK {d:Nat}:∀ {n:Nat} {fr:List (Nat×AV)},xl d n fr=true->∀ k,k<n->vO (N2 d k) fr=true
 | 0,_,_,k,hk=>by omega
 | n+1,fr,h,k,hk=>by
  simp only [xl,Bool.and_eq_true] at h;by_cases e:k=n
  ·subst e; exact h.1
  ·exact EK h.2 k (by omega)
theorem Kv:∀ {ts:List Ty} {x:DL ts} {d j:Nat} {hp:List (Nat×g8)} {l:AV} {cH:List (Nat×g8)},W7 ts x d j hp=some (l,cH)->l.lst=true
 | [],x,d,j,hp,l,cH,h=>by
  simp only [W7,Option.some.injEq,Prod.mk.injEq] at h;rw [<- h.1]; rfl
 | t::ts,x,d,j,hp,l,cH,h=>by
  simp only [W7] at h;split at h
  ·split at h
   ·rename_i l' fN ez
    cases h;show l'.lst=true;exact Kv ez
   ·cases h
  ·split at h
   ·cases h
   ·split at h
    ·rename_i l' fN ez
     cases h;show l'.lst=true;exact Kv ez
    ·cases h
theorem WY {l:AV} {us:List Value} (hl:l.lst=true) (h:VX H S ι hp l us):VX H S ι hp l.one [wj us]:=by
 cases l<;>simp only [AV.lst] at hl<;>first|cases hl|skip
 ·have:us=[]:=h
  subst this;exact ⟨[],rfl,rfl⟩
 ·rename_i a b
  obtain ⟨v,us',rfl,ha,hb⟩:=h;cases b<;>simp only [AV.lst] at hl<;>first|cases hl|skip
  ·have:us'=[]:=hb
   subst this; exact ha
  ·obtain ⟨v2,us2,rfl,dG,fq⟩:=hb
   exact ⟨v::v2::us2,rfl,v,_,rfl,ha,v2,us2,rfl,dG,fq⟩
theorem VX.app {l m:AV}:∀ {us vs:List Value},l.lst=true->VX H S ι hp l us->VX H S ι hp m vs->VX H S ι hp (l.app m) (us++vs):=by
 induction l<;>intro us vs hl h hm<;>simp only [AV.lst] at hl<;>first|cases hl|skip
 ·have:us=[]:=h
  subst this; exact hm
 ·rename_i a b _ ihb
  obtain ⟨v,us',rfl,ha,hb⟩:=h;exact ⟨v,us'++vs,rfl,ha,ihb hl hb hm⟩
theorem Nh (s:St):∀ l:List Operand,(s.J3 l).lst=true
 | []=>rfl
 | _::l=>Nh s l
theorem W5:∀ {ks:List PK} {vs:List Value} {y:DL (E1 ks)} {L:List Nat},E1 ks=[]->F8 H S ks vs y L->L=[]
 | [],_,_,_,_,h=>h.2
 | .rw t::ks,_,_,_,e,_=>by cases e
 | .mu t::ks,_,_,_,e,_=>by cases e
 | .v _::ks,_,_,_,e,⟨_,us,_,h⟩=>W5 (ks:=ks) e h
 | .rd _::ks,_,_,_,e,⟨_,us,_,h⟩=>W5 (ks:=ks) e h
 | .C1 _ _::ks,_,_,_,e,⟨_,us,_,h⟩=>W5 (ks:=ks) e h
 | .T1::ks,_,_,_,e,⟨_,us,_,h⟩=>W5 (ks:=ks) e h
 | .rcs _ _::ks,_,_,_,e,⟨_,us,_,h⟩=>W5 (ks:=ks) e h
 | .el _::ks,_,_,_,e,⟨_,us,_,h⟩=>W5 (ks:=ks) e h
 | .own _::ks,_,_,_,e,⟨_,us,_,h⟩=>W5 (ks:=ks) e h
theorem AM {k:PK} {v:AV} {x:k.den} {g m:List Nat} (h:v.P5 s k=some (x,g,m)) (hk:(match k with|.rw _|.mu _=>false|_=>true)=true):m=[]:=by
 cases k with
 | v t=>simp only [AV.P5] at h; split at h<;>cases h; rfl
 | rd t=>simp only [AV.P5] at h; split at h<;>cases h; rfl
 | C1 f ts =>
  cases v<;>simp only [AV.P5] at h<;>first|cases h|skip
  split at h
  ·split at h<;>cases h; rfl
  ·cases h
 | T1=>simp only [AV.P5] at h; split at h<;>cases h; rfl
 | rcs f n=>simp only [AV.P5] at h; cases h
 | el q=>simp only [AV.P5] at h; cases h
 | own t =>
  simp only [AV.P5] at h;split at h
  ·split at h<;>cases h; rfl
  ·split at h
   ·split at h<;>cases h; rfl
   ·cases h
 | rw t=>cases hk
 | mu t=>cases hk
def TP (H':Array Go.Obj) (S':Nat->Prop) (ι:Ix) (i:Nat) (e':g8) (L:List Nat):Prop :=
 ∃ O',OB H' S' (ι.C3 i O') i e'/\L=l5 (ι.C3 i O') i e'
theorem zB (h:HS B S ι s.hp w):∀ {ks:List PK} {v:AV} {x:DK ks} {vs:List Value} {g m:List Nat} {y:DL (E1 ks)} {s1 s2:St} {L:List Nat},AV.uV s ks v=some (x,g,m)->VX w.heap S ι s.hp v vs->wr ks y m s1=some s2->F8 H' S' ks vs y L->L.Nodup ->
  (m=[]/\s2=s1/\L=[])\/(∃ i e e',m=[i]/\look i s.hp=some e/\AY e e'/\s2=(s1.Y1 i e.Y2).w4 i e'/\TP H' S' ι i e' L)
 | [],v,x,vs,g,m,y,s1,s2,L,hx,hv,hw,ho,aF=>by
  cases v<;>simp only [AV.uV] at hx<;>first|cases hx|skip
  simp only [wr,Option.some.injEq] at hw;exact .inl ⟨rfl,hw.symm,ho.2⟩
 | k::ks,v,x,vs,g,m,y,s1,s2,L,hx,hv,hw,ho,aF=>by
  cases v<;>simp only [AV.uV] at hx<;>first|cases hx|skip
  rename_i a b;split at hx
  ·rename_i x1 g1 m1 x2 g2 m2 h1 h2
   cases hx;obtain ⟨v,us,rfl,ha,hb⟩:=hv;cases k with
   | v t =>
    have:=AM h1 rfl; subst this;obtain ⟨v',us',e,eT⟩:=ho;cases e;exact zB h h2 hb hw eT aF
   | rd t =>
    have:=AM h1 rfl; subst this;obtain ⟨v',us',e,eT⟩:=ho;cases e;exact zB h h2 hb hw eT aF
   | C1 f ts =>
    have:=AM h1 rfl; subst this;obtain ⟨v',us',e,eT⟩:=ho;cases e;exact zB h h2 hb hw eT aF
   | T1 =>
    have:=AM h1 rfl; subst this;obtain ⟨v',us',e,eT⟩:=ho;cases e;exact zB h h2 hb hw eT aF
   | own t =>
    have:=AM h1 rfl; subst this;obtain ⟨v',us',e,eT⟩:=ho;cases e;exact zB h h2 hb hw eT aF
   | rcs f n=>simp only [AV.P5] at h1; cases h1
   | el q=>simp only [AV.P5] at h1; cases h1
   | rw t =>
    simp only [AV.P5] at h1;split at h1
    ·rename_i i
     split at h1
     ·rename_i u z aS
      split at h1
      ·rename_i hu; subst hu; cases h1
       obtain ⟨e,b0,off,q1,q2,q3,q4⟩:=ha;obtain rfl:=wo q1 aS;have hl:(ι.root i).1=b0/\(ι.root i).2=off:=by
        have:=(C2 q3).1;simp only [Place,x8,VR,Option.some.injEq,Prod.mk.injEq] at this;exact this
       obtain ⟨rfl,rfl⟩:=hl;obtain ⟨b1,off1,O,us',L',r1,r2,r3,r4,r5⟩:=ho;have q4:v=.pointer (some ⟨(ι.root i).1,(ι.root i).2,none⟩):=by simpa using q4
       rw [q4] at r1;simp only [List.cons.injEq,Value.pointer.injEq,Option.some.injEq,Addr.mk.injEq,and_true] at r1;obtain ⟨⟨rfl,rfl⟩,rfl⟩:=r1;cases m2 with
       | cons j m2=>simp [wr] at hw
       | nil =>
        simp only [List.append_nil,wr] at hw;split at hw
        ·rename_i ko
         cases hw;have:=W5 ko r5;subst this;rw [List.append_nil] at r4;subst r4;exact .inr ⟨i,_,.var u y.1,rfl,q1,.inl ⟨u,z,y.1,rfl,rfl⟩,rfl,O,⟨⟨O,by simp [Ix.C3],r2⟩,r3,by simpa [Ix.C3] using aF⟩,by simp [l5,Ix.C3]⟩
        ·cases hw
      ·cases h1
     ·cases h1
    ·cases h1
   | mu t =>
    simp only [AV.P5] at h1;split at h1
    ·rename_i i
     split at h1
     ·rename_i u z aS
      split at h1
      ·rename_i hu; subst hu; cases h1
       obtain ⟨e,u',y',cs,q1,q2,q3,q4,q5⟩:=ha;obtain rfl:=wo q1 aS;have q3:j8 (.d0 true t) z []=some ⟨u',y'⟩:=q3;rw [B0] at q3; cases q3;obtain ⟨⟨O0,_,fB⟩,_⟩:=h.ob i _ q1;have cF:=U6 q4 fB.length;obtain ⟨cs1,O,us',L',r1,r1',r2,r4,r5⟩:=ho;have q5:v=o8 (.d0 true t) cs:=by simpa using q5
       rw [q5] at r1;have cJ:cs.length=1:=by rw [cF]; exact fB.length
       have cW:cs1=cs:=by
        match cs,cs1,cJ,r1' with
        | [c],[c'],_,_ =>
         simp only [List.cons.injEq,o8,Ty.agg] at r1;have:=r1.1;simp at this;rw [this]
       subst cW;cases m2 with
       | cons j m2=>simp [wr] at hw
       | nil =>
        simp only [List.append_nil,wr] at hw;split at hw
        ·rename_i ko
         cases hw;have:=W5 ko r5;subst this;rw [List.append_nil] at r4;subst r4;exact .inr ⟨i,_,.own (.d0 true t) y.1,rfl,q1,.inr (.inl ⟨t,z,y.1,rfl,rfl⟩),rfl,L,⟨⟨L,by simp [Ix.C3],by rw [show (ι.C3 i L).cells i=cs1 from cF.symm]; exact r2⟩,by simpa [Ix.C3] using aF⟩,by simp [l5,Ix.C3]⟩
        ·cases hw
      ·cases h1
     ·cases h1
    ·cases h1
  ·cases hx
end
end Go.Ex
namespace Go.Ex
section
variable {E:Env} {B:D8} {S S':Nat->Prop} {ι:Ix} {s:St} {a:Act} {w:World} {hp:List (Nat×g8)} {H H':Array Go.Obj}
theorem RS.share (h:RS B S ι s a w) (hS:∀ b,S b->S' b) (iL:∀ b,S' b->S b\/((B.w0.heap.size<=b\/B.M b)/\b<w.heap.size/\∀ i e,look i s.hp=some e->b∉l5 ι i e)):RS B S' ι s a w:=by
 refine ⟨⟨h.hs.os,h.hs.tape,h.hs.out,h.hs.size,h.hs.frame,?_,λ b hb=>hS b (h.hs.s0 b hb),?_,?_,?_,h.hs.dj,h.hs.pin⟩,h.dfr,h.sz,λ t v hv=>?_⟩
 ·intro b hb; rcases iL b hb with h1|h1; exact h.hs.slt b h1; exact h1.2.1
 ·intro b hb; rcases iL b hb with h1|h1; exact h.hs.s1 b h1; exact .inr h1.1
 ·intro i e hi; exact (h.hs.ob i e hi).s8 (λ _ _=>rfl) hS
 ·intro i e hi b hb
  obtain ⟨q1,q2,q3⟩:=h.hs.bl i e hi b hb;exact ⟨λ hs=>by rcases iL b hs with h1|h1; exact q1 h1; exact h1.2.2 i e hi hb,q2,q3⟩
 ·exact VX.grow (λ _ _=>rfl) hS h.hs.slt h.hs.ob (h.fr t v hv)
theorem KT (hE:C6 E B) (h:RS B S ι s a w) {o:Oper} {c:Call} (ho:o.op=.call c) {f:Operand} (hf:c.callee=.value f) {g:FuncId} {caps:AV} {us:List Value} (he:a.eval f=.func (.func g) #[] us.toArray) (cQ:VX w.heap S ι s.hp caps us) :
  E6 E.P B o a w (R7 E g ((s.J3 c.args.toList).app caps) o.dst s):=by
 have aD:=VX.app (Nh s _) (h.J3 c.args.toList) cQ;generalize rb:(s.J3 c.args.toList).app caps=av at *
 unfold R7
 split
 ·trivial
 ·rename_i ct nU
  have hV:=hE.C5 g ct nU
  split
  ·trivial
  ·rename_i x gs ms hx
   split
   ·trivial
   ·rename_i bD
    split
    ·trivial
    ·rename_i s2 oz
     split
     ·trivial
     ·rename_i gg
      split
      ·rename_i l cH hl
       intro aV next Q hn
       simp only [Bool.and_eq_true,Bool.or_eq_true] at bD;obtain ⟨⟨⟨⟨ju,fb⟩,sE⟩,sD⟩,_⟩:=bD;obtain ⟨fn,jA,fQ,gP⟩:=hV.ent;have mz:=BY ju
       let S1:Nat->Prop:=λ b=>S b\/M1 ι s.hp (R7.loose ct.ps av) b
       obtain ⟨L,hK,fD,ee,og⟩:=IZ (S1:=S1) h.hs (λ b hb=>.inl hb) hx aD mz (λ b hb=>.inr hb);have gl:∀ b,S1 b->b<w.heap.size:=by
        rintro b (hb|⟨i,e,h1,h2,h3⟩)
        ·exact h.hs.slt b hb
        ·exact (h.hs.bl i e h2 b h3).2.2
       have oh:∀ b∈L,¬ S1 b/\b<w.heap.size:=by
        intro b hb;obtain ⟨i,e,h1,h2,h3⟩:=ee b hb;obtain ⟨q1,q2,q3⟩:=h.hs.bl i e h2 b h3;refine ⟨?_,q3⟩;rintro (hs|⟨j,ej,r1,r2,r3⟩)
        ·exact q1 hs
        ·have bS:i≠j:=by rintro rfl; exact QX fb i h1 r1
         exact h.hs.dj i j e ej h2 r2 bS b h3 r3
       have iJ:Calls E.P g (c.args.toList.map a.eval++us).toArray w (λ e w'=>∃ rs O Lo S',e=.returned (wj rs)/\E4 L w w'/\(∀ b,S1 b->S' b)/\(∀ b,S' b->S1 b\/((w.heap.size<=b\/b∈L)/\b<w'.heap.size)) /\
         K3 w'.heap S' ct.rs O rs (ct.fn x)/\F8 w'.heap S' ct.ps (c.args.toList.map a.eval++us) (ct.out x) Lo/\(O++Lo).Nodup/\(∀ b∈O++Lo,¬ S' b/\(w.heap.size<=b\/b∈L)/\b<w'.heap.size) /\
         (ct.new=true->K3 w'.heap (λ b=>S' b/\w.heap.size<=b) ct.rs O rs (ct.fn x))):=by
        cases rZ:ct.new with
        | true=>exact (hV.fresh rZ w S1 _ x L gl ((hE.gb.at_ h.hs).sub (λ b hb=>.inl hb)) aV hK (a12 (Bu hx)) fD oh).mono (λ e w' ⟨rs,O,Lo,S',a1,a2,a3,a4,a5,a6,a7,a8,a9⟩=>⟨rs,O,Lo,S',a1,a2,a3,a4,a5,a6,a7,a8,λ _=>a9⟩)
        | false=>exact (hV.run w S1 _ x L gl ((hE.gb.at_ h.hs).sub (λ b hb=>.inl hb)) aV hK (a12 (Bu hx)) fD oh).mono (λ e w' ⟨rs,O,Lo,S',a1,a2,a3,a4,a5,a6,a7,a8⟩=>⟨rs,O,Lo,S',a1,a2,a3,a4,a5,a6,a7,a8,λ h=>by cases h⟩)
       unfold Oper.wp;have aP:(execOp a.eval o).run E.P w=.ok (.enter g (c.args.toList.map a.eval++us).toArray) w:=by
        have cI:fn.body.isNone=false:=gP;have hq:(fn.name == "runtime.NumGoroutine")=false:=fQ
        simp only [execOp,ho,resolve,hf,he,Deferred.ofValue,Sem.run_bind,Sem.run_pure,Result.andThen,invoke,callFunc,program];simp [Sem.run,jA,hq,cI]
       rw [aP];refine Calls.mono iJ ?_;rintro e w' ⟨rs,O,Lo,S',e1,bm,gR,jh,eJ,eK,aF,hO,dJ⟩;subst e1;have aX:=bm.size;have hd:=h.w6 (g:=gs) (by simpa using sE);have pC:∀ i∈gs,i∉ms:=λ i hi hm=>(List.nodup_append.1 mz).2.2 i hi i hm rfl;have main:∀ S2:Nat->Prop,(∀ b,S b->S2 b)->(∀ b,S2 b->S b\/((w.heap.size<=b\/b∈L)/\b<w'.heap.size))->(∀ b∈O++Lo,¬ S2 b)->K3 w'.heap S2 ct.rs O rs (ct.fn x)->F8 w'.heap S2 ct.ps (c.args.toList.map a.eval++us) (ct.out x) Lo->next (a.put o.dst (wj rs)) w':=by
        intro S2 ri nq oc lX mi;have rm:∀ {L':List Nat},L'.Nodup->(∀ b∈L',b∈L)->(∀ b∈L',∀ i e,i∈ms->look i s.hp=some e->b∉l5 ι i e)->E9 B S ι (St.w6 gs s).hp w L':=by
         intro L' jR bU kI;refine E9.w6 h.hs jR (λ b hb=>?_);obtain ⟨i,e,q1,q2,q3⟩:=ee b (bU b hb);rcases List.mem_append.1 q1 with q1|q1
         ·exact ⟨i,e,q1,q2,q3⟩
         ·exact absurd q3 (kI b hb i e q1 q2)
        have fin:∀ {ι2:Ix},RS B S2 ι2 s2 a w'->E9 B S2 ι2 s2.hp w' O->next (a.put o.dst (wj rs)) w':=by
         intro ι2 ft nz;obtain ⟨ι',k1,k2,k3⟩:=KY hl ft.hs lX nz;refine hn S2 ι' w' (wj rs) ⟨k1,ft.dfr,ft.sz,λ t v hv=>?_⟩ (WY (Kv hl) k2);exact k3 v _ (λ k ju fb=>BX (EK gg k (by omega)) hv) (ft.fr t v hv)
        have nu:∀ b∈O,¬ S2 b/\(B.w0.heap.size<=b\/B.M b)/\b<w'.heap.size:=by
         intro b hb;obtain ⟨q1,q2,q3⟩:=hO b (List.mem_append_left _ hb);refine ⟨oc b (List.mem_append_left _ hb),?_,q3⟩;rcases q2 with q2|q2
         ·exact .inl (Nat.le_trans h.hs.size q2)
         ·obtain ⟨i,e,_,r2,r3⟩:=ee b q2
          exact (h.hs.bl i e r2 b r3).2.1
        have rj:∀ b∈O,∀ j ej,j∉gs->j∉ms->look j s.hp=some ej->b∉l5 ι j ej:=by
         intro b hb j ej py iV dn iX;obtain ⟨q1,q2,q3⟩:=hO b (List.mem_append_left _ hb);rcases q2 with q2|q2
         ·have:=(h.hs.bl j ej dn b iX).2.2; omega
         ·obtain ⟨i,e,r1,r2,r3⟩:=ee b q2
          have bS:i≠j:=by rintro rfl; rcases List.mem_append.1 r1 with r1|r1; exact py r1; exact iV r1
          exact h.hs.dj i j e ej r2 dn bS b r3 iX
        rcases zB h.hs hx aD oz mi (List.nodup_append.1 aF).2.1 with ⟨rfl,rfl,rfl⟩|⟨i,e,e',rfl,hi,eP,rfl,O',aS,lM⟩
        ·
         have hF:=rm fD (λ b hb=>hb) (by simp);have jF:=hd.uW hF bm;have ft:RS B S2 ι (St.w6 gs s) a w':=jF.share ri (λ b hb=>by
          rcases nq b hb with h1|h1
          ·exact .inl h1
          ·rcases h1.1 with h2|h2
           ·refine .inr ⟨.inl (Nat.le_trans h.hs.size h2),h1.2,λ j ej hj iX=>?_⟩
            have:=(hd.hs.bl j ej hj b iX).2.2; omega
           ·exact .inr ⟨(hF.2 b h2).2.1,h1.2,(hF.2 b h2).2.2.2⟩)
         refine fin ft ⟨(List.nodup_append.1 aF).1,λ b hb=>?_⟩;obtain ⟨q1,q2,q3⟩:=nu b hb;refine ⟨q1,q2,q3,λ j ej hj=>?_⟩;rw [I8] at hj;split at hj
         ·cases hj
         ·rename_i fT; exact rj b hb j ej fT (by simp) hj
        ·
         have sK:i∉gs:=λ cV=>pC i cV (by simp);have cV:look i (St.w6 gs s).hp=some e:=by rw [I8,if_neg sK]; exact hi
         have hF:=rm (L':=L.filter (λ b=>!(l5 ι i e).contains b)) (fD.filter _) (λ b hb=>(List.mem_filter.1 hb).1) (λ b hb j ej hj dn=>by
          simp only [List.mem_cons,List.not_mem_nil,or_false] at hj;subst hj;rw [hi] at dn; cases dn;have:=(List.mem_filter.1 hb).2;simpa using this)
         have ft:=hd.renew cV eP hF bm (λ b hb=>by
          by_cases ki:b∈l5 ι i e
          ·exact .inl ki
          ·exact .inr (List.mem_filter.2 ⟨hb,by simpa using ki⟩)) ri nq aS (λ c hc=>by
           rw [<- lM] at hc;obtain ⟨q1,q2,q3⟩:=hO c (List.mem_append_right _ hc);exact ⟨oc c (List.mem_append_right _ hc),q2,q3⟩)
         refine fin ft ⟨(List.nodup_append.1 aF).1,λ b hb=>?_⟩;obtain ⟨q1,q2,q3⟩:=nu b hb;refine ⟨q1,q2,q3,λ j ej hj=>?_⟩;simp only [St.w4,o5] at hj;by_cases dI:j=i
         ·subst dI
          rw [if_pos rfl] at hj; cases hj;rw [<- lM];exact λ bR=>(List.nodup_append.1 aF).2.2 b hb b bR rfl
         ·rw [if_neg dI] at hj
          have hj:look j (St.w6 gs s).hp=some ej:=hj;rw [(V7 dI O').l5];rw [I8] at hj;split at hj
          ·cases hj
          ·rename_i fT; exact rj b hb j ej fT (by simpa using dI) hj
       rcases sD with ⟨gL|gL,mr⟩|hle
       rotate_left
       ·refine main (λ b=>S b\/(S' b/\w.heap.size<=b)) (λ _ h=>.inl h) (λ b hb=>?_) (λ b hb hs=>?_) ?_ (eK.J0 mr)
        ·rcases hb with hb|⟨hb,fq⟩
         ·exact .inl hb
         ·rcases jh b hb with h1|h1
          ·have:=gl b h1; omega
          ·exact .inr ⟨.inl fq,h1.2⟩
        ·rcases hs with hs|hs
         ·exact (hO b hb).1 (gR b (.inl hs))
         ·exact (hO b hb).1 hs.1
        ·exact (dJ gL).mono (λ b hb=>.inr hb)
       rotate_left
       ·exact main S (λ _ h=>h) (λ b hb=>.inl hb) (λ b hb hs=>(hO b hb).1 (gR b (.inl hs))) (eJ.J0 gL) (eK.J0 mr)
       ·have iS:R7.loose ct.ps av=[]:=by
         revert hle;cases R7.loose ct.ps av with
         | nil=>intro _; rfl
         | cons x y=>intro h; cases h
        refine main S' (λ b hb=>gR b (.inl hb)) (λ b hb=>?_) (λ b hb=>(hO b hb).1) eJ eK;rcases jh b hb with (h1|⟨i,e,h1,_⟩)|h1
        ·exact .inl h1
        ·rw [iS] at h1; cases h1
        ·exact .inr h1
      ·trivial
theorem E6.xB {P:Program} {o:Oper} {r:OR} {p:Prop} (h:p->E6 P B o a w r):E6 P B o a w (r.xB p):=by
 cases r with
 | fail y=>trivial
 | ok v s'=>exact λ hp=>h hp.1
 | F0 q v s'=>exact λ hp=>h hp.1 hp.2
theorem Hg (h:RS B S ι s a w) {x:Operand} {g:Nat} {b:Bool} (hx:s.ev x=.val (.fn g) b):a.eval x=fnV g b:=by
 obtain ⟨cs,e,_,rfl⟩:=C0 h hx;simpa [o8,Ty.agg] using e
end
end Go.Ex
namespace Go.Ex
section
variable {E:Env} {B:D8} {S S':Nat->Prop} {ι ι':Ix} {s:St} {a:Act} {w w':World} {hp:List (Nat×g8)} {H H':Array Go.Obj}
end
end Go.Ex
namespace Go.Ex
section
variable {E:Env} {B:D8} {S S':Nat->Prop} {ι:Ix} {s:St} {a:Act} {w:World} {hp:List (Nat×g8)} {H H':Array Go.Obj}
theorem b7A (hE:C6 E B) (h:RS B S ι s a w) {o:Oper} {T:TypeId} {x y:Operand} (ho:o.op=.index T x y):E6 E.P B o a w (l7 E o s):=by
 have he:execOp a.eval o=(do pure (.value (<- Instr.index T (a.eval x) (a.eval y)))):=by simp [execOp,ho]
 unfold l7;rw [ho];simp only
 split
 ·rename_i l k n hx hy
  split
  ·rename_i hc
   intro hn;obtain ⟨fY,_⟩:=VX.yH (C0 h hx);obtain ⟨dH,_⟩:=VX.H5 (C0 h hy);have hu:=W2 (C8 hE hc);exact H9 he h (val:=.int .u8 ((List.getD l (Int.toNat n) 0).toNat:Int)) (by rw [fY,dH]; exact b3W hu hn) (VX.int (by generalize List.getD l (Int.toNat n) 0=c; have:=c.toNat_lt; unfold r7; simp [IntKind.min,IntKind.max,IntKind.signed,IntKind.bits]; omega))
  ·trivial
 ·rename_i m t z k n hx hy
  split
  ·rename_i hc
   intro hn;obtain ⟨cs,e,hR⟩:=C0 h hx;have e:a.eval x=o8 (.arr m t) cs:=by simpa using e
   obtain ⟨dH,_⟩:=VX.H5 (C0 h hy);obtain ⟨et,k',h1,h2,h3⟩:=xw (C8 hE hc);obtain ⟨b1',b2,b3,b4⟩:=D5 (sz:=t.size) hn;obtain ⟨P1,P2,P3,e1,g1,g2,g3⟩:=i8.split (d:=t.r9) (i:=Int.toNat n) (by rw [hR.1]; exact b1') hR.2;have hP:P2=[]:=(List.append_eq_nil_iff.1 (List.append_eq_nil_iff.1 e1.symm).2).1;rw [hP] at g2;refine H9 he h (val:=o8 t ((cs.drop (Int.toNat n*t.size)).take t.size)) ?_ ⟨_,rfl,g2⟩;have hp:=yh (w:=w) h3 g2;rw [e,dH,o8];have jR:0<=(n:Int)/\(n:Int)<m:=hn;simp [Instr.index,asIntOf,u5 h1,Ty.agg,jR,run_sizeOf h3,hp]
  ·trivial
 ·rename_i i p k n hx hy
  split
  ·rename_i m t z cS
   split
   ·rename_i hc
    obtain ⟨e,u',y',cs,q1,q2,q3,q4,q5⟩:=C0 h hx;have dQ:=H4 q1 cS;rw [q3] at dQ; cases dQ;have q5:a.eval x=o8 (.arr m t) cs:=by simpa using q5
    obtain ⟨dH,_⟩:=VX.H5 (C0 h hy);obtain ⟨O2,m1,m2,hR⟩:=F9 h.hs q1 q2 q3 q4;obtain ⟨et,k',h1,h2,h3⟩:=xw (C8 hE hc);have core:(0<=(n:Int)/\(n:Int)<m)->∃ P2,(∀ c∈P2,c∈O2)/\g9 w.heap S t P2 ((cs.drop (Int.toNat n*t.size)).take t.size) (List.getD z (Int.toNat n) t.r9)/\(Instr.index T (a.eval x) (a.eval y)).run E.P w=.ok (o8 t ((cs.drop (Int.toNat n*t.size)).take t.size)) w:=by
     intro hn;obtain ⟨b1',b2,b3,b4⟩:=D5 (sz:=t.size) hn;obtain ⟨P1,P2,P3,e1,g1,g2,g3⟩:=i8.split (d:=t.r9) (i:=Int.toNat n) (by rw [hR.1]; exact b1') hR.2;refine ⟨P2,λ c hc=>by rw [e1]; simp [hc],g2,?_⟩;have hp:=yh (w:=w) h3 g2;rw [q5,dH,o8];have jR:0<=(n:Int)/\(n:Int)<m:=hn;simp [Instr.index,asIntOf,u5 h1,Ty.agg,jR,run_sizeOf h3,hp]
    split
    ·rename_i hs
     intro hn;obtain ⟨P2,k1,k2,k3⟩:=core hn;have:=k2.M8 hs;subst this;exact H9 he h k3 ⟨_,rfl,k2⟩
    ·intro hn
     obtain ⟨P2,k1,k2,k3⟩:=core hn;refine H9 he h k3 ⟨e,t,List.getD z (Int.toNat n) t.r9,_,q1,V8 q3 q2 ⟨hn,M7⟩,Sl q3 B0,?_,rfl⟩;obtain ⟨b0,off0,g1,rfl⟩:=q4;obtain ⟨b1',b2,b3,b4⟩:=D5 (sz:=t.size) hn;refine ⟨b0,off0+Int.toNat n*t.size,Ab q3 g1 (by simp only [x7,x8]),?_⟩;rw [n9,m0 _ _ _ _ (by simp only [Ty.size]; omega)]
   ·trivial
  ·trivial
 ·trivial
where
 b3W {P:Program} {w:World} {T:TypeId} {l:yY} {k:IntKind} {n:Int} (hu:P.underlying T=some .string) (hn:0<=n/\n<(l.length:Int)) :
   (Instr.index T (.string ⟨l.toArray⟩) (.int k n)).run P w=.ok (.int .u8 ((l.getD n.toNat 0).toNat:Int)) w:=by
  have h1:n.toNat<l.length:=by omega
  have h2:(ByteArray.mk l.toArray)[n.toNat]?=some (l.getD n.toNat 0):=by
   have:n.toNat<(ByteArray.mk l.toArray).size:=by simpa [ByteArray.size] using h1
   rw [getElem?_pos (ByteArray.mk l.toArray) n.toNat this];simp [ByteArray.getElem_eq_getElem_data,h1]
  simp [Instr.index,asIntOf,u5 hu,hn.1,h2]
theorem JM {P:Program} (h:RS B S ι s a w) {k:IntKind} {f:Int->Int->Int} {m2:Value->Value->Sem Value} (hf:∀ x y,r7 k x->r7 k y->r7 k (f x y)) (hm:∀ x y,(m2 (.int k x) (.int k y)).run P w=.ok (.int k (f x y)) w) :
  ∀ {l:List Operand} {x:Int} {v:AV} {s':St},r7 k x->foldI s k f x l=.ok v s'->∃ n,v=.val (.int k) n/\s'=s/\r7 k n/\((l.map a.eval).foldlM m2 (.int k x)).run P w=.ok (.int k n) w
 | [],x,v,s',hx,gj=>by
  simp only [foldI,OR.ok.injEq] at gj;obtain ⟨rfl,rfl⟩:=gj;exact ⟨x,rfl,rfl,hx,rfl⟩
 | y::l,x,v,s',hx,gj=>by
  simp only [foldI] at gj;split at gj
  ·rename_i k' b hy
   split at gj
   ·rename_i hk
    subst hk;obtain ⟨dH,hb⟩:=VX.H5 (C0 h hy);obtain ⟨n,k1,k2,k3,k4⟩:=JM h hf hm (hf x b hx hb) gj;refine ⟨n,k1,k2,k3,?_⟩;simp only [List.map_cons,List.foldlM_cons,Sem.run_bind,dH,hm,Result.andThen];exact k4
   ·cases gj
  ·cases gj
theorem Jn {k:IntKind} {f:Int->Int->Int}:∀ {l:List Operand} {x:Int} {p:Prop} {v:AV} {s':St},foldI s k f x l≠.F0 p v s'
 | [],x,p,v,s',h=>by cases h
 | y::l,x,p,v,s',h=>by
  simp only [foldI] at h;split at h
  ·split at h
   ·exact Jn h
   ·cases h
  ·cases h
theorem Nk {P:Program} {T ty:TypeId} {k:Nat} {u:Ty} (hT:o6 P k T u=true) {v:Value} {n:Nat}
  (h:(∃ q t b off cap,u=.d0 q t/\v=.slice b n cap/\off=0)\/(∃ l:yY,u=.str/\v=.string ⟨l.toArray⟩/\n=l.length)\/(∃ t,u=.arr n t)) :
  (Builtin.len_ #[T] ty #[v]).run P w=.ok (.int .i64 n) w:=by
 rcases h with ⟨q,t,b,off,cap,rfl,rfl,_⟩|⟨l,rfl,rfl,rfl⟩|⟨t,rfl⟩
 ·obtain ⟨e,k',h1,_⟩:=F5 hT
  simp [Builtin.len_,u5 h1,goInt]
 ·have h1:=W2 hT
  have e:(ByteArray.mk l.toArray).size=l.length:=rfl;simp [Builtin.len_,u5 h1,goInt,e]
 ·obtain ⟨e,k',h1,_⟩:=xw hT
  simp [Builtin.len_,u5 h1,goInt]
theorem yM (hE:C6 E B) (h:RS B S ι s a w) {o:Oper} {c:Call} (ho:o.op=.call c) (hc:c.callee=.builtin .len) {x:Operand} {T:TypeId} (ha:c.args.toList=[x]) (hT:c.argTypes.toList=[T]) {u:Ty} (hk:I4 E T u=true) {n:Nat}
  (hv:(∃ q t b off cap,u=.d0 q t/\a.eval x=.slice b n cap/\off=0)\/(∃ l:yY,u=.str/\a.eval x=.string ⟨l.toArray⟩/\n=l.length)\/(∃ t,u=.arr n t)) (hn:(n:Int)<=9223372036854775807) :
  y6 E.P B o a w (.val (.int .i64) (n:Int)) s:=by
 have aD:c.args=#[x]:=by rw [<- ha]
 have eB:c.argTypes=#[T]:=by rw [<- hT]
 refine y6.value (val:=.int .i64 n) ?_ h (VX.int (by unfold r7; simp [IntKind.min,IntKind.max,IntKind.signed,IntKind.bits]; omega));have:=Nk (w:=w) (ty:=o.type) (C8 hE hk) hv;simp [execOp,ho,resolve,hc,invoke,builtin,aD,eB,this]
theorem Bk {q:Bool} {u:Ty} {O:List Nat} {cs:List Value} {z:(Ty.d0 q u).den} (hR:g9 H S (.d0 q u) O cs z):∃ b cap,o8 (.d0 q u) cs=.slice b (List.length z) cap/\((List.length z:Nat):Int)<=9223372036854775807:=by
 rcases hR with ⟨_,⟨a,c,h1,_⟩,h2⟩|⟨b,off,cap,O',c1,c2,c3,_⟩
 ·subst h2; subst h1; exact ⟨a,c,rfl,by simp⟩
 ·rw [c1]; exact ⟨_,cap,rfl,by have:=c3.1; unfold maxLen at this; omega⟩
theorem Nq {u:Ty} {O:List Nat} {cs:List Value} {z:(Ty.y7 u).den} (hR:g9 H S (.y7 u) O cs z):∃ b cap,o8 (.y7 u) cs=.slice b (List.length z.2.1) cap/\((List.length z.2.1:Nat):Int)<=9223372036854775807:=by
 obtain ⟨n,l,m⟩:=z
 match n,hR with
 | 0,hR=>exact Bk (q:=false) hR
 | 1,hR=>exact Bk (q:=true) hR
 | n+2,⟨b,off,O',c1,c2,_⟩ =>
  subst c1;exact ⟨_,_,rfl,by have:=c2.1; unfold maxLen at this; show ((List.length l:Nat):Int)<=_; omega⟩
theorem QC (off:Nat):∀ (vs:List Value) (k:Nat) (cells:Array Value),off+k+vs.length<=cells.size ->
  ((vs.zipIdx k).foldl (λ cs (q:Value×Nat)=>cs.setIfInBounds (off+q.2) q.1) cells)=(over cells.toList (off+k) vs).toArray
 | [],k,cells,_=>by simp [over]
 | v::vs,k,cells,h=>by
  simp only [List.length_cons] at h;simp only [List.zipIdx_cons,List.foldl_cons];rw [QC off vs (k+1) _ (by simp; omega)];congr 1;have e:=list_seg_step cells.toList (off+k) v vs (by simp; omega);simpa [over,Array.toList_setIfInBounds,Nat.add_assoc] using e
theorem Xp {place:Nat->Option (Nat×Nat)} {cells:List Value} {i off size:Nat} {v:Value} {vs:List Value} {rest:List (Nat×Value)} (hp:place i=some (off,size)) (hv:v.cells=vs.toArray) (hl:vs.length=size) (hb:off+size<=cells.length) :
  Instr.fill place cells.toArray ((i,v)::rest)=Instr.fill place (over cells off vs).toArray rest:=by
 have hz:=QC off vs 0 cells.toArray (by simp; omega);simp only [Instr.fill,hp,hv];have h1:¬ ((vs.toArray.size≠size)\/(off+vs.toArray.size > cells.toArray.size)):=by simp [hl]; omega
 simp only [Bool.or_eq_true,decide_eq_true_eq];rw [if_neg (by simpa using h1)];congr 1;simp only [Nat.add_zero] at hz;rw [<- hz,<- Array.foldl_toList];simp
theorem WX {t:Ty} {x:t.den} {O:List Nat} {cs:List Value} (hR:g9 H S t O cs x) (hS:∀ b,S b->b<H.size) (hO:∀ b∈O,¬ S b) (aF:O.Nodup) {p:List Step} (aL:w8 t x p) {u0:Ty} {y0:u0.den} (hg:j8 t x p=some ⟨u0,y0⟩) {off:Nat}
  (hn:∀ (G:Array Go.Obj) (b o:Nat),x7 G t p b o=some (b,o+off)) {u:Ty} {z:u.den} {O2:List Nat} {cs':List Value} (hz:g9 H S u O2 cs' z) (da:O2.Nodup) (mV:∀ b∈O2,b∉O) {r:Sigma Ty.den} (aG:s6 t x p u z=some r) :
  ∃ O',g9 H S r.1 O' (over cs off cs') r.2/\O'.Nodup/\(∀ b∈O',b∈O\/b∈O2)/\r.1.sh=t.sh/\off+u0.size<=cs.length/\u.size=u0.size:=by
 have oA:=BU hg aG;have je:=F1 oA
 let G:Array Go.Obj:=H.push (.cells cs.toArray 0)
 let G':Array Go.Obj:=H.push (.cells (over cs off cs').toArray 0)
 have hold:∀ {c},c<H.size->G[c]?=H[c]?:=λ h=>BD h;have iy:∀ {c},c<H.size->G'[c]?=H[c]?:=λ h=>BD h;have dO:u7 G H.size=cs:=by simp [G,u7]
 have kh:u7 G' H.size=over cs off cs':=by simp [G',u7]
 have nY:∀ c∈O,c<H.size:=λ c hc=>hR.xb c hc;have ny:∀ c∈O2,c<H.size:=λ c hc=>hz.xb c hc;have bF:e8 G H.size 0 t.size=cs:=by
  simp only [e8,dO,List.drop_zero];exact List.take_of_length_le (by rw [hR.length]; exact Nat.le_refl _)
 have tG:g9 G S t O (e8 G H.size 0 t.size) x:=by
  rw [bF]; exact hR.s8 (λ c hc=>hold (hc.elim (nY c) (hS c))) (λ _ h=>h)
 have qZ:0+t.size<=(u7 G H.size).length:=by rw [dO,hR.length]; omega
 obtain ⟨O1,O3,b',aq,e1,e2,e3,e4,e5,e6⟩:=focus (b:=H.size) (off:=0) tG qZ aL hg
 rw [hn] at e3; cases e3;rw [dO] at e5;have hle:off+u0.size<=cs.length:=by simpa using e5
 have cJ:cs'.length=u0.size:=by rw [hz.length,je]
 have nM:(over cs off cs').length=cs.length:=Sp (by omega);have gV:¬ S H.size:=λ h=>Nat.lt_irrefl _ (hS _ h);have hc:V2 G G' H.size (0+off) u0.size:=by
  refine ⟨⟨cs.toArray,(over cs off cs').toArray,0,⟨_,⟨DR,.inl rfl⟩,DR⟩,by simp [nM],?_⟩,?_⟩
  ·intro j hj
   exact Pe (by omega) (by omega)
  ·intro c dL ig
   have:c<H.size:=by simp [G] at ig; omega
   rw [iy this,hold this]
 have ij:g9 G' S u O2 (e8 G' H.size (0+off) u.size) z:=by
  have:e8 G' H.size (0+off) u.size=cs':=by
   simp only [e8,kh,Nat.zero_add];rw [<- hz.length]; exact Nv (by omega)
  rw [this];exact hz.s8 (λ c hc=>iy (hc.elim (ny c) (hS c))) (λ _ h=>h)
 have cv:=(e1.nodup_iff).1 aF;have jq:∀ c∈O1,c∈O:=λ c hc=>e1.mem_iff.2 (by simp [hc]);obtain ⟨O4,f1,f2,f3⟩:=Bm e2 hg (hn G H.size 0) qZ (by simp [G]) (List.nodup_append.1 cv).1 (λ hm=>Nat.lt_irrefl _ (nY _ (jq _ hm))) (λ c hc=>⟨hO c (jq c hc),by have:=nY c (jq c hc); simp [G]; omega⟩) gV
  (λ c hc=>by have:=hS c hc; simp [G]; omega) (λ _ h=>h) hc ij aG
 have bU:∀ b∈O4,b∈O\/b∈O2:=λ b hb=>(List.mem_append.1 (f1.mem_iff.1 hb)).imp (jq b) id;refine ⟨O4,?_,(f1.nodup_iff).2 (List.nodup_append.2 ⟨(List.nodup_append.1 cv).1,da,λ c h1 d h2 e=>mV d h2 (e▸jq c h1)⟩),bU,f3,hle,je⟩;have:e8 G' H.size 0 r.1.size=over cs off cs':=by
  simp only [e8,kh,List.drop_zero];exact List.take_of_length_le (by rw [nM,hR.length,F1 f3]; omega)
 rw [this] at f2;exact f2.s8 (λ c hc=>(iy (hc.elim (λ h=>(bU c h).elim (nY c) (ny c)) (hS c))).symm) (λ _ h=>h)
def zi (t:Ty) (i:Nat):Nat :=
 match t with
 | .arr _ t=>i*t.size
 | t=>Q8 t i
theorem WT {t:Ty} {x:t.den} {i:Nat} (hi:wu t i=true) {r:Sigma Ty.den} (hg:j8 t x (W4 t i)=some r):w8 t x (W4 t i)/\∀ (G:Array Go.Obj) (b o:Nat),x7 G t (W4 t i) b o=some (b,o+zi t i):=by
 obtain ⟨u,y⟩:=r;cases t with
 | arr n t =>
  have:i<n:=by simpa [wu,Nat.blt_eq] using hi
  refine ⟨⟨by omega,M7⟩,λ G b o=>?_⟩;simp [W4,x7,zi,x8]
 | _=>exact ⟨xO hg,λ G b o=>ya hg⟩
theorem EB (h:RS B S ι s a w) {place:Nat->Option (Nat×Nat)}:∀ {parts:List (Nat×Operand)} {t:Ty} {x:t.den} {O:List Nat} {cs:List Value} {r:Sigma Ty.den} {G g:List Nat},g9 w.heap S t O cs x->O.Nodup->(∀ b∈O,M1 ι s.hp G b)->(G++g).Nodup->parts.all (λ q=>wu t q.1)=true ->
  (∀ (t':Ty) (x':t'.den) (i:Nat) (u:Ty) (y:u.den),t'.sh=t.sh->j8 t' x' (W4 t' i)=some ⟨u,y⟩->wu t' i=true->place i=some (zi t' i,u.size))->R8 s ⟨t,x⟩ parts=some (r,g) ->
  ∃ cs' O',Instr.fill place cs.toArray (parts.map λ q=>(q.1,a.eval q.2))=some cs'.toArray/\g9 w.heap S r.1 O' cs' r.2/\O'.Nodup/\(∀ b∈O',M1 ι s.hp (G++g) b)/\r.1.sh=t.sh
 | [],t,x,O,cs,r,G,g,hR,aF,hO,_,_,_,hb=>by
  simp only [R8,Option.some.injEq,Prod.mk.injEq] at hb;obtain ⟨rfl,rfl⟩:=hb;exact ⟨cs,O,rfl,hR,aF,λ b hb=>(hO b hb).mono (by simp),rfl⟩
 | (i,v)::parts,t,x,O,cs,r,G,g,hR,aF,hO,hG,bH,hp,hb=>by
  simp only [List.all_cons,Bool.and_eq_true] at bH;simp only [R8] at hb;split at hb
  ·cases hb
  ·rename_i u0 y0 hg
   obtain ⟨aL,jl⟩:=WT bH.1 hg;have kE:=hp t x i u0 y0 rfl hg bH.1;have oc:∀ b∈O,¬ S b:=λ b hb=>by obtain ⟨j,e,_,q2,q3⟩:=hO b hb; exact (h.hs.bl j e q2 b q3).1
   have one:∀ {u:Ty} {z:u.den} {O2:List Nat} {cs1:List Value} {r1:Sigma Ty.den} {g1 g2:List Nat},g9 w.heap S u O2 cs1 z->O2.Nodup->(∀ b∈O2,M1 ι s.hp g1 b)->a.eval v=o8 u cs1->s6 t x (W4 t i) u z=some r1->R8 s r1 parts=some (r,g2)->g=g1++g2 ->
     ∃ cs' O',Instr.fill place cs.toArray (((i,v)::parts).map λ q=>(q.1,a.eval q.2))=some cs'.toArray/\g9 w.heap S r.1 O' cs' r.2/\O'.Nodup/\(∀ b∈O',M1 ι s.hp (G++g) b)/\r.1.sh=t.sh:=by
    intro u z O2 cs1 r1 g1 g2 hz da eR de aG hb sR;subst sR;have mV:∀ b∈O2,b∉O:=by
     intro b fq dG;obtain ⟨i1,e1,q1,q2,q3⟩:=eR b fq;obtain ⟨i2,e2,r1',r2,r3⟩:=hO b dG;have bG:i1≠i2:=by rintro rfl; exact (List.nodup_append.1 hG).2.2 i1 r1' i1 (by simp [q1]) rfl
     exact h.hs.dj i1 i2 e1 e2 q2 r2 bG b q3 r3
    obtain ⟨O',k1,Tk,Tj,k2,k3,k4⟩:=WX hR h.hs.slt oc aF aL hg jl hz da mV aG;obtain ⟨t1,x1⟩:=r1;have cj:t1.sh=t.sh:=k2;have dv:∀ j,wu t1 j=wu t j:=by
     intro j;cases t<;>cases t1<;>simp only [Ty.sh] at cj<;>first|cases cj|rfl|skip
     all_goals first|rfl|(simp only [Ty.arr.injEq] at cj; simp only [wu,cj.1])
    obtain ⟨cs',O4,q1,q2,q3,q4,q5⟩:=EB h (place:=place) (parts:=parts) (G:=G++g1) (g:=g2) k1 Tk (λ b hb=>(Tj b hb).elim (λ hb=>(hO b hb).mono (by simp; intro i hi; exact .inl hi)) (λ hb=>(eR b hb).mono (by simp; intro i hi; exact .inr hi))) (by rw [List.append_assoc]; exact hG) (by simp only [dv]; exact bH.2) (λ t' x' j u' y' e1 e2 e3=>hp t' x' j u' y' (e1.trans cj) e2 e3) hb;refine ⟨cs',O4,?_,q2,q3,by rw [<- List.append_assoc]; exact q4,q5.trans cj⟩;simp only [List.map_cons];rw [Xp (vs:=cs1) kE (by rw [de]; exact hz.cells) (by rw [hz.length,k4]) k3];exact q1
   split at hb
   ·rename_i hv
    have fH:[a.eval v]=[Value.slice none 0 0]:=C0 h hv;split at hb
    ·rename_i o' u' _
     split at hb
     ·rename_i r1 aG
      exact one (u:=.d0 o' u') (z:=([]:List u'.den)) (cs1:=[.slice none 0 0]) (g1:=[]) (.inl ⟨rfl,⟨none,0,rfl,λ _=>rfl⟩,rfl⟩) List.nodup_nil (by simp) (by simpa [o8,Ty.agg] using fH) aG hb rfl
     ·cases hb
    ·cases hb
   ·split at hb
    ·rename_i u z g1 cT
     obtain ⟨O2,cs1,e,hz,da,eR⟩:=Ef h.hs cT (h.ev v);split at hb
     ·rename_i r1 aG
      split at hb
      ·rename_i r2 g2 fq
       simp only [Option.some.injEq,Prod.mk.injEq] at hb;obtain ⟨rfl,rfl⟩:=hb;exact one hz da eR e aG fq rfl
      ·cases hb
     ·cases hb
    ·cases hb
def plc:Ty->Nat->List (Nat×Nat)
 | .pair a b,off=>(off,a.size)::plc b (off+a.size)
 | _,_=>[]
theorem Vd:∀ {t:Ty} {x:t.den} {n:Nat} {u:Ty} {z:u.den} {off:Nat},j8 t x [.l6 n]=some ⟨u,z⟩->(plc t off)[n]?=some (off+Q8 t n,u.size):=by
 intro t
 induction t with
 | pair a c _ ihc =>
  intro x n u z off h
  match n,h with
  | 0,h =>
   have h:some (⟨a,x.1⟩:Sigma Ty.den)=some ⟨u,z⟩:=by rw [<- h]; simp only [j8]
   cases h;simp [plc,Q8]
  | n+1,h =>
   have:=ihc (x:=x.2) (off:=off+a.size) h;simp only [plc,Q8,List.getElem?_cons_succ,this];simp [Nat.add_assoc]
 | d0 o t _=>intro x n u z off h; cases o<;>simp [j8] at h
 | _=>intro x n u z off h; simp [j8] at h
theorem MV {P:Program} {k:Nat}:∀ {fs:List Field} {off:Nat} {t:Ty},l8 (o6 P k) fs off t=true->(fs.mapM λ f=>Prod.mk f.offset <$> sizeOf f.type).run P w=.ok (plc t off) w
 | [],off,t,h=>by
  cases t<;>simp [l8] at h;rfl
 | f::fs,off,t,h=>by
  cases t<;>simp only [l8] at h<;>first|cases h|skip
  simp only [Bool.and_eq_true] at h;obtain ⟨⟨⟨⟨h1,_⟩,h3⟩,_⟩,h4⟩:=h;have ih:=MV h4;simp [List.mapM_cons,run_sizeOf h3,ih,plc,Nat.eq_of_beq_eq_true h1]
theorem UJ:∀ {t u:Ty} {off:Nat},u.sh=t.sh->plc u off=plc t off:=by
 intro t
 induction t with
 | pair a c _ ihc =>
  intro u off h;cases u<;>simp only [Ty.sh] at h<;>try cases h
  simp only [Ty.pair.injEq] at h;simp only [plc,F1 h.1,ihc h.2]
 | _ =>
  intro u off h;cases u<;>simp only [Ty.sh] at h<;>try cases h
  all_goals rfl
theorem KP {P:Program} {k:Nat} {T:TypeId} {t:Ty} (h:o6 P k T t=true) (ht:t.agg=true) (hn:∀ n u,t≠.arr n u):∃ fs k',P.underlying T=some (.struct fs)/\l8 (o6 P k') fs.toList 0 t=true:=by
 cases k with
 | zero=>simp [o6] at h
 | succ k =>
  obtain ⟨d,h1,h2⟩:=P6 h;simp only [o6,Bool.and_eq_true,h1] at h;obtain ⟨_,h⟩:=h;cases t with
  | pair a c=>cases d<;>first|(exact (Bool.false_ne_true h).elim)|(exact ⟨_,k,h1,h⟩)
  | unit=>cases d<;>first|(exact (Bool.false_ne_true h).elim)|(exact ⟨_,k,h1,h⟩)
  | arr n u=>exact absurd rfl (hn n u)
  | _=>cases ht
end
end Go.Ex
namespace Go.Ex
section
variable {E:Env} {B:D8} {S S':Nat->Prop} {ι:Ix} {s:St} {a:Act} {w:World} {hp:List (Nat×g8)} {H H':Array Go.Obj}
theorem RW (z:List Value):∀ n:Nat,(List.range (n*z.length)).map (λ i=>z.getD (i % z.length) default)=(List.replicate n z).flatten
 | 0=>by simp
 | n+1=>by
  rw [Nat.succ_mul,Nat.add_comm,List.range_add,List.map_append,List.replicate_succ,List.flatten_cons,<- RW z n];congr 1
  ·apply List.ext_getElem
   ·simp
   ·intro i h1 h2
    simp only [List.length_map,List.length_range] at h1;simp [Nat.mod_eq_of_lt h1,List.getElem?_eq_getElem h1]
  ·simp [List.map_map,Function.comp_def]
theorem Jg (z:List Value) (n:Nat):((Array.range (n*z.length)).map (z.toArray[· % z.toArray.size]!))=(List.replicate n z).flatten.toArray:=by
 rw [<- RW];apply Array.ext';simp [Array.toList_range,List.getD_eq_getElem?_getD]
theorem EM (z:List Value) (n:Nat):Builtin.zeroCells z.toArray n=(List.replicate n z).flatten.toArray:=Jg z n
theorem i8.GB {t:Ty}:∀ n:Nat,i8 (g9 H S t) t.size [] (List.replicate n (zc t)).flatten (List.replicate n t.r9)
 | 0=>⟨rfl,rfl⟩
 | n+1=>⟨[],[],rfl,by
   rw [List.replicate_succ,List.flatten_cons,List.take_left' (P8 t)]; exact g9.r9 t,by
   rw [List.replicate_succ,List.flatten_cons,List.drop_left' (P8 t)]; exact i8.GB n⟩
theorem y6.lay {P:Program} {o:Oper} {d:Nat} {g:List Nat} {t:Ty} {x:t.den} {v:AV} {s':St} (hl:s.lay d g t x=.ok v s') {w':World} {val:Value} (hr:(execOp a.eval o).run P w=.ok (.value val) w')
  {O:List Nat} {cs:List Value} (hv:val=o8 t cs) (hR:g9 w'.heap S t O cs x) (hs:RS B S ι (St.w6 g s) a w') (hF:E9 B S ι (St.w6 g s).hp w' O):y6 P B o a w v s':=by
 unfold St.lay at hl;split at hl
 ·cases hl
 ·split at hl
  ·rename_i hf
   cases hl;intro next Q hn
   unfold Oper.wp;rw [hr];exact hn S _ w' val (hs.hold hf hR hF) (by rw [hv]; exact zD hR.length)
  ·cases hl
theorem Ie {d:Nat} {g:List Nat} {t:Ty} {x:t.den} {v:AV} {s':St} (hl:s.lay d g t x=.ok v s'):g.Nodup/\(g.all λ i=>!pinned i)=true:=by
 unfold St.lay at hl;split at hl
 ·cases hl
 ·rename_i hc
  simp only [Bool.and_eq_true] at hc;exact ⟨BY hc.1.1,hc.1.2⟩
theorem wB {d:Nat} {g:List Nat} {t:Ty} {x:t.den} {p:Prop} {v:AV} {s':St}:s.lay d g t x≠.F0 p v s':=by
 unfold St.lay
 split
 ·simp
 ·split<;>simp
theorem E6.Ii {P:Program} {o:Oper} {d:Nat} {g:List Nat} {t:Ty} {x:t.den} {p:Prop} (h:∀ v s',s.lay d g t x=.ok v s'->p->y6 P B o a w v s'):E6 P B o a w ((s.lay d g t x).f7 p):=by
 cases hl:s.lay d g t x with
 | fail y=>trivial
 | ok v s'=>exact λ hp=>h v s' hl hp
 | F0 q v s'=>exact absurd hl wB
theorem E6.lay {P:Program} {o:Oper} {d:Nat} {g:List Nat} {t:Ty} {x:t.den} (h:∀ v s',s.lay d g t x=.ok v s'->y6 P B o a w v s'):E6 P B o a w (s.lay d g t x):=by
 cases hl:s.lay d g t x with
 | fail y=>trivial
 | ok v s'=>exact h v s' hl
 | F0 q v s'=>exact absurd hl wB
theorem DT {t:Ty} {l:List t.den} {O:List Nat} {cells:List Value} (hS:∀ c,S c->c<w.heap.size) (hR:i8 (g9 w.heap S t) t.size O (cells.take (l.length*t.size)) l) {cap:Nat} (hc:l.length<=cap) (hm:cap<=maxLen)
  (aX:cap*t.size<=cells.length) (T:TypeId) (hO:∀ c∈O,c<w.heap.size) {w':World} {fz:Nat×Nat} (hh:w'.heap=w.heap.push (.cells cells.toArray T fz)) (hz:fz=(0,0)\/(t.isB=true/\cells.length<=fz.1)) :
  ∃ O',g9 w'.heap S (.d0 true t) O' [.slice (some ⟨w.heap.size,0,none⟩) l.length cap] l/\(∀ b∈O',b=w.heap.size\/b∈O)/\(O.Nodup->O'.Nodup):=by
 have dJ:w'.heap[w.heap.size]?=some (.cells cells.toArray T fz):=by rw [hh]; exact DR
 have hold:∀ {b},b<w.heap.size->w'.heap[b]?=w.heap[b]?:=λ hb=>by rw [hh]; exact BD hb
 have dO:u7 w'.heap w.heap.size=cells:=by simp only [u7,dJ]
 have hle:l.length*t.size<=cap*t.size:=Nat.mul_le_mul_right _ hc;by_cases h0:cap=0
 ·have iT:l.length=0:=by omega
  have hl:l=[]:=List.length_eq_zero_iff.1 iT;exact ⟨[],.inl ⟨rfl,⟨some ⟨w.heap.size,0,none⟩,0,by rw [iT,h0],λ _=>rfl⟩,hl⟩,by simp,λ _=>List.nodup_nil⟩
 ·refine ⟨w.heap.size::O,.inr ⟨w.heap.size,0,cap,O,rfl,hc,⟨hm,λ _=>by omega⟩,?_,?_,rfl,cells.toArray,T,⟨fz,dJ,by simpa using hz⟩,by simpa using aX⟩,λ b hb=>List.mem_cons.1 hb,λ hn=>List.nodup_cons.2 ⟨λ hb=>Nat.lt_irrefl _ (hO _ hb),hn⟩⟩
  ·rw [dO,Nat.zero_add]; exact Nat.le_trans hle aX
  ·have:e8 w'.heap w.heap.size 0 (List.length l*t.size)=cells.take (l.length*t.size):=by simp only [e8,dO,List.drop_zero]
   rw [this];exact i8.mono (L:=O) (λ _ h=>h) (λ O1 cs y hL hr=>hr.s8 (λ b hb=>hold (hb.elim (λ hb=>hO b (hL b hb)) (hS b))) (λ _ h=>h)) hR
theorem MU {t:Ty} {l:List t.den} {O:List Nat} {cells:List Value} (hS:∀ c,S c->c<w.heap.size) (hR:i8 (g9 w.heap S t) t.size O (cells.take (l.length*t.size)) l) {cap:Nat} (hc:l.length<=cap) (hm:cap<=maxLen)
  (aX:cap*t.size<=cells.length) (T:TypeId) (hO:∀ c∈O,c<w.heap.size) :
  ∃ O',g9 (G7 w (.cells cells.toArray T)).heap S (.d0 true t) O' [.slice (some ⟨w.heap.size,0,none⟩) l.length cap] l/\(∀ b∈O',b=w.heap.size\/b∈O)/\(O.Nodup->O'.Nodup) :=
 DT hS hR hc hm aX T hO (w':=G7 w (.cells cells.toArray T)) rfl (.inl rfl)
theorem E9.new {O O':List Nat} (h:RS B S ι s a w) (hF:E9 B S ι s.hp w O) {w':World} (k:E4 [] w w') (bf:w.heap.size<w'.heap.size) (hs:∀ b∈O',b=w.heap.size\/b∈O) (hn:O'.Nodup):E9 B S ι s.hp w' O':=by
 refine ⟨hn,λ b hb=>?_⟩;rcases hs b hb with rfl|hb
 ·refine ⟨λ hS=>Nat.lt_irrefl _ (h.hs.slt _ hS),.inl h.hs.size,bf,λ i e hi ki=>Nat.lt_irrefl _ (h.hs.bl i e hi _ ki).2.2⟩
 ·exact (hF.uW k).2 b hb
theorem Tb {n:Nat} {t:Ty} (t':Ty) (x':t'.den) (i:Nat) (u':Ty) (y':u'.den) (e1:t'.sh=(Ty.arr n t).sh) (e2:j8 t' x' (W4 t' i)=some ⟨u',y'⟩) (_:wu t' i=true):some (i*t.size,t.size)=some (zi t' i,u'.size):=by
 cases t'<;>simp only [Ty.sh] at e1<;>first|cases e1|skip
 rename_i n' t'' _;simp only [Ty.arr.injEq] at e1;have:t''=u':=by
  simp only [W4,j8,B0,Option.some.injEq] at e2;exact congrArg Sigma.fst e2
 subst this;simp only [zi,F1 e1.2]
theorem b8a (hE:C6 E B) (h:RS B S ι s a w) {o:Oper} {T:TypeId} {parts:Array (Nat×Operand)} (ho:o.op=.build T parts):E6 E.P B o a w (l7 E o s):=by
 have he:execOp a.eval o=(do pure (.value (<- Instr.build T (parts.map λ q=>(q.1,a.eval q.2))))):=by simp [execOp,ho]
 unfold l7;rw [ho];simp only
 split
 ·rename_i ti hT
  split
  ·rename_i bH
   simp only [Bool.and_eq_true] at bH;have core:∀ {u:Ty} {y:u.den} {g:List Nat},R8 s ⟨ti.ty,ti.ty.r9⟩ parts.toList=some (⟨u,y⟩,g)->g.Nodup->∃ cs' O',(Instr.build T (parts.map λ q=>(q.1,a.eval q.2))).run E.P w=.ok (o8 u cs') w/\g9 w.heap S u O' cs' y/\O'.Nodup/\∀ b∈O',M1 ι s.hp g b:=by
    intro u y g hb ic;have df:=p7 hE hT;have hz:=BG (w:=w) df;have fB:g9 w.heap S ti.ty [] (zc ti.ty) ti.ty.r9:=g9.r9 _;have km:(o8 ti.ty (zc ti.ty)).cells=(zc ti.ty).toArray:=fB.cells;have me:(parts.map λ q=>(q.1,a.eval q.2)).toList=parts.toList.map λ q=>(q.1,a.eval q.2):=by simp
    by_cases eO:∃ n t,ti.ty=.arr n t
    ·obtain ⟨n,t,e0⟩:=eO
     rw [e0] at df hb fB bH hz km;obtain ⟨et,k',h1,h2,h3⟩:=xw df;obtain ⟨cs',O',q1,q2,q3,q4,q5⟩:=EB h (place:=λ i=>some (i*t.size,t.size)) (G:=[]) fB List.nodup_nil (by simp) (by simpa using ic) bH.2 (λ t' x' i u' y' e1 e2 e3=>Tb t' x' i u' y' e1 e2 e3) hb;refine ⟨cs',O',?_,q2,q3,q4⟩;have du:u.agg=true:=by rw [Dp q5]; rfl
     simp only [Instr.build,Sem.run_bind,hz,Result.andThen,u5 h1,km,me,run_sizeOf h3,q1];simp [o8,du]
    ·have hn:∀ n u,ti.ty≠.arr n u:=λ n u e=>eO ⟨n,u,e⟩
     obtain ⟨fs,k',h1,h2⟩:=KP df bH.1 hn;have cg:=MV (w:=w) h2;obtain ⟨cs',O',q1,q2,q3,q4,q5⟩:=EB h (place:=λ i=>(plc ti.ty 0)[i]?) (G:=[]) fB List.nodup_nil (by simp) (by simpa using ic) bH.2 (by
      intro t' x' i u' y' e1 e2 e3;have jR:∀ n u,t'≠.arr n u:=by
       rintro n u rfl;cases ht:ti.ty<;>rw [ht] at e1<;>simp only [Ty.sh] at e1<;>first|cases e1|skip
       exact eO ⟨_,_,ht⟩
      have e2':j8 t' x' [.l6 i]=some ⟨u',y'⟩:=by
       cases t'<;>first|exact e2|(exact absurd rfl (jR _ _))
      have:=Vd (off:=0) e2';rw [UJ e1] at this;have e4:zi t' i=Q8 t' i:=by cases t'<;>first|rfl|(exact absurd rfl (jR _ _))
      rw [e4];simpa using this) hb
     refine ⟨cs',O',?_,q2,q3,q4⟩;have du:u.agg=true:=by rw [Dp q5]; exact bH.1
     simp only [Instr.build,Sem.run_bind,hz,Result.andThen,u5 h1,km,me];simp [Array.mapM_eq_mapM_toList,cg,q1,o8,du]
   split
   ·rename_i u y hb
    obtain ⟨cs',O',q1,q2,q3,q4⟩:=core hb List.nodup_nil;have:O'=[]:=List.eq_nil_iff_forall_not_mem.2 (λ b hb=>by obtain ⟨i,e,hi,_⟩:=q4 b hb; cases hi);subst this;exact H9 he h q1 ⟨cs',rfl,q2⟩
   ·rename_i u y g d hd hb dE
    refine E6.lay (λ v s' hl=>?_);obtain ⟨g1,g2⟩:=Ie hl;obtain ⟨cs',O',q1,q2,q3,q4⟩:=core hb g1;exact y6.lay hl (M9 he q1) rfl q2 (h.w6 g2) (E9.w6 h.hs q3 q4)
   ·trivial
  ·trivial
 ·trivial
theorem OV {n:Nat} {t:Ty} {parts:List (Nat×Operand)} {r:Sigma Ty.den×List Nat} (h:yZ s n t parts=some r):∃ t0:Ty,t0.sh=t.sh/\R8 s ⟨.arr n t0,(Ty.arr n t0).r9⟩ parts=some r:=by
 unfold yZ at h;split at h
 ·rename_i r' hr
  cases h;exact ⟨t,rfl,hr⟩
 ·exact ⟨t.sh,Ty.zr t,h⟩
theorem a9F (hE:C6 E B) (h:RS B S ι s a w) {o:Oper} {T:TypeId} {n:Nat} {parts:Array (Nat×Operand)} (ho:o.op=.buildSlice T n parts):E6 E.P B o a w (l7 E o s):=by
 have he:execOp a.eval o=(do pure (.value (<- Instr.buildSlice T n (parts.map λ q=>(q.1,a.eval q.2))))):=by simp [execOp,ho]
 unfold l7;rw [ho];simp only
 split
 ·rename_i t bts d hT hd
  split
  ·rename_i bH
   simp only [Bool.and_eq_true,Nat.ble_eq] at bH;obtain ⟨⟨dK,dv⟩,aX⟩:=bH
   split
   ·rename_i m t' l g lK
    obtain ⟨t0,kv,hb⟩:=OV lK;refine E6.lay (λ v s' hl=>?_);obtain ⟨gn,gp⟩:=Ie hl;have df:=p7 hE hT;obtain ⟨et,k',h1,h2,h3⟩:=F5 df;have nB:∀ u:Ty,(zc u).length=u.size:=λ u=>(g9.r9 (H:=w.heap) (S:=S) u).length;have fB:g9 w.heap S (.arr n t0) [] (zc (.arr n t)) (Ty.arr n t0).r9:=by
     have:=g9.r9 (H:=w.heap) (S:=S) (.arr n t0)
     rwa [show zc (.arr n t0)=zc (.arr n t) from LA (congrArg (Ty.arr n) kv)] at this
    obtain ⟨cs',O',q1,q2,qn,qb,q3⟩:=EB h (place:=λ i=>some (i*t.size,t.size)) (G:=[]) fB List.nodup_nil (by simp) (by simpa using gn) (by simpa [wu] using dv) (λ t' x' i u' y' e1 e2 e3=>Tb t' x' i u' y' (e1.trans (congrArg (Ty.arr n) kv)) e2 e3) hb;have me:(parts.map λ q=>(q.1,a.eval q.2)).toList=parts.toList.map λ q=>(q.1,a.eval q.2):=by simp
    simp only [Ty.sh,Ty.arr.injEq] at q3;obtain ⟨rfl,q3⟩:=q3;have q3:=q3.trans kv;have eB:=F1 q3;obtain ⟨g1,g2⟩:=q2;have hlen:cs'.length=m*t'.size:=by rw [i8.length (λ _ _ _ h=>h.length) g2,g1]
    have gg:m*t'.size<=16777216:=by rw [eB]; exact aX
    have ph:m<=maxLen:=by
     have:m*1<=m*t'.size:=Nat.mul_le_mul_left _ (by omega);unfold maxLen; omega
    have aP:(execOp a.eval o).run E.P w=.ok (.value (.slice (some ⟨w.heap.size,0,none⟩) m m)) (G7 w (.cells cs'.toArray et)):=by
     rw [he];have nC:(zc (.arr m t)).toArray=(List.replicate m (zc t)).flatten.toArray:=rfl;by_cases h0:m*t.size=0
     ·have:m=0:=by rcases Nat.mul_eq_zero.1 h0 with h|h<;>omega
      subst this;simp only [Instr.buildSlice,Sem.run_bind,u5 h1,Result.andThen,run_sizeOf h3];have e0:(zc (.arr 0 t)).toArray=(#[]:Array Value):=rfl;rw [e0] at q1;have r0:Array.range 0=(#[]:Array Nat):=rfl;simp only [Nat.zero_mul,r0,Array.map_empty];rw [me];simp [q1,newRow,newObj,Sem.run,G7]
     ·have jb:(o8 t (zc t)).cells=(zc t).toArray:=(g9.r9 (H:=w.heap) (S:=S) t).cells
      have hle:¬ (m*t.size > 16777216):=by omega
      have hq:=Jg (zc t) m;rw [nB] at hq;rw [nC] at q1;have pr:¬ (m*t.size > 2^24):=by omega
      simp only [Instr.buildSlice,Sem.run_bind,u5 h1,Result.andThen,run_sizeOf h3,pr,h0,if_false,BG h3,jb,me,Sem.run_pure,hq,q1];simp [newRow,newObj,Sem.run,G7]
    have g1':List.length l=m:=g1;have gH:∀ c∈O',c<w.heap.size:=λ c hc=>by obtain ⟨i,e,_,r2,r3⟩:=qb c hc; exact (h.hs.bl i e r2 c r3).2.2
    have ec:=h.w6 (g:=g) gp;obtain ⟨O2,k1,k2,k3⟩:=MU (cap:=m) h.hs.slt (O:=O') (l:=l) (cells:=cs') (by rw [g1',List.take_of_length_le (by omega)]; exact g2) (by omega) ph (by omega) et gH;have hp:E4 [] w (G7 w (.cells cs'.toArray et)):=E4.push _;exact y6.lay hl aP (by rw [<- g1']; rfl) k1 (ec.uW E9.nil hp) (E9.new ec (E9.w6 h.hs qn qb) hp (by simp [G7]) k2 (k3 qn))
   ·trivial
  ·trivial
 ·trivial
theorem QR {P:Program} {k:IntKind} {n:Int}:(asInt (.int k n)).run P w=.ok n w:=by simp [asInt,asIntOf]
theorem b8d (hE:C6 E B) (h:RS B S ι s a w) {o:Oper} {T:TypeId} {x y:Operand} (ho:o.op=.makeSlice T x y):E6 E.P B o a w (LF E T (s.ev x) (s.ev y) o.dst s):=trivial
theorem b0x (hE:C6 E B) (h:RS B S ι s a w) {o:Oper} {T:TypeId} {x y:Operand} (ho:o.op=.makeSlice T x y):E6 E.P B o a w (l7 E o s):=by
 have he:execOp a.eval o=(do pure (.value (<- Instr.makeSlice T (a.eval x) (a.eval y)))):=by simp [execOp,ho]
 unfold l7;rw [ho];simp only
 split
 ·exact b8d hE h ho
 split
 ·rename_i t bts d k n k' m hT hd hx hy
  refine E6.Ii (λ v s' hl hp=>?_);have dd:@LE.le Int Int.instLEInt 0 n:=hp.1;have gg:@LE.le Int Int.instLEInt n m:=hp.2.1;have uu:@LE.le Int Int.instLEInt m 140737488355328:=hp.2.2.1;obtain ⟨fY,_⟩:=VX.H5 (C0 h hx);obtain ⟨dH,_⟩:=VX.H5 (C0 h hy);have df:=p7 hE hT;obtain ⟨et,k2,h1,h2,h3⟩:=F5 df;obtain ⟨i,hi,eA,kP⟩:=V6 h3;have lI:=Ku h3 hi;obtain ⟨M,rfl⟩:∃ M:Nat,m=((M:Nat):Int):=⟨Int.toNat m,(Int.toNat_of_nonneg (Int.le_trans dd gg)).symm⟩;obtain ⟨N,rfl⟩:∃ N:Nat,n=((N:Nat):Int):=⟨Int.toNat n,(Int.toNat_of_nonneg dd).symm⟩;have pX:((t.wb:Nat):Int)*(M:Int)<=281474976710656:=by
   have:=hp.2.2.2;have e:((M:Nat):Int)*(t.wb:Nat)=(t.wb:Nat)*(M:Nat):=Int.mul_comm _ _;have:@LE.le Int Int.instLEInt (((M:Nat):Int)*(t.wb:Nat)) 140737488355328:=hp.2.2.2;rw [e] at this;omega
  have jb:(o8 t (zc t)).cells=(zc t).toArray:=(g9.r9 (H:=w.heap) (S:=S) t).cells;have jI:IntKind.i64.wrap (M:Int)=(M:Int):=S4 (by unfold r7; simp [IntKind.min,IntKind.max,IntKind.signed,IntKind.bits]; omega);have jH:IntKind.i64.wrap (N:Int)=(N:Int):=S4 (by unfold r7; simp [IntKind.min,IntKind.max,IntKind.signed,IntKind.bits]; omega);have aP:(Instr.makeSlice T (a.eval x) (a.eval y)).run E.P w=.ok (.slice (some ⟨w.heap.size,0,none⟩) N M) (G7 w (.cells (List.replicate M (zc t)).flatten.toArray et)):=by
   rw [fY,dH];have c1:¬ ((M:Int)<0):=by omega
   have c2:¬ ((N:Int)<0):=by omega
   have c3:¬ ((M:Int)<(N:Int)):=by omega
   have c4:¬ (281474976710656<((t.wb:Nat):Int)*(M:Int)):=by omega
   by_cases h0:M*t.size=0
   ·have:M=0:=by rcases Nat.mul_eq_zero.1 h0 with h|h<;>omega
    subst this;have hN:N=0:=by omega
    subst hN;simp only [Instr.makeSlice,Sem.run_bind,u5 h1,Result.andThen,QR,typeInfo,jI];have r0:Array.range 0=(#[]:Array Nat):=rfl;simp [run_sizeOf h3,newRow,newObj,Sem.run,G7,Result.andThen,hi,r0]
   ·have hq:=Jg (zc t) M
    rw [P8] at hq;simp only [Instr.makeSlice,Sem.run_bind,u5 h1,Result.andThen,QR,typeInfo,jI,jH];simp [c1,c2,c3,c4,run_sizeOf h3,h0,BG h3,jb,Result.andThen,newRow,newObj,Sem.run,G7,hi,lI];congr 2;rw [<- hq];apply Array.ext';simp [P8]
  have ec:=h.w6 (g:=[]) rfl;obtain ⟨O2,k1,k2',k3⟩:=MU (cap:=M) h.hs.slt (O:=[]) (l:=List.replicate N t.r9) (cells:=(List.replicate M (zc t)).flatten) (by
   have e:(List.replicate M (zc t)).flatten=(List.replicate N (zc t)).flatten++(List.replicate (M - N) (zc t)).flatten:=by
    rw [<- List.flatten_append,List.replicate_append_replicate]; congr 2; omega
   rw [e,List.take_left' (by simp [P8])];exact i8.GB N) (by simp; omega) (by unfold maxLen; omega) (by simp [P8]) et (by simp)
  have cH:E4 [] w (G7 w (.cells (List.replicate M (zc t)).flatten.toArray et)):=E4.push _;exact y6.lay hl (M9 he aP) (by simp [o8,Ty.agg]) k1 (ec.uW E9.nil cH) (E9.new ec E9.nil cH (by simp [G7]) k2' (k3 List.nodup_nil))
 ·trivial
end
end Go.Ex
namespace Go.Ex
section
variable {E:Env} {B:D8} {S S':Nat->Prop} {ι:Ix} {s:St} {a:Act} {w:World} {hp:List (Nat×g8)} {H H':Array Go.Obj}
theorem Pp:∀ {t:Ty} {x:t.den} {p:List Step} {u:Ty} {y:u.den} {r:Sigma Ty.den},s6 t x p u y=some r->wX p=false->r.1=t:=by
 intro t
 induction t with
 | pair a c iha ihc =>
  intro x p u y r h hf
  match p,h,hf with
  | [],_,hf=>cases hf
  | .l6 0::p,h,hf =>
   simp only [s6] at h;split at h
   ·rename_i t' w hw; cases h; exact congrArg (Ty.pair · c) (iha (r:=⟨t',w⟩) hw hf)
   ·cases h
  | .l6 (n+1)::p,h,hf =>
   simp only [s6] at h;split at h
   ·rename_i t' w hw; cases h; exact congrArg (Ty.pair a) (ihc (r:=⟨t',w⟩) hw hf)
   ·cases h
  | .idx i::p,h,_=>simp [s6] at h
 | arr n t ih =>
  intro x p u y r h hf
  match p,h,hf with
  | [],_,hf=>cases hf
  | .idx i::p,h,_ =>
   simp only [s6] at h;split at h
   ·split at h
    ·cases h; rfl
    ·cases h
   ·cases h
  | .l6 i::p,h,_=>simp [s6] at h
 | d0 o t ih =>
  intro x p u y r h hf
  match p,h,hf with
  | [],_,hf=>cases hf
  | .idx i::p,h,_ =>
   cases o with
   | false=>simp [s6] at h
   | true =>
    simp only [s6] at h;split at h
    ·split at h
     ·cases h; rfl
     ·cases h
    ·cases h
  | .l6 i::p,h,_=>cases o<;>simp [s6] at h
 | _ =>
  intro x p u y r h hf
  match p,h,hf with
  | [],_,hf=>cases hf
  | .idx i::p,h,_=>simp [s6] at h
  | .l6 i::p,h,_=>simp [s6] at h
theorem OB.yR {i:Nat} {e:g8} (ho:OB H S ι i e) (he:e≠.K1) (hS:∀ c,S c->c<H.size) {p:List Step} (aL:w8 e.ty e.x p) {u:Ty} {y:u.den} (hg:j8 e.ty e.x p=some ⟨u,y⟩) {b off:Nat} (hl:Loc H ι i e p=some (b,off))
  {Op:List Nat} (ft:g9 H S u Op (e8 H b off u.size) y):b∉Op:=by
 obtain ⟨h1,h2⟩:=C2 hl;obtain ⟨O,hO,hR,hb,aF,bf,ga,dK⟩:=ho.see he hS;obtain ⟨O1,O2,b',aq,e1,e2,e3,e4,e5,e6⟩:=focus hR hb aL hg
 rw [H3 he,e3] at h1; cases h1;have hm:∀ c,c∈O1\/c∈O2->c∈ι.own i:=λ c hc=>hO.mem_iff.1 (e1.mem_iff.2 (by simpa using hc));have kL:∀ c∈O2,c<H.size:=λ c hc=>ho.S6 he (hm c (.inr hc));have k:=(vN (e:=e) (ι:=ι) (i:=i) kL hS).1 e4;rw [l4 (F4 h2)] at k;have hd:=g9.det k ft;subst hd;rcases e6 with ⟨rfl,_⟩|⟨g1,_⟩
 ·intro hb; exact (List.nodup_cons.1 aF).1 (hm _ (.inr hb))
 ·intro hb
  have:=(e1.nodup_iff).1 ((hO.nodup_iff).2 (List.nodup_cons.1 aF).2);exact (List.nodup_append.1 this).2.2 _ g1 _ hb rfl
theorem Xn {d i:Nat}:∀ {v:AV},v.i7 d=false->(v.drop i).i7 d=false:=by
 intro v
 induction v with
 | cons a b iha ihb=>intro h; simp only [AV.i7,Bool.or_eq_false_iff] at h; simp only [AV.drop,AV.map,AV.i7,Bool.or_eq_false_iff]; exact ⟨iha h.1,ihb h.2⟩
 | K0 l ih=>intro h; exact ih h
 | C1 f l ih=>intro h; exact ih h
 | bx l ih=>intro h; exact ih h
 | rc f l ih=>intro h; exact ih h
 | ptr j p=>intro h; simp only [AV.drop,AV.map]; split<;>first|rfl|exact h
 | at_ j p=>intro h; simp only [AV.drop,AV.map]; split<;>first|rfl|exact h
 | sub j p x y=>intro h; simp only [AV.drop,AV.map]; split<;>first|rfl|exact h
 | _=>intro h; rfl
theorem KJ {d:Nat}:∀ {g:List Nat} {s:St},vO d s.fr=true->vO d (St.w6 g s).fr=true
 | [],_,h=>h
 | i::g,s,h=>KJ (g:=g) (s:=s.drop i) (by
  simp only [St.drop];generalize s.fr=fr at h
  induction fr with
  | nil=>rfl
  | cons q l ih =>
   obtain ⟨n,v⟩:=q;simp only [vO,Bool.and_eq_true,Bool.not_eq_true'] at h;simp only [mapA,vO,Bool.and_eq_true,Bool.not_eq_true'];exact ⟨Xn h.1,ih h.2⟩)
theorem Xz:∀ {t:Ty} {p:List Step} {b off:Nat} {G:Array Go.Obj} {r:Nat×Nat},wX p=true->x7 G t p b off=some r->r.1=b:=by
 intro t
 induction t with
 | pair a c iha ihc =>
  intro p b off G r h hn
  match p,h,hn with
  | [],_,hn=>rw [x8] at hn; cases hn; rfl
  | .l6 0::p,h,hn=>exact iha (p:=p) h hn
  | .l6 (n+1)::p,h,hn=>exact ihc (p:=.l6 n::p) h hn
  | .idx i::p,h,_=>cases h
 | d0 o t ih =>
  intro p b off G r h hn
  match p,h,hn with
  | [],_,hn=>rw [x8] at hn; cases hn; rfl
  | .l6 i::p,_,hn=>cases o<;>simp [x7] at hn
  | .idx i::p,h,_=>cases h
 | _ =>
  intro p b off G r h hn
  match p,h,hn with
  | [],_,hn=>rw [x8] at hn; cases hn; rfl
  | .l6 i::p,_,hn=>simp [x7] at hn
  | .idx i::p,h,_=>cases h
theorem Nw {i:Nat} {e:g8} {p:List Step} {r:Nat×Nat} (hl:Loc H ι i e p=some r) (he:e.Y2=true):wX p=false:=by
 obtain ⟨h1,h2⟩:=C2 (b:=r.1) (off:=r.2) hl;cases hf:wX p with
 | false=>rfl
 | true =>
  exfalso;cases e with
  | own t x =>
   rw [H3 (by simp)] at h1;have:=Xz hf h1;simp only [VR] at this;omega
  | _=>cases he
theorem zX (hE:C6 E B) (h:RS B S ι s a w) {o:Oper} {T:TypeId} {x y:Operand} (ho:o.op=.store T x y) {i:Nat} {e:g8} (h1:look i s.hp=some e) {p:List Step} (h2:w8 e.ty e.x p) {b off:Nat} (h3:Loc w.heap ι i e p=some (b,off)) (h4:a.eval x=.pointer (some ⟨b,off,none⟩))
  {u:Ty} {y0:u.den} (hg:j8 e.ty e.x p=some ⟨u,y0⟩) (bD:I4 E T u=true) {u':Ty} {z:u'.den} {O2:List Nat} {cs:List Value} {r:Sigma Ty.den}
  (hz:g9 w.heap S u' O2 cs z) (aF:O2.Nodup) (ta:a.eval y=o8 u' cs) (aG:s6 e.ty e.x p u' z=some r)
  (eR:∀ c∈O2,(¬ S c/\(B.w0.heap.size<=c\/B.M c)/\c<w.heap.size)/\(∀ j ej,j≠i->look j s.hp=some ej->c∉l5 ι j ej)/\(c∈l5 ι i e->∃ Op,g9 w.heap S u Op (e8 w.heap b off u.size) y0/\c∈Op)) (bQ:b∉O2) :
  y6 E.P B o a w (.raw undef) ((s.kill i e.kd p).w4 i (e.D6 r)):=by
 intro next Q hn
 obtain ⟨Op,m1,mn,m2,m3,m4,m5⟩:=M2 (J7 h3) (h.hs.ob i e h1) h.hs.slt h2 hg h3;have cj:=BU hg aG;have gV:¬ S b:=(h.hs.bl i e h1 b m4).1;obtain ⟨ι',cr⟩:=h.store h1 h2 hg h3 (u':=u') (z:=z) (cs:=cs) (O2:=O2) (λ H' aX hc=>hz.s8 (λ c dF=>hc.rest c (by
   rintro rfl;rcases dF with dF|dF
   ·exact bQ dF
   ·exact gV dF) (by
   rcases dF with dF|dF
   ·exact (eR c dF).1.2.2
   ·exact h.hs.slt c dF)) (λ _ h=>h)) (by rw [hz.length,F1 cj]) aF eR aG (λ bA _=>Pp aG (Nw h3 bA))
 unfold Oper.wp;have aP:(execOp a.eval o).run E.P w=.ok .skip (w.setRow b (over (u7 w.heap b) off cs).toArray):=by
  simp [execOp,ho,h4,ta,Instr.storeAt,Instr.sureAddr,KW (C8 hE bD) cj m5 hz]
 rw [aP];exact hn S ι' _ undef cr rfl
theorem Ip:∀ t:Ty,t.vF.sh=t.sh:=by
 intro t
 induction t with
 | pair a b iha ihb=>simp only [Ty.vF,Ty.sh,iha,ihb]
 | d0 o t ih=>cases o<;>rfl
 | _=>rfl
theorem g9.vF {H:Array Go.Obj} {S:Nat->Prop}:∀ {u:Ty} {O:List Nat} {cs:List Value} {y:u.den},g9 H S u O cs y->u.vF.shared=true->g9 H S u.vF [] cs (CW u y):=by
 intro u
 induction u with
 | pair a b iha ihb =>
  rintro O cs y ⟨O1,O2,rfl,h1,h2⟩ hs;simp only [Ty.vF,Ty.shared,Bool.and_eq_true] at hs;have ea:a.vF.size=a.size:=F1 (Ip a);have eb:b.vF.size=b.size:=F1 (Ip b);exact ⟨[],[],rfl,by rw [ea]; exact iha h1 hs.1,by rw [ea]; exact ihb h2 hs.2⟩
 | d0 o t ih =>
  intro O cs y h hs;cases o with
  | true =>
   rcases h with ⟨_,⟨a,c,rfl,_⟩,_⟩|⟨b,off,cap,O',rfl,_⟩
   ·exact ⟨rfl,_,rfl,rfl⟩
   ·exact ⟨rfl,_,rfl,rfl⟩
  | false =>
   have hn:=h.M8 hs;subst hn; exact h
 | arr n t ih =>
  intro O cs y h hs;have hn:=h.M8 hs;subst hn; exact h
 | map o k v =>
  intro O cs y h hs;have hn:=h.M8 hs;subst hn; exact h
 | box o g t =>
  intro O cs y h hs;have hn:=h.M8 hs;subst hn; exact h
 | _ =>
  intro O cs y h hs;have hn:=h.M8 hs;subst hn; exact h
theorem YL {H:Array Go.Obj} {S:Nat->Prop} {u:Ty} {q:Sigma Ty.den} {O:List Nat} {cs:List Value} (h:g9 H S q.1 O cs q.2):g9 H S (xe u q).1 O cs (xe u q).2/\(xe u q).1.agg=q.1.agg/\(xe u q).1.size=q.1.size:=by
 obtain ⟨t,z⟩:=q;cases u with
 | y7 a =>
  cases t with
  | d0 o b =>
   by_cases e:b=a
   ·subst e
    cases o with
    | false=>rw [show xe (.y7 b) ⟨.d0 false b,z⟩=⟨.y7 b,(0,z,[])⟩ from dif_pos rfl]; exact ⟨h,rfl,rfl⟩
    | true=>rw [show xe (.y7 b) ⟨.d0 true b,z⟩=⟨.y7 b,(1,z,[])⟩ from dif_pos rfl]; exact ⟨h,rfl,rfl⟩
   ·cases o with
    | false=>rw [show xe (.y7 a) ⟨.d0 false b,z⟩=⟨.d0 false b,z⟩ from dif_neg e]; exact ⟨h,rfl,rfl⟩
    | true=>rw [show xe (.y7 a) ⟨.d0 true b,z⟩=⟨.d0 true b,z⟩ from dif_neg e]; exact ⟨h,rfl,rfl⟩
  | _=>exact ⟨h,rfl,rfl⟩
 | _=>exact ⟨h,rfl,rfl⟩
theorem QB {H:Array Go.Obj} {S:Nat->Prop}:∀ {u:Ty} {q:Sigma Ty.den} {O:List Nat} {cs:List Value},g9 H S q.1 O cs q.2->g9 H S (N9 u q).1 O cs (N9 u q).2/\(N9 u q).1.agg=q.1.agg/\(N9 u q).1.size=q.1.size:=by
 intro u
 induction u with
 | y7 a=>intro q O cs h; exact YL h
 | pair a b iha ihb =>
  rintro ⟨t,z⟩ O cs h;cases hm:a.zg || b.zg with
  | false =>
   have:N9 (.pair a b) ⟨t,z⟩=⟨t,z⟩:=by simp only [N9,hm]
   rw [this]; exact ⟨h,rfl,rfl⟩
  | true =>
   cases t with
   | pair c d =>
    have e:N9 (.pair a b) ⟨.pair c d,z⟩=⟨.pair (N9 a ⟨c,z.1⟩).1 (N9 b ⟨d,z.2⟩).1,((N9 a ⟨c,z.1⟩).2,(N9 b ⟨d,z.2⟩).2)⟩:=by
     simp only [N9,hm]
    rw [e];obtain ⟨O1,O2,rfl,h1,h2⟩:=h;obtain ⟨k1,_,k3⟩:=iha (q:=⟨c,z.1⟩) h1;obtain ⟨m1,_,m3⟩:=ihb (q:=⟨d,z.2⟩) h2;have k3:(N9 a ⟨c,z.1⟩).1.size=c.size:=k3;have m3:(N9 b ⟨d,z.2⟩).1.size=d.size:=m3;refine ⟨⟨O1,O2,rfl,?_,?_⟩,rfl,?_⟩
    ·rw [k3]; exact k1
    ·rw [k3]; exact m1
    ·simp only [Ty.size,k3,m3]
   | _ =>
    have:∀ r:Sigma Ty.den,r=⟨_,z⟩->N9 (.pair a b) r=r:=by
     rintro r rfl;simp only [N9,hm]
    rw [this _ rfl]; exact ⟨h,rfl,rfl⟩
 | _=>intro q O cs h; exact ⟨h,rfl,rfl⟩
theorem OM {H:Array Go.Obj} {S:Nat->Prop} {u:Ty} {q:Sigma Ty.den} {O:List Nat} {cs:List Value} (h:g9 H S q.1 O cs q.2):g9 H S (N9 u q).1 O cs (N9 u q).2/\(N9 u q).1.agg=q.1.agg :=
 ⟨(QB h).1,(QB h).2.1⟩
theorem b4D (hE:C6 E B) (h:RS B S ι s a w) {o:Oper} {T:TypeId} {x y:Operand} (ho:o.op=.store T x y) {i:Nat} {p:List Step} (hx:s.ev x=.ptr i p):E6 E.P B o a w (N8 E T i p (s.ev y) s):=by
 obtain ⟨e,b,off,h1,h2,h3,h4⟩:=C0 h hx;have h4:a.eval x=.pointer (some ⟨b,off,none⟩):=by simpa using h4
 unfold N8
 split
 ·trivial
 ·rename_i e' aS
  obtain rfl:=wo h1 aS
  split
  ·trivial
  ·rename_i u y0 hg
   obtain ⟨Op,m1,mn,m2,m3,m4,m5⟩:=M2 (J7 h3) (h.hs.ob i e' h1) h.hs.slt h2 hg h3
   split
   ·trivial
   ·rename_i bD
    split
    ·rename_i hy
     have qB:=C0 h hy
     split
     ·rename_i o' u' _
      split
      ·rename_i r aG
       refine zX hE h ho h1 h2 h3 h4 hg bD (u':=.d0 o' u') (z:=([]:List u'.den)) (O2:=[]) (cs:=[.slice none 0 0]) (.inl ⟨rfl,⟨none,0,rfl,λ _=>rfl⟩,rfl⟩) List.nodup_nil ?_ aG (by simp) (by simp);have:[a.eval y]=[Value.slice none 0 0]:=qB;simpa [o8,Ty.agg] using this
      ·trivial
     ·rename_i a' _
      split
      ·rename_i r aG
       refine zX hE h ho h1 h2 h3 h4 hg bD (u':=.y7 a') (z:=(1,([],[]))) (O2:=[]) (cs:=[.slice none 0 0]) (.inl ⟨rfl,⟨none,0,rfl,λ _=>rfl⟩,rfl⟩) List.nodup_nil ?_ aG (by simp) (by simp);have:[a.eval y]=[Value.slice none 0 0]:=qB;simpa [o8,Ty.agg] using this
      ·trivial
     ·trivial
    ·rename_i j q lo hi hy
     split
     ·rename_i u' y1
      split
      ·rename_i r aG
       split
       ·rename_i bS
        have bS:=Nat.eq_of_beq_eq_true bS;subst bS;rintro ⟨rfl,_⟩;obtain ⟨e2,v2,k1,k2,k3,k4,k5,k6⟩:=C0 h hy;rw [h1] at k1; cases k1;rcases k6 with ⟨t',l,A,cap,q1,q2,q3,q4⟩|⟨n,t',l,b2,off2,q1,_⟩
        ·rw [hg] at q1; cases q1
         obtain ⟨b0,off0,r1,r2⟩:=q3;obtain ⟨r3,r4⟩:=C2 h3;rw [r3] at r1; cases r1;rw [l4 (F4 r4)] at r2;have m2':g9 w.heap S (.d0 true u') Op [.slice A (List.length y1) cap] y1:=by rw [r2]; exact m2
         obtain ⟨O,cs,g1,g2,g3,g4⟩:=NM m2' mn k4 k5 q2 q4;have k3:a.eval y=v2:=by simpa using k3
         refine zX hE h ho h1 h2 h3 h4 hg bD (u':=.d0 true u') (z:=n7 lo hi y1) g2 g3 (by rw [k3,g1]) aG (λ c hc=>?_) ?_
         ·have ed:=m1 c (g4 c hc)
          exact ⟨h.hs.bl i e' h1 c (H8 ed),λ j ej hj dn=>h.hs.dj i j e' ej h1 dn (Ne.symm hj) c (H8 ed),λ _=>⟨Op,m2,g4 c hc⟩⟩
         ·intro hb
          have:=(h.hs.ob i e' h1).yR (J7 h3) h.hs.slt h2 hg h3 m2;exact this (g4 b hb)
        ·rw [hg] at q1; cases q1
       ·trivial
      ·trivial
     ·trivial
    ·rename_i xv _ _
     split
     ·rename_i q g cT
      split
      ·rename_i r aG
       split
       ·rename_i kS
        simp only [Bool.and_eq_true,Bool.not_eq_true'] at kS;obtain ⟨⟨eo,ic⟩,dQ⟩:=kS;have eo:i∉g:=by
         intro hm;simp [hm] at eo
        obtain ⟨O2,cs,k1,k2,k3,k4⟩:=Ef h.hs (t:=q.1) (x:=q.2) cT (h.ev y);obtain ⟨k2,kf⟩:=OM (u:=u) k2;rw [<- Bl kf] at k1;have hd:=h.w6 (g:=g) dQ;have js:look i (St.w6 g s).hp=some e':=by rw [I8,if_neg eo]; exact h1
        have bG:∀ c∈O2,∀ j ej,j∉g->look j s.hp=some ej->c∉l5 ι j ej:=by
         intro c hc j ej hj dn;obtain ⟨j2,e2,q1,q2,q3⟩:=k4 c hc;exact h.hs.dj j2 j e2 ej q2 dn (by rintro rfl; exact hj q1) c q3
        refine zX hE hd ho js h2 h3 h4 hg bD k2 k3 k1 aG (λ c hc=>?_) (λ hb=>bG b hb i e' eo h1 m4);obtain ⟨j2,e2,q1,q2,q3⟩:=k4 c hc;refine ⟨h.hs.bl j2 e2 q2 c q3,λ j ej hj dn=>?_,λ kg=>absurd kg (bG c hc i e' eo h1)⟩;rw [I8] at dn;split at dn
        ·cases dn
        ·rename_i fT; exact bG c hc j ej fT dn
       ·trivial
      ·trivial
     ·split
      ·rename_i j q hy
       split
       ·rename_i u' y' cS
        split
        ·rename_i r aG
         split
         ·rename_i hc
          simp only [Bool.and_eq_true] at hc;obtain ⟨e2,u2,y2,cs,k1,k2,k3,k4,k5⟩:=C0 h hy;have gA:=H4 k1 cS;rw [k3] at gA; cases gA;obtain ⟨O2,g1,_,g2⟩:=F9 h.hs k1 k2 k3 k4;exact zX hE h ho h1 h2 h3 h4 hg bD (g2.vF hc.1.1) List.nodup_nil (by rw [Hv (Ip _)]; simpa using k5) aG (by simp) (by simp)
         ·trivial
        ·trivial
       ·trivial
      ·trivial
theorem XH (_hE:C6 E B) (h:RS B S ι s a w) {o:Oper} {T:TypeId} {x:Operand} (ho:o.op=.box T x):E6 E.P B o a w (l7 E o s):=by
 unfold l7;rw [ho];simp only
 split
 ·rename_i t d ht hd
  split
  ·rename_i hf
   have core:∀ {u:Ty} {y:u.den} {O:List Nat} {cs:List Value} {g:List Nat},g9 w.heap S u O cs y->a.eval x=o8 u cs->(g.all λ i=>!pinned i)=true->d∉g->E9 B S ι (St.w6 g s).hp w O->y6 E.P B o a w (.ptr d []) ((St.w6 g s).w4 d (.var u y)):=by
    intro u y O cs g hR e hg ux hF next Q hn
    unfold Oper.wp;have:(execOp a.eval o).run E.P w=.ok (.value (.pointer (some ⟨w.heap.size,0,none⟩))) (G7 w (.cells cs.toArray T)):=by
     simp [execOp,ho,Instr.box,e,newVar,newRow,newObj,Sem.run,G7,hR.cells]
    rw [this];have sW:(St.w6 g s).fresh d=true:=by
     obtain ⟨f1,f2⟩:=Ee hf;simp only [St.fresh,Bool.and_eq_true,Option.isNone_iff_eq_none];refine ⟨by rw [I8]; split<;>first|rfl|exact f1,?_⟩;exact KJ (by simp only [St.fresh,Bool.and_eq_true] at hf; exact hf.2)
    exact hn S _ _ _ ((h.w6 hg).alloc sW hR hF T) (HJ (by simp [G7]))
   split
   ·rename_i u y g cT
    split
    ·rename_i hs
     split
     ·rename_i kS
      simp only [Bool.and_eq_true,Bool.not_eq_true'] at kS;obtain ⟨⟨ic,mR⟩,dQ⟩:=kS;obtain ⟨O2,cs,k1,k2,k3,k4⟩:=Ef h.hs cT (h.ev x);exact core k2 k1 dQ (by intro hm; simp [hm] at mR) (E9.w6 h.hs k3 k4)
     ·trivial
    ·trivial
   ·split
    ·rename_i o' u hx _
     have hv:[a.eval x]=[Value.slice none 0 0]:=C0 h hx;exact core (g:=[]) (cs:=[.slice none 0 0]) (u:=.d0 o' u) (y:=([]:List u.den)) (O:=[]) (.inl ⟨rfl,⟨none,0,rfl,λ _=>rfl⟩,rfl⟩) (by simpa [o8,Ty.agg] using hv) rfl (by simp) E9.nil
    ·rename_i i p o0 t0 hx _
     intro next Q hn
     obtain ⟨e,b,off,k1,k2,k3,k4⟩:=C0 h hx;have k4:a.eval x=.pointer (some ⟨b,off,none⟩):=by simpa using k4
     unfold Oper.wp;have:(execOp a.eval o).run E.P w=.ok (.value (.pointer (some ⟨w.heap.size,0,none⟩))) (G7 w (.cells #[.pointer (some ⟨b,off,none⟩)] T)):=by
      simp [execOp,ho,Instr.box,k4,newVar,newRow,newObj,Sem.run,G7,Value.cells]
     rw [this];have h1:=h.uW E9.nil (E4.push (.cells #[.pointer (some ⟨b,off,none⟩)] T));have h2:=h1.share (S':=λ c=>S c\/c=w.heap.size) (λ _ h=>.inl h) (λ c hc=>by
      rcases hc with hc|rfl
      ·exact .inl hc
      ·exact .inr ⟨.inl h.hs.size,by simp [G7],λ j ej hj hb=>Nat.lt_irrefl _ (h.hs.bl j ej hj _ hb).2.2⟩)
     have hb:u7 (G7 w (.cells #[.pointer (some ⟨b,off,none⟩)] T)).heap w.heap.size=[.pointer (some ⟨b,off,none⟩)]:=by
      simp only [u7,G7,Array.getElem?_push_size]
     refine hn _ _ _ _ h2 ⟨w.heap.size,0,.pointer (some ⟨b,off,none⟩),rfl,.inr rfl,by rw [hb]; simp,by rw [e8,hb]; rfl,?_⟩;have h3:=h2.ev x;rw [hx,k4] at h3;exact h3
    ·trivial
  ·trivial
 ·trivial
end
end Go.Ex
namespace Go.Ex
section
variable {E:Env} {B:D8} {S S':Nat->Prop} {ι:Ix} {s:St} {a:Act} {w:World} {hp:List (Nat×g8)} {H H':Array Go.Obj}
theorem Sx {P:Program} {k:Nat} {T U:TypeId} {t:Ty} (hT:o6 P k T (.d0 true t)=true) (ty:TypeId) (hS:∀ c,S c->c<w.heap.size)
  {base:Option Addr} {cap:Nat} {l m:List t.den} {O1 Og:List Nat} {x:Value} {olds news:List Value}
  (hold:(Builtin.firstCells t.size l.length (.slice base l.length cap)).run P w.drew=.ok olds.toArray w.drew) (hL:i8 (g9 w.heap S t) t.size O1 olds l)
  (hs:Src P t.size U x m.length news w) (hN:i8 (g9 w.heap S t) t.size Og news m) (aF:(O1++Og).Nodup) (hO:∀ c∈O1++Og,c<w.heap.size)
  (cQ:cap<l.length+m.length) (iN:l.length+m.length<=140737488355328) (gO:(l.length+m.length)*t.wb<=140737488355328) :
  ∃ v' w' O',(Builtin.append_ #[T,U] ty #[.slice base l.length cap,x]).run P w=.ok v' w'/\g9 w'.heap S (.d0 true t) O' [v'] (l++m)/\O'.Nodup/\E4 [] w w'/\w.heap.size<w'.heap.size/\∀ c∈O',(c=w.heap.size\/c∈O1++Og)/\c<w'.heap.size:=by
 obtain ⟨et,k2,h1,h2,h3⟩:=F5 hT;obtain ⟨i,hi,eA,kP⟩:=V6 h3;have lI:=Ku h3 hi;have js:olds.length=l.length*t.size:=i8.length (λ _ _ _ h=>h.length) hL;have lH:news.length=m.length*t.size:=i8.length (λ _ _ _ h=>h.length) hN;have jY:=grownCap_ge w (l.length+m.length) cap et;have fR:=grownCap_le_maxLen w (l.length+m.length) cap et (by unfold maxLen; omega);have jb:(o8 t (zc t)).cells=(zc t).toArray:=(g9.r9 (H:=w.heap) (S:=S) t).cells;have aP:=run_append_grow_src (P:=P) w T U ty et i (o8 t (zc t)) h1 hi kP base l.length cap olds (by rw [eA]; exact hold) x m.length news (by rw [eA]; exact hs) cQ (by omega) (by rw [lI]; exact growslice_fits cQ gO);generalize kS:grownCap w (l.length+m.length) cap et=gc at aP jY fR;have bm:E4 [] w (w.drew.alloc (.cells ((olds++news).toArray++Builtin.zeroCells (o8 t (zc t)).cells (gc - (l.length+m.length))) et)) :=
  E4.trans E4.drew (E4.push _) (by simp)
 have cG:((olds++news).toArray++Builtin.zeroCells (o8 t (zc t)).cells (gc - (l.length+m.length)))=((olds++news)++(List.replicate (gc - (l.length+m.length)) (zc t)).flatten).toArray:=by
  rw [jb,EM]; simp
 rw [cG] at aP bm;have bf:(l++m).length=l.length+m.length:=List.length_append;obtain ⟨O',q1,q2,q3⟩:=DT (w:=w) (t:=t) (l:=l++m) (cap:=gc) hS (O:=O1++Og) (cells:=(olds++news)++(List.replicate (gc - (l.length+m.length)) (zc t)).flatten) (by
  rw [bf,List.take_left' (by rw [List.length_append,js,lH,Nat.add_mul])];exact i8.append (λ _ _ _ h=>h.length) hL hN) (by rw [bf]; exact jY) fR (by
  simp only [List.length_append,js,lH,List.length_flatten,List.map_replicate,List.sum_replicate_nat,P8];rw [<- Nat.add_mul,<- Nat.add_mul]; exact Nat.mul_le_mul_right _ (by omega)) et hO (w':=w.drew.alloc (.cells ((olds++news)++(List.replicate (gc - (l.length+m.length)) (zc t)).flatten).toArray et)) rfl (.inl rfl)
 have aX:(w.drew.alloc (.cells ((olds++news)++(List.replicate (gc - (l.length+m.length)) (zc t)).flatten).toArray et)).heap.size=w.heap.size+1:=by
  show (w.heap.push _).size=_;simp
 refine ⟨_,_,O',aP,?_,q3 aF,bm,by omega,λ c hc=>⟨q2 c hc,?_⟩⟩
 ·rw [bf] at q1; exact q1
 ·rcases q2 c hc with rfl|h
  ·omega
  ·have:=hO c h; omega
theorem b8b {P:Program} {k:Nat} {T U:TypeId} {t:Ty} (hT:o6 P k T (.d0 true t)=true) (ty:TypeId)
  {b off cap:Nat} {l m:List t.den} {O1 Og:List Nat} {x:Value} {news:List Value}
  (hl:l.length<=cap) (ed:cap<=maxLen) (fV:T6 t.isB w.heap b (off+cap*t.size)) (hL:i8 (g9 w.heap S t) t.size O1 (e8 w.heap b off (l.length*t.size)) l)
  (hs:Src P t.size U x m.length news w) (hN:i8 (g9 w.heap S t) t.size Og news m) (aF:(b::O1++Og).Nodup) (nV:¬ S b)
  (cw:l.length+m.length<=cap) (lq:1<=cap) :
  ∃ w',(Builtin.append_ #[T,U] ty #[.slice (some ⟨b,off,none⟩) l.length cap,x]).run P w=.ok (.slice (some ⟨b,off,none⟩) (l.length+m.length) cap) w' /\
   V2 w.heap w'.heap b (off+l.length*t.size) news.length/\w'.heap.size=w.heap.size/\g9 w'.heap S (.d0 true t) (b::(O1++Og)) [.slice (some ⟨b,off,none⟩) (l.length+m.length) cap] (l++m)/\E4 [b] w w' /\
   g9 w'.heap S (.d0 true t) (b::O1) [.slice (some ⟨b,off,none⟩) l.length cap] l:=by
 obtain ⟨et,k2,h1,h2,h3⟩:=F5 hT;obtain ⟨i,hi,eA,kP⟩:=V6 h3;have lH:news.length=m.length*t.size:=i8.length (λ _ _ _ h=>h.length) hN;have hle:l.length*t.size+m.length*t.size<=cap*t.size:=by rw [<- Nat.add_mul]; exact Nat.mul_le_mul_right _ cw
 have bf:(l++m).length=l.length+m.length:=List.length_append;obtain ⟨arr,T',⟨fz,e,ef⟩,hn⟩:=fV;have bR:u7 w.heap b=arr.toList:=by simp only [u7,e]
 have bK:=Z5 (P:=P) b (off+l.length*t.size) T' fz news 0 arr w ⟨e,ef.imp id (·.2)⟩ (by omega) hs.one;simp only [Nat.add_zero] at bK;have ix:arr.toList.take (off+l.length*t.size)++news++arr.toList.drop (off+l.length*t.size+news.length)=over (u7 w.heap b) (off+l.length*t.size) news:=by rw [bR]; rfl
 rw [ix] at bK;have aP:(Builtin.append_ #[T,U] ty #[.slice (some ⟨b,off,none⟩) l.length cap,x]).run P w=.ok (.slice (some ⟨b,off,none⟩) (l.length+m.length) cap) (w.setRow b (over (u7 w.heap b) (off+l.length*t.size) news).toArray):=by
  rw [<- eA] at hs bK ⊢;rcases hs.kind with ⟨e',hk⟩|hk<;>simp [Builtin.append_,run_underlying h1,run_underlying hk,sizeOf,typeInfo,hi,hs.len,cw,hs.cells,Addr.add_lit,bK]
 obtain ⟨hc,cF⟩:=En (w:=w) (b:=b) (off:=off+l.length*t.size) (cs:=news) ⟨arr,T',⟨fz,e,ef.imp id (·.2)⟩,by omega⟩;have dN:b<w.heap.size:=(Array.getElem?_eq_some_iff.1 e).1;have pc:=(List.nodup_cons.1 (by simpa using aF:(b::(O1++Og)).Nodup));have hold:e8 (w.setRow b (over (u7 w.heap b) (off+l.length*t.size) news).toArray).heap b off (l.length*t.size)=e8 w.heap b off (l.length*t.size):=hc.cells dN (λ _=>.inl (Nat.le_refl _));have bK:∀ {O:List Nat} {cs:List Value} {y:t.den},(∀ c∈O,c∈O1++Og)->g9 w.heap S t O cs y->g9 (w.setRow b (over (u7 w.heap b) (off+l.length*t.size) news).toArray).heap S t O cs y:=by
  intro O cs y hO hr;refine hr.s8 (λ c cW=>setRow_other ?_) (λ _ h=>h);intro cA;rw [cA] at cW;rcases cW with h|h
  ·exact pc.1 (hO _ h)
  ·exact nV h
 have dK:T6 t.isB (w.setRow b (over (u7 w.heap b) (off+l.length*t.size) news).toArray).heap b (off+cap*t.size):=hc.FU ⟨arr,T',⟨fz,e,ef⟩,hn⟩;refine ⟨_,aP,hc,setRow_size,?_,⟨rfl,.of rfl rfl,rfl,by rw [setRow_size]; exact Nat.le_refl _,λ c cJ cA=>setRow_other (by simpa using cA)⟩,?_⟩
 rotate_left
 ·refine .inr ⟨b,off,cap,O1,rfl,hl,⟨ed,λ _=>lq⟩,?_,?_,rfl,dK⟩
  ·have:=dK.free.u7
   have:=Nat.mul_le_mul_right t.size hl;omega
  ·rw [hold]
   exact i8.mono (L:=O1) (λ _ h=>h) (λ O cs y hO hr=>bK (λ c hc=>by simp [hO c hc]) hr) hL
 refine .inr ⟨b,off,cap,O1++Og,by rw [bf],by rw [bf]; exact cw,⟨ed,λ _=>lq⟩,?_,?_,rfl,dK⟩
 ·have:=dK.free.u7
  rw [bf,Nat.add_mul]; omega
 ·rw [bf,Nat.add_mul,KU,hold,<- lH,cF]
  exact i8.append (λ _ _ _ h=>h.length) (i8.mono (L:=O1) (λ _ h=>h) (λ O cs y hO hr=>bK (λ c hc=>by simp [hO c hc]) hr) hL) (i8.mono (L:=Og) (λ _ h=>h) (λ O cs y hO hr=>bK (λ c hc=>by simp [hO c hc]) hr) hN)
theorem RN {P:Program} {k:Nat} {T U:TypeId} {t:Ty} (hT:o6 P k T (.d0 true t)=true) (ty:TypeId) (hS:∀ c,S c->c<w.heap.size)
  {v:Value} {l m:List t.den} {Of Og:List Nat} {x:Value} {news:List Value}
  (hR:g9 w.heap S (.d0 true t) Of [v] l) (hs:Src P t.size U x m.length news w) (hN:i8 (g9 w.heap S t) t.size Og news m)
  (aF:(Of++Og).Nodup) (hO:∀ c∈Of++Og,¬ S c/\c<w.heap.size)
  (iN:l.length+m.length<=140737488355328) (gO:(l.length+m.length)*t.wb<=140737488355328) :
  ∃ v' w' O',(Builtin.append_ #[T,U] ty #[v,x]).run P w=.ok v' w'/\g9 w'.heap S (.d0 true t) O' [v'] (l++m)/\O'.Nodup/\E4 Of w w'/\(∀ c∈O',(w.heap.size<=c\/c∈Of++Og)/\c<w'.heap.size)/\g9 w'.heap S (.d0 true t) Of [v] l /\
   (E4 [] w w'\/∃ b off cap n,v=.slice (some ⟨b,off,none⟩) l.length cap/\l.length<=cap/\1<=cap/\V2 w.heap w'.heap b (off+l.length*t.size) n/\w'.heap.size=w.heap.size):=by
 have fB:=hR;rcases hR with ⟨rfl,⟨A,c,e,hc⟩,rfl⟩|⟨b,off,cap,O1,e,c2,c3,c4,c5,rfl,c7⟩
 ·obtain rfl:=hc rfl
  simp only [List.cons.injEq,and_true] at e;subst e;by_cases h0:m.length=0
  ·obtain rfl:m=[]:=List.length_eq_zero_iff.1 h0
   obtain ⟨rfl,rfl⟩:=hN;obtain ⟨et,k2,h1,h2,h3⟩:=F5 hT;obtain ⟨i,hi,eA,kP⟩:=V6 h3;refine ⟨.slice A 0 0,w,[],?_,.inl ⟨rfl,⟨A,0,rfl,λ _=>rfl⟩,rfl⟩,List.nodup_nil,⟨rfl,.refl _,rfl,Nat.le_refl _,λ _ _ _=>rfl⟩,by simp,fB,.inl ⟨rfl,.refl _,rfl,Nat.le_refl _,λ _ _ _=>rfl⟩⟩;rw [<- eA] at hs;have iT:=hs.len;have eN:=hs.cells;simp only [List.length_nil] at iT eN;rcases hs.kind with ⟨e',hk⟩|hk<;>cases A<;>simp [Builtin.append_,run_underlying h1,run_underlying hk,sizeOf,typeInfo,hi,iT,eN,storeCells]
  ·obtain ⟨v',w',O',q1,q2,q3,q4,q5,q6⟩:=Sx hT ty hS (base:=A) (cap:=0) (l:=([]:List t.den)) (olds:=[]) (O1:=[]) (by
    cases A with
    | none=>exact run_firstCells_none w.drew t.size 0 0 0
    | some A=>exact run_firstCells_some w.drew t.size 0 A 0 0 [] (by simp) (by simp)) ⟨rfl,rfl⟩ hs hN (by simpa using aF) (λ c hc=>(hO c (by simpa using hc)).2) (by simp; omega) iN gO
   exact ⟨v',w',O',q1,q2,q3,q4,λ c hc=>⟨(q6 c hc).1.imp (λ h=>by omega) (λ h=>by simpa using h),(q6 c hc).2⟩,fB.s8 (λ c hc=>q4.frame c (hc.elim (λ h=>by cases h) (hS c)) (by simp)) (λ _ h=>h),.inl q4⟩
 ·simp only [List.cons.injEq,and_true] at e
  subst e;by_cases cw:l.length+m.length<=cap
  ·obtain ⟨w',q1,q2,q3,q4,q5,q6⟩:=b8b (S:=S) hT ty c2 c3.1 c7 c5 hs hN aF (hO b (by simp)).1 cw (c3.2 rfl)
   refine ⟨_,w',b::(O1++Og),q1,q4,by simpa using aF,q5.mono (by simp),λ c hc=>⟨.inr (by simpa using hc),?_⟩,q6,.inr ⟨b,off,cap,news.length,rfl,c2,c3.2 rfl,q2,q3⟩⟩;rw [q3]; exact (hO c (by simpa using hc)).2
  ·have ew:(O1++Og).Nodup:=(List.nodup_cons.1 (by simpa using aF:(b::(O1++Og)).Nodup)).2
   obtain ⟨v',w',O',q1,q2,q3,q4,q5,q6⟩:=Sx hT ty hS (base:=some ⟨b,off,none⟩) (cap:=cap) (l:=l) (olds:=e8 w.heap b off (l.length*t.size)) (O1:=O1) (by
    refine run_firstCells_some w.drew t.size l.length _ l.length cap _ (La _ _ _ c4) (λ j u hu=>?_);rw [Addr.H2]; exact M0 hu) c5 hs hN ew (λ c hc=>(hO c (by simp at hc ⊢; exact .inr hc)).2) (by omega) iN gO
   exact ⟨v',w',O',q1,q2,q3,q4.mono (by simp),λ c hc=>⟨(q6 c hc).1.imp (λ h=>by omega) (λ h=>by simp at h ⊢; exact .inr h),(q6 c hc).2⟩,fB.s8 (λ c hc=>q4.frame c (hc.elim (λ h=>(hO c (List.mem_append_left _ h)).2) (hS c)) (by simp)) (λ _ h=>h),.inl q4⟩
theorem IX {P:Program} (h:RS B S ι s a w) {v:AV} {t0:Ty} {U:TypeId} (hk:(∃ e',P.underlying U=some (.slice e'))\/P.underlying U=some .string) {t:Ty} {m:List t.den} {g:List Nat} {x:Value} (hx:v.uY s t0=some (⟨t,m⟩,g)) (hv:VX w.heap S ι s.hp v [x]) :
  ∃ Og news,Src P t.size U x m.length news w/\i8 (g9 w.heap S t) t.size Og news m/\Og.Nodup/\∀ b∈Og,M1 ι s.hp g b:=by
 have src:∀ {A:Option Addr} {n c:Nat} {news:List Value},news.length=n*t.size->(n≠0->∃ b off,A=some ⟨b,off,none⟩/\news=e8 w.heap b off (n*t.size))->(∀ u∈news,u.oneCell'=true)->Src P t.size U (.slice A n c) n news w:=by
  intro A n c news hl hn h1;by_cases h0:n=0
  ·subst h0
   have:news=[]:=List.length_eq_zero_iff.1 (by omega);subst this;cases A with
   | none=>exact ⟨hk,λ _=>rfl,run_firstCells_none w _ 0 0 c,run_firstCells_none w.drew _ 0 0 c,by simp,λ _ h=>by cases h⟩
   | some A=>exact ⟨hk,λ _=>rfl,run_firstCells_some w _ 0 A 0 c [] (by simp) (by simp),run_firstCells_some w.drew _ 0 A 0 c [] (by simp) (by simp),by simp,λ _ h=>by cases h⟩
  ·obtain ⟨b,off,rfl,e⟩:=hn h0
   have bO:∀ j u,news[j]?=some u->w.cell? ((⟨b,off,none⟩:Addr).add j)=some u:=by
    intro j u hu;rw [Addr.H2]; rw [e] at hu; exact M0 hu
   exact ⟨hk,λ _=>rfl,run_firstCells_some w _ n _ n c news hl bO,run_firstCells_some w.drew _ n _ n c news hl (by simpa using bO),hl,h1⟩
 unfold AV.uY at hx;split at hx
 ·cases hx
  have fH:[x]=[Value.slice none 0 0]:=hv;obtain rfl:x=.slice none 0 0:=by simpa using fH
  exact ⟨[],[],src (by simp) (by simp) (by simp),⟨rfl,rfl⟩,List.nodup_nil,by simp⟩
 ·rename_i y
  cases hx;obtain ⟨rfl,hm⟩:=VX.yH hv;refine ⟨[],byteCells ⟨y.toArray⟩,?_,?_,List.nodup_nil,by simp⟩
  ·have hl:(List.map (λ b:UInt8=>(b.toNat:Int)) y).length=(⟨y.toArray⟩:ByteArray).size:=by simp [ByteArray.size]
   have e:∀ w':World,(Builtin.firstCells 1 (⟨y.toArray⟩:ByteArray).size (.string ⟨y.toArray⟩)).run P w'=.ok (byteCells ⟨y.toArray⟩).toArray w':=firstCells_string _;show Src P 1 U (.string ⟨y.toArray⟩) (List.map (λ b:UInt8=>(b.toNat:Int)) y).length (byteCells ⟨y.toArray⟩) w;rw [hl];exact ⟨hk,λ _=>rfl,e w,e w.drew,by rw [byteCells_length,Nat.mul_one],λ u hu=>by
    obtain ⟨_,_,rfl⟩:=List.mem_map.1 hu;rfl⟩
  ·simp only [byteCells]
   clear src hv hm
   induction y with
   | nil=>exact ⟨rfl,rfl⟩
   | cons c y ih=>exact ⟨[],[],rfl,⟨rfl,rfl,by simp only [r7,IntKind.min,IntKind.max,IntKind.signed,IntKind.bits]; have:=c.toNat_lt; simp; omega⟩,by simpa [Ty.size] using ih⟩
 ·split at hx
  ·cases hx
  ·rename_i t' l fm
   split at hx
   ·rename_i cj
    cases hx;obtain ⟨A,c,e,k⟩:=Dx h.hs hv fm;subst e;rcases k with rfl|⟨b,off,O',rfl,k1,k2,k3,k4⟩
    ·exact ⟨[],[],src (by simp) (by simp) (by simp),⟨rfl,rfl⟩,List.nodup_nil,by simp⟩
    ·have hO:O'=[]:=i8.M8 (λ _ _ _ hr=>g9.M8 cj hr) k3
     subst hO;exact ⟨[],_,src (i8.length (λ _ _ _ h=>h.length) k3) (λ _=>⟨b,off,rfl,rfl⟩) (i8.plain (λ _ _ _ hr=>hr.plain) k3 · · |>.1),k3,List.nodup_nil,by simp⟩
   ·split at hx
    ·rename_i u m' g' cT
     cases hx;obtain ⟨O,cs,k1,k2,k3,k4⟩:=zN h.hs cT hv;rcases k2 with ⟨rfl,⟨A,c,rfl,hc⟩,rfl⟩|⟨b,off,cap,O',rfl,c2,c3,c4,c5,rfl,c7⟩
     ·have e:x=.slice A 0 c:=k1
      subst e;exact ⟨[],[],src (by simp) (by simp) (by simp),⟨rfl,rfl⟩,List.nodup_nil,by simp⟩
     ·have e:x=.slice (some ⟨b,off,none⟩) (List.length m) cap:=k1
      subst e;exact ⟨O',_,src (i8.length (λ _ _ _ h=>h.length) c5) (λ _=>⟨b,off,rfl,rfl⟩) (i8.plain (λ _ _ _ hr=>hr.plain) c5 · · |>.1),c5,(List.nodup_cons.1 k3).2,λ c hc=>k4 c (by simp [hc])⟩
    ·cases hx
theorem Zq (hE:C6 E B) (h:RS B S ι s a w) {o:Oper} {c:Call} (ho:o.op=.call c) (hc:c.callee=.builtin .append) {x y:Operand} {T U:TypeId} (ha:c.args.toList=[x,y]) (eW:c.argTypes.toList=[T,U])
  {q:Bool} {t0:Ty} {bts d:Nat} (hT:look T E.tt=some ⟨.d0 q t0,bts⟩) {l m:List t0.den} {f g Of Og:List Nat} {v1:Value} {news:List Value} (eY:a.eval x=v1) (hR:g9 w.heap S (.d0 true t0) Of [v1] l) (nu:Of.Nodup) (qY:∀ b∈Of,M1 ι s.hp f b)
  (hs:Src E.P t0.size U (a.eval y) m.length news w) (hN:i8 (g9 w.heap S t0) t0.size Og news m) (lL:Og.Nodup) (lf:∀ b∈Og,M1 ι s.hp g b) {p:Prop} (hp:p->l.length+m.length<=140737488355328/\(l.length+m.length)*t0.wb<=140737488355328) :
  E6 E.P B o a w ((s.lay d (f++g) (.d0 true t0) (l++m)).f7 p):=by
 refine E6.Ii (λ v s' hl oT=>?_);obtain ⟨iN,gO⟩:=hp oT;obtain ⟨gn,gp⟩:=Ie hl;have df:o6 E.P 100 T (.d0 true t0)=true:=DC (t:=.d0 q t0) (u:=.d0 true t0) rfl (p7 hE hT);have aF:(Of++Og).Nodup:=List.nodup_append.2 ⟨nu,lL,by
  rintro c h1 c' h2 rfl;obtain ⟨i,e,i1,i2,i3⟩:=qY c h1;obtain ⟨j,e',j1,j2,j3⟩:=lf c h2;exact h.hs.dj i j e e' i2 j2 (λ e=>(List.nodup_append.1 gn).2.2 i i1 j j1 e) c i3 j3⟩
 have dO:∀ b∈Of++Og,M1 ι s.hp (f++g) b:=λ b hb=>(List.mem_append.1 hb).elim (λ hb=>(qY b hb).mono (by simp +contextual)) (λ hb=>(lf b hb).mono (by simp +contextual));have hF:=E9.w6 h.hs aF dO;have hd:=h.w6 (g:=f++g) gp;obtain ⟨v',w',O',q1,q2,q3,q4,q5,_⟩:=RN df o.type h.hs.slt hR hs hN aF (λ c hc=>⟨(hF.2 c hc).1,(hF.2 c hc).2.2.1⟩) iN gO;have aD:c.args=#[x,y]:=by rw [<- ha]
 have eB:c.argTypes=#[T,U]:=by rw [<- eW]
 have aP:(execOp a.eval o).run E.P w=.ok (.value v') w':=by
  subst eY;simp [execOp,ho,resolve,hc,invoke,builtin,aD,eB,q1]
 have nA:E9 B S ι (St.w6 (f++g) s).hp w Of:=hF.sub nu (by simp +contextual);refine y6.lay hl aP (cs:=[v']) rfl q2 (hd.uW nA q4) ⟨q3,λ c hc=>?_⟩;obtain ⟨k1,k2⟩:=q5 c hc;rcases k1 with k1|k1
 ·exact ⟨λ hS=>by have:=h.hs.slt c hS; omega,.inl (by have:=h.hs.size; omega),k2,λ i e hi hb=>by have:=(hd.hs.bl i e hi c hb).2.2; omega⟩
 ·exact ⟨(hF.2 c k1).1,(hF.2 c k1).2.1,k2,(hF.2 c k1).2.2.2⟩
theorem SL (hE:C6 E B) (h:RS B S ι s a w) {o:Oper} {c:Call} (ho:o.op=.call c) (hc:c.callee=.builtin .append) {x y:Operand} {T U:TypeId} (ha:c.args.toList=[x,y]) (eW:c.argTypes.toList=[T,U])
  (hk:(∃ e',E.P.underlying U=some (.slice e'))\/E.P.underlying U=some .string):E6 E.P B o a w (wx E T (s.ev x) (s.ev y) o.dst s):=by
 unfold wx
 split
 ·rename_i q t0 bts d hT hd
  split
  ·trivial
  ·rename_i t m g cu
   obtain ⟨Og,news,k1,k2,k3,k4⟩:=IX (P:=E.P) h hk cu (h.ev y);simp only;have own:∀ {l:List t0.den} {f Of:List Nat} {v1:Value},a.eval x=v1->g9 w.heap S (.d0 true t0) Of [v1] l->Of.Nodup->(∀ b∈Of,M1 ι s.hp f b) ->
     E6 E.P B o a w (if h:t=t0 then (s.lay d (f++g) (.d0 true t0) (l++N5 h m)).f7 ((l.length+m.length:Nat)<=140737488355328/\(l.length+m.length:Nat)*(t0.wb:Nat)<=140737488355328) else .fail "append: type"):=by
    intro l f Of v1 e1 e2 e3 e4
    split
    ·rename_i ht
     subst ht;exact Zq hE h ho hc ha eW hT e1 e2 e3 e4 k1 k2 k3 k4 (λ hp=>hp)
    ·trivial
   split
   ·rename_i hx
    have eh:[a.eval x]=[Value.slice none 0 0]:=C0 h hx;exact own (f:=[]) (Of:=[]) (v1:=.slice none 0 0) (by simpa using eh) (.inl ⟨rfl,⟨none,0,rfl,λ _=>rfl⟩,rfl⟩) List.nodup_nil (by simp)
   ·rename_i u lx hx
    split
    ·obtain ⟨cs,e,hR⟩:=C0 h hx
     rcases hR with ⟨_,⟨A,c,rfl,eN⟩,rfl⟩|⟨b,off,cap,O',rfl,c2,c3,c4,c5,c6,c7⟩
     ·exact own (f:=[]) (Of:=[]) (v1:=.slice A 0 c) (by simpa [o8,Ty.agg] using e) (.inl ⟨rfl,⟨A,c,rfl,eN⟩,rfl⟩) List.nodup_nil (by simp)
     ·cases c6
    ·trivial
   ·rename_i xv _ _
    split
    ·rename_i u l f cT
     split
     ·rename_i hu
      subst hu;obtain ⟨O2,cs,r1,r2,r3,r4⟩:=zN h.hs cT (h.ev x);have r1':a.eval x=cs.headD undef:=r1;have cF:cs=[cs.headD undef]:=by
       have:=r2.length
       match cs,this with
       | [c],_=>rfl
      rw [cF] at r2;exact own r1' r2 r3 r4
     ·trivial
    ·trivial
 ·trivial
end
end Go.Ex
namespace Go.Ex
section
variable {E:Env} {B:D8} {S S':Nat->Prop} {ι:Ix} {s:St} {a:Act} {w:World} {hp:List (Nat×g8)} {H H':Array Go.Obj}
def xF (a:Act) (d n:Int):Option Operand->Prop
 | none=>n=d
 | some x=>∃ k,a.eval x=.int k n
theorem X7 (h:RS B S ι s a w) {d n:Int} {x:Option Operand} (hb:Z4 s d x=some n):xF a d n x:=by
 unfold Z4 at hb;split at hb
 ·cases hb; rfl
 ·rename_i x
  split at hb
  ·rename_i k m hx
   cases hb;exact ⟨k,(VX.H5 (C0 h hx)).1⟩
  ·cases hb
theorem yT {P:Program} {k:IntKind} {n:Int} {y:Nat} {c:BoundsCode} (h0:0<=n) (h1:n<=y):(Instr.sliceBound (.int k n) y c).run P w=.ok n.toNat w:=by
 simp [Instr.sliceBound,asIntOf,h0,h1]
theorem Kn {P:Program} {isS:Bool} {len cap:Nat} {lo hi:Option Operand} {x y:Int} (h1:xF a 0 x lo) (h2:xF a (len:Int) y hi) (h0:0<=x) (lP:x<=y) (hy:y<=(cap:Int)) :
  (Instr.sliceBounds isS len cap (lo.map a.eval) (hi.map a.eval) none).run P w=.ok (x.toNat,y.toNat,cap) w:=by
 cases hi with
 | none =>
  have h2:y=len:=h2;cases lo with
  | none =>
   have h1:x=0:=h1;subst h1 h2;simp [Instr.sliceBounds,Sem.run_pure]
  | some z =>
   obtain ⟨k,e⟩:=h1;subst h2;simp only [Instr.sliceBounds,Option.map_some,Option.map_none,e,Sem.run_bind,Sem.run_pure,Result.andThen_ok,yT h0 lP,Int.toNat_natCast]
 | some z2 =>
  obtain ⟨k2,e2⟩:=h2;have hb:∀ c,(Instr.sliceBound (.int k2 y) cap c).run P w=.ok y.toNat w:=λ c=>yT (by omega) (by omega);cases lo with
  | none =>
   have h1:x=0:=h1;subst h1;simp [Instr.sliceBounds,e2,hb]
  | some z =>
   obtain ⟨k,e⟩:=h1;have fq:∀ c,(Instr.sliceBound (.int k x) y.toNat c).run P w=.ok x.toNat w:=λ c=>yT h0 (by omega);simp only [Instr.sliceBounds,Option.map_some,e,e2,Sem.run_bind,Sem.run_pure,Result.andThen_ok,hb,fq]
theorem b7m {P:Program} {len cap:Nat} {lo:Option Operand} {x y:Operand} {k k':IntKind} (h1:xF a 0 0 lo) (h2:a.eval x=.int k 0) (h3:a.eval y=.int k' 0) :
  (Instr.sliceBounds true len cap (lo.map a.eval) (some (a.eval x)) (some (a.eval y))).run P w=.ok (0,0,0) w:=by
 have hb:∀ (k:IntKind) (n:Nat) c,(Instr.sliceBound (.int k 0) n c).run P w=.ok 0 w:=λ k n c=>yT (n:=0) (by omega) (by omega);cases lo with
 | none=>simp only [Instr.sliceBounds,Option.map_none,h2,h3,Sem.run_bind,hb,Sem.run_pure,Result.andThen_ok,if_true]
 | some z =>
  obtain ⟨k,e⟩:=h1;simp only [Instr.sliceBounds,Option.map_some,e,h2,h3,Sem.run_bind,hb,Sem.run_pure,Result.andThen_ok,if_true]
theorem Vp {y:yY} {x z:Int} (h:0<=x):(⟨y.toArray⟩:ByteArray).extract x.toNat z.toNat=⟨(n7 x z y).toArray⟩:=by
 have:((⟨y.toArray⟩:ByteArray).extract x.toNat z.toNat).data=(n7 x z y).toArray:=by
  rw [ByteArray.data_extract];simp only [List.extract_toArray,List.extract_eq_take_drop,n7];congr 2;omega
 exact congrArg ByteArray.mk this
theorem VF {α:Type} {x z:Int} {l:List α}:(n7 x z l).length<=l.length:=by simp only [n7,List.length_take,List.length_drop]; omega
theorem Ko {P:Program} {T:TypeId} {k:Nat} {q:Bool} {t:Ty} (hT:o6 P k T (.d0 q t)=true) {A:Option Addr} {len cap:Nat} {lo hi:Option Operand} {x y:Int} (h1:xF a 0 x lo) (h2:xF a (len:Int) y hi) (h0:0<=x) (lP:x<=y) (hy:y<=(cap:Int)) :
  (Instr.sliceAt T (.slice A len cap) (lo.map a.eval) (hi.map a.eval) none).run P w=.ok (.slice (if cap=x.toNat then A else A.map (·.add (x.toNat*t.size))) (y.toNat - x.toNat) (cap - x.toNat)) w:=by
 obtain ⟨et,k',e1,e2,e3⟩:=F5 hT;simp only [Instr.sliceAt,Instr.slice,Sem.run_bind,u5 e1,Result.andThen_ok,Kn h1 h2 h0 lP hy,run_sizeOf e3,Sem.run_pure]
theorem Kb {P:Program} {T:TypeId} {k:Nat} {q:Bool} {t:Ty} (hT:o6 P k T (.d0 q t)=true) {A:Option Addr} {len cap:Nat} {lo hi:Option Operand} {x y:Int} (h1:xF a 0 x lo) (h2:xF a (len:Int) y hi) (h0:0<=x) (lP:x<=y) (hy:y<=(len:Int)) (hc:len<=cap) :
  (Instr.sliceAt T (.slice A len cap) (lo.map a.eval) (hi.map a.eval) none).run P w=.ok (.slice (if cap=x.toNat then A else A.map (·.add (x.toNat*t.size))) (y.toNat - x.toNat) (cap - x.toNat)) w:=Ko hT h1 h2 h0 lP (by omega)
theorem b4E (hE:C6 E B) (h:RS B S ι s a w) {o:Oper} {T:TypeId} {x:Operand} {lo hi mx:Option Operand} (ho:o.op=.slice T x lo hi mx):E6 E.P B o a w (xS E T (s.ev x) lo hi mx s):=by
 have he:execOp a.eval o=(do pure (.value (<- Instr.sliceAt T (a.eval x) (lo.map a.eval) (hi.map a.eval) (mx.map a.eval)))):=by simp [execOp,ho]
 unfold xS
 split
 ·trivial
 ·rename_i m iS
  have h1:=X7 h iS;have nil3:∀ {q:Bool} {t:Ty} {A:Option Addr} {len cap:Nat} {c n:Int},I4 E T (.d0 q t)=true->hi.isSome=true->(∃ z,mx=some z)->Z4 s 0 mx=some c->(Z4 s (len:Int) hi=some n)->a.eval x=.slice A len cap->m=0/\n=0/\c=0 ->
    y6 E.P B o a w (.val (.d0 true t) ([]:List t.den)) s:=by
   rintro q t A len cap c n bD hh ⟨z,rfl⟩ hm hb hv ⟨rfl,rfl,rfl⟩;cases hi with
   | none=>cases hh
   | some y =>
    obtain ⟨k1,e1⟩:=X7 h hb;obtain ⟨k2,e2⟩:=X7 h hm;obtain ⟨et,k',f1,f2,f3⟩:=F5 (C8 hE bD);refine y6.value (val:=.slice A 0 0) ?_ h ⟨[.slice A 0 0],rfl,.inl ⟨rfl,⟨A,0,rfl,λ _=>rfl⟩,rfl⟩⟩;rw [he];simp only [Option.map_some,hv,Instr.sliceAt,Instr.slice,Sem.run_bind,u5 f1,Result.andThen_ok,b7m h1 e1 e2,run_sizeOf f3,Sem.run_pure];simp
  have any3:∀ {q:Bool} {t:Ty} {A:Option Addr} {len cap:Nat} {c n:Int},I4 E T (.d0 q t)=true->hi.isSome=true->lo.isSome=true->(∃ z,mx=some z)->Z4 s 0 mx=some c->(Z4 s (len:Int) hi=some n)->a.eval x=.slice A len cap->len<=cap->(0<=m/\m<=n/\n<=c/\c<=(len:Int)) ->
    y6 E.P B o a w .any s:=by
   rintro q t A len cap c n bD hh lH ⟨z,rfl⟩ hm hb hv cQ ⟨g1,g2,g3,g4⟩;cases hi with
   | none=>cases hh
   | some y =>
    cases lo with
    | none=>cases lH
    | some z0 =>
     obtain ⟨k1,e1⟩:=X7 h hb;obtain ⟨k2,e2⟩:=X7 h hm;obtain ⟨k0,e0⟩:=h1;obtain ⟨et,k',f1,f2,f3⟩:=F5 (C8 hE bD);have dG:∀ d,(Instr.sliceBound (.int k2 c) cap d).run E.P w=.ok c.toNat w:=λ d=>yT (by omega) (by omega);have fq:∀ d,(Instr.sliceBound (.int k1 n) c.toNat d).run E.P w=.ok n.toNat w:=λ d=>yT (by omega) (by omega);have qa:∀ d,(Instr.sliceBound (.int k0 m) n.toNat d).run E.P w=.ok m.toNat w:=λ d=>yT g1 (by omega);refine y6.value (val:=.slice (if c.toNat=m.toNat then A else A.map (·.add (m.toNat*t.size))) (n.toNat - m.toNat) (c.toNat - m.toNat)) ?_ h ⟨_,rfl⟩;rw [he];simp only [Option.map_some,hv,Instr.sliceAt,Instr.slice,Instr.sliceBounds,e0,e1,e2,dG,fq,qa,Sem.run_bind,u5 f1,Result.andThen_ok,run_sizeOf f3,Sem.run_pure,if_true]
  split
  ·rename_i y hx
   split
   ·rename_i n hb
    split
    ·rename_i bD
     rintro ⟨g1,g2,g3⟩;obtain ⟨hv,hl⟩:=VX.yH (C0 h hx);have hu:=W2 (C8 hE bD);refine y6.value (val:=.string ⟨(n7 m n y).toArray⟩) ?_ h (VX.str (Nat.le_trans VF hl));rw [he];have aX:(⟨y.toArray⟩:ByteArray).size=List.length y:=rfl;simp only [hv,Option.map_none,Instr.sliceAt,Instr.slice,Sem.run_bind,u5 hu,Result.andThen_ok,aX];simp only [Option.isSome_none,Bool.false_eq_true,if_false,Kn (isS:=false) h1 (X7 h hb) g1 g2 g3,Sem.run_pure,Result.andThen_ok,Sem.run_bind,Vp g1]
    ·trivial
   ·trivial
  ·rename_i t y hx
   obtain ⟨cs,e,hR⟩:=C0 h hx
   split
   ·rename_i n hb
    split
    ·rename_i bD
     rintro ⟨g1,g2,g3⟩;have key:∀ {A:Option Addr} {cap:Nat},a.eval x=.slice A (List.length y) cap->List.length y<=cap->(∃ cs',Value.slice (if cap=m.toNat then A else A.map (·.add (m.toNat*t.size))) (n.toNat - m.toNat) (cap - m.toNat)=o8 (.d0 false t) cs'/\g9 w.heap S (.d0 false t) [] cs' (n7 m n y)) ->
       y6 E.P B o a w (.val (.d0 false t) (n7 m n y)) s:=by
      rintro A cap hv hc ⟨cs',e1,e2⟩;refine y6.value (val:=o8 (.d0 false t) cs') ?_ h ⟨cs',rfl,e2⟩;rw [he,hv,<- e1];simp only [Option.map_none,Sem.run_bind,Kb (C8 hE bD) h1 (X7 h hb) g1 g2 g3 hc,Result.andThen_ok,Sem.run_pure]
     have hlen:(n7 m n y).length=(n - m).toNat:=Z1 g1 g3;rcases hR with ⟨_,⟨A,c,rfl,_⟩,rfl⟩|⟨b1,o1,cap,O',rfl,c2,c3,c4,c5,c6,rfl,c7⟩
     ·have hn:n=0:=by have:n<=((([]:List t.den).length:Nat):Int):=g3; simp at this; omega
      have ia:m=0:=by omega
      subst hn ia;exact key (A:=A) (cap:=c) (by simpa [o8,Ty.agg] using e) (by simp) ⟨[_],rfl,.inl ⟨rfl,⟨_,_,rfl,by simp⟩,by simp [n7]⟩⟩
     ·refine key (A:=some ⟨b1,o1,none⟩) (cap:=cap) (by simpa [o8,Ty.agg] using e) c2 ⟨[_],rfl,?_⟩
      by_cases hz:n7 m n y=[]
      ·have:n.toNat - m.toNat=0:=by rw [hz] at hlen; simp at hlen; omega
       rw [this];exact .inl ⟨rfl,⟨_,_,rfl,by simp⟩,hz⟩
      ·have gr:0<(n - m).toNat:=by rw [<- hlen]; exact List.length_pos_iff.2 hz
       obtain ⟨P1,P2,P3,e1,g⟩:=c5.cut m.toNat (n - m).toNat;have hP:P2=[]:=by have:=e1.symm; simp at this; exact this.2.1
       subst hP;have hle:m.toNat*t.size+(n - m).toNat*t.size<=List.length y*t.size:=by rw [<- Nat.add_mul]; exact Nat.mul_le_mul_right _ (by omega)
       rw [n9,m0 _ _ _ _ (by omega)] at g;refine .inr ⟨b1,o1+m.toNat*t.size,cap - m.toNat,[],?_,by rw [hlen]; omega,⟨by have:=c3.1; omega,by simp⟩,by rw [hlen]; omega,by rw [hlen]; exact g,rfl,rfl,c7⟩;rw [if_neg (by omega),Option.map_some,Addr.H2,hlen,show n.toNat - m.toNat=(n - m).toNat from by omega]
    ·trivial
   ·rename_i z hb
    split
    ·rename_i c bD hc
     simp only [Bool.and_eq_true] at bD;intro hp;obtain ⟨A,c,e1,_⟩:=Bk hR;exact nil3 bD.1 bD.2 ⟨_,rfl⟩ hc hb (by rw [show a.eval x=o8 (.d0 false t) cs by simpa using e]; exact e1) hp
    ·trivial
   ·trivial
  ·rename_i t y hx
   obtain ⟨cs,e,hR⟩:=C0 h hx
   split
   ·rename_i n hb
    split
    ·rename_i bD
     obtain ⟨fl,l,m'⟩:=y;rintro ⟨rfl,g1,g2,g3⟩;obtain ⟨b1,o1,O',rfl,c2,c4,c5,_,rfl,c7⟩:=hR;have hv:a.eval x=.slice (some ⟨b1,o1,none⟩) l.length (l.length+m'.length):=by simpa [o8,Ty.agg] using e
     have g3:n<=((l++m').length:Int):=by rw [List.length_append]; exact g3
     have hlen:(n7 m n (l++m')).length=(n - m).toNat:=Z1 g1 g3;have c4':=c4;rw [List.length_append] at g3;refine y6.value (val:=.slice (if l.length+m'.length=m.toNat then some ⟨b1,o1,none⟩ else (some ⟨b1,o1,none⟩:Option Addr).map (·.add (m.toNat*t.size))) (n.toNat - m.toNat) (l.length+m'.length - m.toNat)) ?_ h ⟨[_],rfl,?_⟩
     ·rw [he,hv]
      simp only [Option.map_none,Sem.run_bind,Ko (C8 hE bD) h1 (X7 h hb) g1 g2 g3,Result.andThen_ok,Sem.run_pure]
     by_cases hz:n7 m n (l++m')=[]
     ·have:n.toNat - m.toNat=0:=by rw [hz] at hlen; simp at hlen; omega
      rw [this];exact .inl ⟨rfl,⟨_,_,rfl,by simp⟩,hz⟩
     ·have gr:0<(n - m).toNat:=by rw [<- hlen]; exact List.length_pos_iff.2 hz
      obtain ⟨P1,P2,P3,e1,g⟩:=c5.cut m.toNat (n - m).toNat;have hP:P2=[]:=by have:=e1.symm; simp at this; exact this.2.1
      subst hP;have hle:m.toNat*t.size+(n - m).toNat*t.size<=List.length (l++m')*t.size:=by rw [<- Nat.add_mul,List.length_append]; exact Nat.mul_le_mul_right _ (by omega)
      rw [n9,m0 _ _ _ _ (by omega)] at g;refine .inr ⟨b1,o1+m.toNat*t.size,l.length+m'.length - m.toNat,[],?_,by rw [hlen]; omega,⟨by have:=c2.1; omega,by simp⟩,by rw [hlen]; omega,by rw [hlen]; exact g,rfl,rfl,c7⟩;rw [if_neg (by omega),Option.map_some,Addr.H2,hlen,show n.toNat - m.toNat=(n - m).toNat from by omega]
    ·trivial
   ·trivial
  ·rename_i hx
   split
   ·rename_i n q t bts hb hT
    rintro ⟨rfl,rfl⟩;have hv:a.eval x=.slice none 0 0:=by simpa using (show [a.eval x]=[Value.slice none 0 0] from C0 h hx)
    refine y6.value (val:=.slice none 0 0) ?_ h rfl;rw [he,hv];have:=Kb (w:=w) (A:=none) (len:=0) (cap:=0) (p7 hE hT) h1 (X7 h hb) (Int.le_refl _) (Int.le_refl _) (Int.le_refl _) (Nat.le_refl _);simp only [Option.map_none,Sem.run_bind,this,Result.andThen_ok,Sem.run_pure];simp
   ·trivial
  ·rename_i i p hx
   obtain ⟨e,u,y0,cs,k1,k2,k3,k4,k5⟩:=C0 h hx;have k5:a.eval x=o8 u cs:=by simpa using k5
   split
   ·rename_i t y cS
    have hg:=H4 k1 cS;rw [k3] at hg; cases hg;obtain ⟨O2,m1,m2,m3⟩:=F9 h.hs k1 k2 k3 k4;have mT:∃ A cap,cs=[.slice A (List.length y) cap]/\List.length y<=cap:=by
     rcases m3 with ⟨_,⟨A,c,rfl,_⟩,rfl⟩|⟨b1,o1,cap,O',rfl,c2,_⟩
     ·exact ⟨A,c,rfl,by simp⟩
     ·exact ⟨_,cap,rfl,c2⟩
    obtain ⟨A,cap,rfl,hc⟩:=mT;have k5:a.eval x=.slice A (List.length y) cap:=k5
    split
    ·rename_i n hb
     split
     ·rename_i bD
      rintro ⟨g1,g2,g3⟩;refine y6.value (val:=.slice (if cap=m.toNat then A else A.map (·.add (m.toNat*t.size))) (n.toNat - m.toNat) (cap - m.toNat)) ?_ h ⟨e,_,k1,k2,rfl,g1,g2,.inl ⟨t,y,A,cap,k3,g3,k4,_,_,by rw [show (n - m).toNat=n.toNat - m.toNat from by omega],λ bG=>by rw [if_neg (by omega)],by omega,by omega⟩⟩;rw [he,k5];simp only [Option.map_none,Sem.run_bind,Kb (C8 hE bD) h1 (X7 h hb) g1 g2 g3 hc,Result.andThen_ok,Sem.run_pure]
     ·trivial
    ·rename_i z hb
     split
     ·rename_i c bD dF
      simp only [Bool.and_eq_true] at bD
      split
      ·intro hp
       exact nil3 bD.1 bD.2 ⟨_,rfl⟩ dF hb k5 hp
      ·rename_i po
       rintro ⟨g1,g2,g3,g4⟩;exact any3 bD.1 bD.2 po ⟨_,rfl⟩ dF hb k5 hc ⟨g1,g2,g3,g4⟩
     ·trivial
    ·trivial
   ·trivial
  ·rename_i i p a0 b0 hx
   obtain ⟨e,v,k1,k2,k3,k4,k5,k6⟩:=C0 h hx;have k3:a.eval x=v:=by simpa using k3
   have core:∀ {t:Ty} {n:Int} {A0:Option Addr} {cap:Nat},I4 E T (.d0 true t)=true->Z4 s (b0 - a0) hi=some n->mx=none->0<=m->m<=n->a0+n<=(cap:Int)->Am t.size A0 cap a0 b0 v->∃ val,(execOp a.eval o).run E.P w=.ok (.value val) w/\Am t.size A0 cap (a0+m) (a0+n) val:=by
    rintro t n A0 cap bD hb rfl g1 g2 g3 ⟨c,A,e1,e2,e3,e4⟩;refine ⟨.slice (if c=m.toNat then A else A.map (·.add (m.toNat*t.size))) (n.toNat - m.toNat) (c - m.toNat),?_,_,_,by rw [show (a0+n - (a0+m)).toNat=n.toNat - m.toNat from by omega],?_,by omega,by omega⟩
    ·rw [he,k3,e1]
     have cU:Z4 s (((b0 - a0).toNat:Nat):Int) hi=some n:=by rw [Int.toNat_of_nonneg (by omega)]; exact hb
     simp only [Option.map_none,Sem.run_bind,Ko (A:=A) (cap:=c) (C8 hE bD) h1 (X7 h cU) g1 g2 (show n<=(c:Int) by omega),Result.andThen_ok,Sem.run_pure]
    ·intro bG
     rw [if_neg (by omega),e2 (by omega),Option.map_map,show (a0+m).toNat=a0.toNat+m.toNat from by omega];congr 1
     funext ad
     have lh:∀ x y:Nat,(ad.add x).add y=ad.add (x+y):=by
      intro x y;unfold Addr.add;by_cases hx:x=0<;>by_cases hy:y=0<;>simp [hx,hy,Nat.add_assoc]
     simp only [Function.comp,Nat.add_mul,lh]
   split
   ·rename_i t y dZ
    split
    ·rename_i n hb
     split
     ·rename_i bD
      rintro ⟨g1,g2,g3⟩;have hg:=H4 k1 dZ;rcases k6 with ⟨t',l,A,cap,q1,q2,q3,q4⟩|⟨n',t',l,b2,off2,q1,q2,q3,q4⟩
      ·rw [q1] at hg; cases hg
       obtain ⟨O2,m1,m2,m3⟩:=F9 h.hs k1 k2 q1 q3;have hc:List.length y<=cap:=by
        rcases m3 with ⟨_,⟨A,c,_,_⟩,rfl⟩|⟨b1,o1,gI,O',c1,c2,_⟩
        ·simp
        ·cases c1; exact c2
       obtain ⟨val,r1,r2⟩:=core bD hb rfl g1 g2 (by omega) q4;exact y6.value r1 h ⟨e,val,k1,k2,rfl,by omega,by omega,.inl ⟨_,_,A,cap,q1,by omega,q3,r2⟩⟩
      ·rw [q1] at hg; cases hg
     ·trivial
    ·trivial
   ·rename_i n0 t y dZ
    split
    ·rename_i n hb
     split
     ·rename_i bD
      rintro ⟨g1,g2,g3⟩;have hg:=H4 k1 dZ;rcases k6 with ⟨t',l,A,cap,q1,q2,q3,q4⟩|⟨n',t',l,b2,off2,q1,q2,q3,q4⟩
      ·rw [q1] at hg; cases hg
      ·rw [q1] at hg; cases hg
       obtain ⟨val,r1,r2⟩:=core bD hb rfl g1 g2 (by omega) q4;exact y6.value r1 h ⟨e,val,k1,k2,rfl,by omega,by omega,.inr ⟨_,_,_,b2,off2,q1,⟨by omega,q2.2⟩,q3,r2⟩⟩
     ·trivial
    ·trivial
   ·trivial
  ·rename_i i p hx
   obtain ⟨e,b,off,k1,k2,k3,k4⟩:=C0 h hx;have k4:a.eval x=.pointer (some ⟨b,off,none⟩):=by simpa using k4
   split
   ·rename_i N t y cS
    have hg:=H4 k1 cS
    split
    ·rename_i n hb
     split
     ·rename_i bD
      simp only [Bool.and_eq_true,Nat.ble_eq] at bD;rintro ⟨g1,g2,g3⟩;have fq:=Kn (P:=E.P) (w:=w) (isS:=false) h1 (X7 h hb) g1 g2 g3;refine y6.value (val:=.slice (some (if N=m.toNat then ⟨b,off,none⟩ else (⟨b,off,none⟩:Addr).add (m.toNat*t.size))) (n.toNat - m.toNat) (N - m.toNat)) ?_ h ⟨e,_,k1,k2,rfl,g1,g2,.inr ⟨N,t,y,b,off,hg,⟨g3,by have:=bD.2; unfold maxLen; omega⟩,k3,_,_,by rw [show (n - m).toNat=n.toNat - m.toNat from by omega],λ bG=>by rw [if_neg (by omega)]; rfl,by omega,by omega⟩⟩;rw [he,k4];have hc:=bD.1;unfold xS.Ll at hc;split at hc
      ·rename_i A hT
       obtain ⟨et,k',f1,f2,f3⟩:=xw (C8 hE hc);simp only [Option.map_none,Instr.sliceAt,Instr.slice,Sem.run_bind,u5 hT,u5 f1,asAddr,fq,Result.andThen_ok,Sem.run_pure,run_sizeOf f3]
      ·obtain ⟨et,k',f1,f2,f3⟩:=xw (C8 hE hc)
       simp only [Option.map_none,Instr.sliceAt,Sem.run_bind,u5 f1,Instr.sureAddr,fq,Result.andThen_ok,Sem.run_pure,run_sizeOf f3]
      ·cases hc
     ·trivial
    ·trivial
   ·trivial
  ·trivial
end
end Go.Ex
namespace Go.Ex
section
variable {E:Env} {B:D8} {S S':Nat->Prop} {ι:Ix} {s:St} {a:Act} {w:World} {hp:List (Nat×g8)} {H H':Array Go.Obj}
theorem i8.two {α:Type} {R:List Nat->List Value->α->Prop} {sz:Nat} (hR:∀ O cs x,R O cs x->cs.length=sz) (h0:∀ O cs x,R O cs x->O=[]) {l m:List α} {O:List Nat} {cs:List Value} (h:i8 R sz O cs (l++m)):i8 R sz [] (cs.take (l.length*sz)) l/\i8 R sz [] (cs.drop (l.length*sz)) m:=by
 induction l generalizing O cs with
 | nil =>
  have:=i8.M8 h0 h;subst this;exact ⟨⟨rfl,by simp⟩,by simpa using h⟩
 | cons x l ih =>
  obtain ⟨O1,O2,e,h1,h2⟩:=h;obtain ⟨k1,k2⟩:=ih h2;have e1:=h0 _ _ _ h1;subst e1;refine ⟨⟨[],[],rfl,?_,?_⟩,?_⟩
  ·rw [List.take_take,List.length_cons,Nat.succ_mul,Nat.min_eq_left (by omega)]; exact h1
  ·rw [List.length_cons,Nat.succ_mul,List.drop_take,show l.length*sz+sz - sz=l.length*sz by omega]; exact k1
  ·rw [List.length_cons,Nat.succ_mul,Nat.add_comm,<- List.drop_drop]; exact k2
theorem b8e (hE:C6 E B) (h:RS B S ι s a w) {o:Oper} {c:Call} (ho:o.op=.call c) (hc:c.callee=.builtin .append) {x y:Operand} {T U:TypeId} (ha:c.args.toList=[x,y]) (eW:c.argTypes.toList=[T,U])
  (hk:∃ e',E.P.underlying U=some (.slice e')):E6 E.P B o a w (CP E T (s.ev x) (s.ev y) o.dst s):=trivial
theorem Zo (hE:C6 E B) (h:RS B S ι s a w) {o:Oper} {c:Call} (ho:o.op=.call c) (hc:c.callee=.builtin .append) {x y:Operand} {T U:TypeId} (ha:c.args.toList=[x,y]) (eW:c.argTypes.toList=[T,U])
  (hk:∃ e',E.P.underlying U=some (.slice e')):E6 E.P B o a w (wU E T (s.ev x) (s.ev y) o.dst s):=by
 unfold wU
 split
 ·exact b8e hE h ho hc ha eW hk
 ·exact SL hE h ho hc ha eW (.inl hk)
end
end Go.Ex
namespace Go.Ex
section
variable {E:Env} {B:D8} {S S':Nat->Prop} {ι:Ix} {s:St} {a:Act} {w:World} {hp:List (Nat×g8)} {H H':Array Go.Obj}
theorem MX {q:Bool} {u:Ty} {O:List Nat} {cs:List Value} {z:List u.den} (hR:g9 H S (.d0 q u) O cs z):z.length<=maxLen:=by
 rcases hR with ⟨_,_,h2⟩|⟨b,off,cap,O',c1,c2,c3,_⟩
 ·rw [h2]; exact Nat.zero_le _
 ·have:=c3.1
  have c2:z.length<=cap:=c2;omega
theorem HZ (h:HS B S ι s.hp w) {v:AV} {val:Value} (hv:VX w.heap S ι s.hp v [val]) {t:Ty} {l:List t.den} (hw:v.els s=some ⟨t,l⟩):l.length<=maxLen:=by
 unfold AV.els at hw;split at hw
 ·cases hw
  obtain ⟨cs,_,hR⟩:=hv;exact MX hR
 ·rename_i i p
  split at hw
  ·rename_i q t' l' hp
   cases hw;obtain ⟨e,u,y,cs,h1,h2,h3,h4,h5⟩:=hv;have hg:=H4 h1 hp;rw [h3] at hg; cases hg;obtain ⟨O2,m1,m2,m3⟩:=F9 h h1 h2 h3 h4;exact MX m3
  ·cases hw
 ·obtain ⟨A,c,_,k⟩:=MY h hv hw
  rcases k with rfl|⟨b,off,O,_,_,_,_,_,k1,k2⟩
  ·exact Nat.zero_le _
  ·omega
 ·cases hw
theorem VD (c:UInt8):r7 .u8 (c.toNat:Int):=by
 simp only [r7,IntKind.min,IntKind.max,IntKind.signed,IntKind.bits]; have:=c.toNat_lt; simp; omega
theorem XK (y:yY):i8 (g9 H S (.int .u8)) 1 [] (byteCells ⟨y.toArray⟩) (List.map (λ b:UInt8=>(b.toNat:Int)) y:List Int):=by
 simp only [byteCells]
 induction y with
 | nil=>exact ⟨rfl,rfl⟩
 | cons c y ih=>exact ⟨[],[],rfl,⟨rfl,rfl,VD c⟩,by simpa [Ty.size] using ih⟩
theorem RM {k:IntKind}:∀ {l:List Int} {O:List Nat} {cs:List Value},i8 (g9 H S (.int k)) 1 O cs l->cs=l.map (Value.int k)
 | [],_,_,⟨_,h⟩=>h
 | n::l,O,cs,⟨O1,O2,_,h1,h2⟩=>by
  have e1:cs.take 1=[.int k n]:=h1.2.1;have e2:=RM h2;rw [<- List.take_append_drop 1 cs,e1,e2]; rfl
theorem Ph:∀ (l:List Int) (r:ByteArray),l.foldl (λ r n=>r.push (UInt8.ofNat n.toNat)) r=⟨r.data++(l.map λ n=>UInt8.ofNat n.toNat).toArray⟩
 | [],r=>by simp
 | n::l,r=>by
  rw [List.foldl_cons,Ph l];simp [ByteArray.push]
theorem b37 (hE:C6 E B) (h:RS B S ι s a w) {o:Oper} {T T':TypeId} {x:Operand} (ho:o.op=.convert T' T x):E6 E.P B o a w (l7 E o s):=by
 have he:execOp a.eval o=(do pure (.value (<- convert T' T (a.eval x)))):=by simp [execOp,ho]
 unfold l7;rw [ho];simp only
 split
 ·rename_i k n k0 by0 k' by_ hx lk hT
  obtain ⟨hv,_⟩:=VX.H5 (C0 h hx);have hu:=yi (p7 hE hT);have oC:=yi (p7 hE lk);refine H9 he h (val:=.int k' (k'.wrap n)) ?_ (VX.int (S8 _ _));rw [hv];simp [convert,u5 hu,u5 oC,Conv.intToInt]
 ·rename_i y b0 b1 hx lk hT
  split
  ·rename_i d hd
   refine E6.lay (λ v s' hl=>?_);obtain ⟨hv,hlen⟩:=VX.yH (C0 h hx);have oC:=W2 (p7 hE lk);obtain ⟨et,k',f1,f2,f3⟩:=F5 (p7 hE hT);have f4:=yi f3;have aP:=run_bytes_of_string (P:=E.P) w T' T et ⟨y.toArray⟩ oC f1 f4;have aX:(⟨y.toArray⟩:ByteArray).size=List.length y:=rfl;rw [aX] at aP;have jY:=grownCap_ge w (List.length y) 0 et;have fR:=grownCap_le_maxLen w (List.length y) 0 et hlen;generalize grownCap w (List.length y) 0 et=gc at aP jY fR;have cG:(bytesRow ⟨y.toArray⟩ gc)=(byteCells ⟨y.toArray⟩++List.replicate (gc - List.length y) (Value.int .u8 0)).toArray:=by
    apply Array.ext';simp [bytesRow,byteCells,aX]
   rw [cG] at aP;have bR:(byteCells ⟨y.toArray⟩).length=List.length y:=by rw [byteCells_length]; rfl
   have hY:(List.map (λ b:UInt8=>(b.toNat:Int)) y).length=List.length y:=List.length_map ..;have hp:E4 [] w (w.drew.alloc (.cells (byteCells ⟨y.toArray⟩++List.replicate (gc - List.length y) (Value.int .u8 0)).toArray et ((byteCells ⟨y.toArray⟩++List.replicate (gc - List.length y) (Value.int .u8 0)).toArray.size,(byteCells ⟨y.toArray⟩++List.replicate (gc - List.length y) (Value.int .u8 0)).toArray.size+1))) :=
    E4.trans E4.drew (E4.push _) (by simp)
   obtain ⟨O2,k1,k2,k3⟩:=DT (w:=w) (S:=S) (t:=.int .u8) (l:=(List.map (λ b:UInt8=>(b.toNat:Int)) y:List Int)) (cap:=gc) h.hs.slt (O:=[]) (cells:=byteCells ⟨y.toArray⟩++List.replicate (gc - List.length y) (Value.int .u8 0)) (by
    show i8 _ 1 [] (List.take ((List.map (λ b:UInt8=>(b.toNat:Int)) y).length*1) _) _;rw [hY,Nat.mul_one,List.take_left' bR];exact XK y) (by show (List.map (λ b:UInt8=>(b.toNat:Int)) y).length<=gc; rw [hY]; exact jY) fR (by simp only [List.length_append,List.length_replicate,bR,Ty.size]; omega) et (by simp)
    (w':=w.drew.alloc (.cells (byteCells ⟨y.toArray⟩++List.replicate (gc - List.length y) (Value.int .u8 0)).toArray et ((byteCells ⟨y.toArray⟩++List.replicate (gc - List.length y) (Value.int .u8 0)).toArray.size,(byteCells ⟨y.toArray⟩++List.replicate (gc - List.length y) (Value.int .u8 0)).toArray.size+1))) rfl (.inr ⟨rfl,by simp⟩)
   have ec:=h.w6 (g:=[]) rfl;refine y6.lay hl (val:=.slice (some ⟨w.heap.size,0,none⟩) (List.length y) gc) (by rw [he,hv]; simp only [Sem.run_bind,aP,Result.andThen_ok,Sem.run_pure]) (by rw [<- hY]; rfl) k1 (ec.uW E9.nil hp) (E9.new ec E9.nil hp (by show w.heap.size<(w.heap.push _).size; simp) k2 (k3 List.nodup_nil))
  ·trivial
 ·rename_i b0 b1 _ lk hT
  obtain ⟨et,k',f1,f2,f3⟩:=F5 (p7 hE lk);have f4:=yi f3;have f5:=W2 (p7 hE hT)
  split
  ·rename_i l fm
   obtain ⟨A,c,e,k⟩:=Dx h.hs (h.ev x) fm;have hlen:=HZ h.hs (h.ev x) fm;refine H9 he h (val:=.string ⟨(List.map (λ n:Int=>UInt8.ofNat n.toNat) l).toArray⟩) ?_ (VX.str (by rw [List.length_map]; exact hlen));rw [e];simp only [convert,Sem.run_bind,u5 f1,u5 f5,Result.andThen_ok,u5 f4];have cq:∀ a0:Addr,(loadCells a0 l.length).run E.P w=.ok (l.map (Value.int .u8)).toArray w->(Conv.bytesToString (.slice (some a0) l.length c)).run E.P w=.ok (.string ⟨(List.map (λ n:Int=>UInt8.ofNat n.toNat) l).toArray⟩) w:=by
    intro a0 hl;rw [run_bytesToString w a0 l.length c l hl,Ph];simp
   rcases k with rfl|⟨b,off,O',rfl,k1,k2,k3,k4⟩
   ·cases A with
    | none=>simp [Conv.bytesToString,Sem.run_pure]; rfl
    | some A=>exact cq A (run_firstCells_some w 1 0 A 0 c [] (by simp) (by simp))
   ·refine cq _ ?_
    have hc:=RM k3;have:=run_firstCells_some (P:=E.P) w 1 l.length ⟨b,off,none⟩ l.length c (l.map (Value.int .u8)) (by simp) (λ j u hu=>by
     rw [Addr.H2]; rw [<- hc] at hu; exact M0 hu)
    simpa [Builtin.firstCells] using this
  ·split
   ·rename_i hx
    have eh:[a.eval x]=[Value.slice none 0 0]:=C0 h hx;have eh:a.eval x=Value.slice none 0 0:=by simpa using eh
    refine H9 he h (val:=.string ⟨([]:yY).toArray⟩) ?_ (VX.str (by simp));rw [eh];simp [convert,Sem.run_bind,u5 f1,u5 f5,Result.andThen_ok,u5 f4,Conv.bytesToString,Sem.run_pure];rfl
   ·trivial
 ·trivial
end
end Go.Ex
