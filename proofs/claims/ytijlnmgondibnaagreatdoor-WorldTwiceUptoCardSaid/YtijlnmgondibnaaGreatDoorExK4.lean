import Derived.Test.YtijlnmgondibnaaGreatDoorExK3
import Derived.Laws.AppendOwn
import Derived.Laws.BytesString
import Derived.Laws.IdiomStrings
import Derived.Deep.AppendSrc
set_option linter.unusedVariables false
set_option linter.unusedSimpArgs false
set_option linter.unusedSectionVars false
namespace Go.Ex
section
variable {E:Env} {B:F3} {S S':Nat->Prop} {ι:Ix} {s:St} {a:Act} {w:World} {hp:List (Nat×i7)} {H H':Array Go.Obj}
def bxV (g:Option Nat) (i:Nat):AV:=match g with|none=>.ptr i []|some f=>.D3 f (.cons (.ptr i []) .nil)
theorem Ji (t:Ty) (x:t.den) (i:Nat):vH t x i=(.own t x,.at_ i [])\/∃ g u y,(⟨t,x⟩:Sigma Ty.den)=⟨.box true g u,some y⟩/\vH t x i=(.var u y,bxV g i):=by
 unfold vH
 split
 ·exact .inr ⟨none,_,_,rfl,rfl⟩
 ·exact .inr ⟨some _,_,_,rfl,rfl⟩
 ·exact .inl rfl
theorem YD {t:Ty} {x:t.den} {i k:Nat} (h:k≠i):(vH t x i).2.j5 k=false:=by
 rcases Ji t x i with e|⟨g,u,y,_,e⟩
 ·rw [e]; exact yn h
 ·rw [e]
  cases g with
  | none=>exact yn h
  | some f=>show (AV.j5 k (.ptr i []) || false)=false; rw [Bool.or_false]; exact yn h
theorem c0K {t:Ty} {x:t.den} {i:Nat} {O:List Nat} {cs:List Value} (hR:i6 H S t O cs x) (aN:O.Nodup):∃ ι1,(∀ j,j≠i->F8 ι ι1 j)/\OB H S ι1 i (vH t x i).1/\(∀ b∈l7 ι1 i (vH t x i).1,b∈O) /\
  VX H S ι1 (Ex.put i (vH t x i).1 hp) (vH t x i).2 [s5 t cs]:=by
 rcases Ji t x i with e|⟨g,u,y,e0,e⟩
 ·rw [e]
  exact ⟨ι.V4 i cs O,λ j hj=>FD hj _ _,⟨⟨O,by simp [Ix.V4],by simpa [Ix.V4] using hR⟩,by simpa [Ix.V4] using aN⟩,by intro b hb; simpa [l7,Ix.V4] using hb,Af hR.length⟩
 ·cases e0
  rw [e];rcases hR with ⟨h0,_⟩|⟨z,b,off,O',h0,rfl,h2,h3,rfl,h5⟩
  ·cases h0
  cases h0;have bj:b<H.size:=by obtain ⟨_,_,⟨_,e,_⟩,_⟩:=h5; exact (Array.getElem?_eq_some_iff.1 e).1
  refine ⟨ι.U7 i (b,off) O',λ j hj=>Lb hj _ _,⟨⟨O',by simp [Ix.U7],by simpa [Ix.U7] using h3⟩,by simpa [Ix.U7] using h5,by simpa [Ix.U7] using aN⟩,by intro c hc; simpa [l7,Ix.U7] using hc,?_⟩;have hp:VX H S (ι.U7 i (b,off) O') (Ex.put i (.var u y) hp) (.ptr i []) [.pointer (some ⟨b,off,none⟩)]:=by
   refine ⟨.var u y,b,off,by simp [o7],O6,?_,rfl⟩;simp only [Loc,Place,VR,VH,C3,Ix.U7,if_true,bj]
  cases g with
  | none=>exact hp
  | some f=>exact ⟨[.pointer (some ⟨b,off,none⟩)],rfl,_,_,rfl,hp,rfl⟩
theorem Lw:∀ {ts:List Ty} {x:DL ts} {d j:Nat} {ι:Ix} {hp:List (Nat×i7)} {l:AV} {cK:List (Nat×i7)} {O:List Nat} {us:List Value},Y6 ts x d j hp=some (l,cK)->HS B S ι hp w->M4 w.heap S ts O us x ->
  G5 B S ι hp w O->∃ ι',HS B S ι' cK w/\VX w.heap S ι' cK l us/\(∀ v vs,(∀ k,j<=k->k<j+ts.length->v.j5 (P7 d k)=false)->VX w.heap S ι hp v vs->VX w.heap S ι' cK v vs)
 | [],x,d,j,ι,hp,l,cK,O,us,hl,h,hR,_=>by
  simp only [Y6,Option.some.injEq,Prod.mk.injEq] at hl;obtain ⟨rfl,rfl⟩:=hl;exact ⟨ι,h,hR.2,λ v vs _ hv=>hv⟩
 | t::ts,x,d,j,ι,hp,l,cK,O,us,hl,h,⟨v1,us1,O1,O2,cs,e1,e2,e3,h1,h2⟩,hF=>by
  subst e2;have eB:=List.nodup_append.1 hF.1;simp only [Y6] at hl;split at hl
  ·rename_i hs
   split at hl
   ·rename_i l' fj eD
    cases hl;have cj:=h1.O7 hs;subst cj;obtain ⟨ι',k1,k2,k3⟩:=Lw eD h h2 (hF.sub eB.2.1 (λ b hb=>by simp [hb]));refine ⟨ι',k1,⟨v1,us1,e1,⟨cs,by rw [e3],h1⟩,k2⟩,λ v vs hm hv=>k3 v vs (λ k jK fk=>hm k (by omega) (by simp; omega)) hv⟩
   ·cases hl
  ·split at hl
   ·cases hl
   ·rename_i dq
    split at hl
    ·rename_i l' fj eD
     cases hl;have hd:look (P7 d j) hp=none:=dq;obtain ⟨ι1,hs,pH,dK,jQ⟩:=c0K (hp:=hp) (ι:=ι) (i:=P7 d j) h1 eB.1;have hH:HS B S ι1 (Ex.put (P7 d j) (vH t x.1 (P7 d j)).1 hp) w:=h.add hd hs pH (O:=O1) dK (hF.sub eB.1 (λ b hb=>by simp [hb]));have nX:G5 B S ι1 (Ex.put (P7 d j) (vH t x.1 (P7 d j)).1 hp) w O2:=by
      refine ⟨eB.2.1,λ b hb=>?_⟩;obtain ⟨q1,q2,q3,q4⟩:=hF.2 b (by simp [hb]);refine ⟨q1,q2,q3,λ i e hi=>?_⟩;rw [o7] at hi;by_cases ei:i=P7 d j
      ·subst ei; rw [if_pos rfl] at hi; cases hi
       exact λ eA=>eB.2.2 b (dK b eA) b hb rfl
      ·rw [if_neg ei] at hi
       rw [(hs i ei).l7];exact q4 i e hi
     obtain ⟨ι',k1,k2,k3⟩:=Lw eD hH h2 nX;rw [<- e3] at jQ;refine ⟨ι',k1,⟨v1,us1,e1,k3 _ _ (λ k jK fk=>?_) jQ,k2⟩,λ v vs hm hv=>?_⟩
     ·exact YD (by simp only [P7]; omega)
     ·exact k3 v vs (λ k jK fk=>hm k (by omega) (by simp; omega)) (VX.add hs (hm j (Nat.le_refl _) (by simp)) hv)
    ·cases hl
theorem FC {d:Nat}:∀ {n:Nat} {fr:List (Nat×AV)},xN d n fr=true->∀ k,k<n->we (P7 d k) fr=true
 | 0,_,_,k,hk=>by omega
 | n+1,fr,h,k,hk=>by
  simp only [xN,Bool.and_eq_true] at h;by_cases e:k=n
  ·subst e; exact h.1
  ·exact FC h.2 k (by omega)
theorem KG:∀ {ts:List Ty} {x:DL ts} {d j:Nat} {hp:List (Nat×i7)} {l:AV} {cK:List (Nat×i7)},Y6 ts x d j hp=some (l,cK)->l.lst=true
 | [],x,d,j,hp,l,cK,h=>by
  simp only [Y6,Option.some.injEq,Prod.mk.injEq] at h;rw [<- h.1]; rfl
 | t::ts,x,d,j,hp,l,cK,h=>by
  simp only [Y6] at h;split at h
  ·split at h
   ·rename_i l' fj eD
    cases h;show l'.lst=true;exact KG eD
   ·cases h
  ·split at h
   ·cases h
   ·split at h
    ·rename_i l' fj eD
     cases h;show l'.lst=true;exact KG eD
    ·cases h
theorem Yj {l:AV} {us:List Value} (hl:l.lst=true) (h:VX H S ι hp l us):VX H S ι hp l.one [wE us]:=by
 cases l<;>simp only [AV.lst] at hl<;>first|cases hl|skip
 ·have:us=[]:=h
  subst this;exact ⟨[],rfl,rfl⟩
 ·rename_i a b
  obtain ⟨v,us',rfl,ha,hb⟩:=h;cases b<;>simp only [AV.lst] at hl<;>first|cases hl|skip
  ·have:us'=[]:=hb
   subst this; exact ha
  ·obtain ⟨v2,us2,rfl,dK,fE⟩:=hb
   exact ⟨v::v2::us2,rfl,v,_,rfl,ha,v2,us2,rfl,dK,fE⟩
theorem VX.app {l m:AV}:∀ {us vs:List Value},l.lst=true->VX H S ι hp l us->VX H S ι hp m vs->VX H S ι hp (l.app m) (us++vs):=by
 induction l<;>intro us vs hl h hm<;>simp only [AV.lst] at hl<;>first|cases hl|skip
 ·have:us=[]:=h
  subst this; exact hm
 ·rename_i a b _ ihb
  obtain ⟨v,us',rfl,ha,hb⟩:=h;exact ⟨v,us'++vs,rfl,ha,ihb hl hb hm⟩
theorem No (s:St):∀ l:List Operand,(s.K5 l).lst=true
 | []=>rfl
 | _::l=>No s l
theorem Y5:∀ {ks:List PK} {vs:List Value} {y:DL (F6 ks)} {L:List Nat},F6 ks=[]->H3 H S ks vs y L->L=[]
 | [],_,_,_,_,h=>h.2
 | .rw t::ks,_,_,_,e,_=>by cases e
 | .mu t::ks,_,_,_,e,_=>by cases e
 | .v _::ks,_,_,_,e,⟨_,us,_,h⟩=>Y5 (ks:=ks) e h
 | .rd _::ks,_,_,_,e,⟨_,us,_,h⟩=>Y5 (ks:=ks) e h
 | .D3 _ _::ks,_,_,_,e,⟨_,us,_,h⟩=>Y5 (ks:=ks) e h
 | .W3::ks,_,_,_,e,⟨_,us,_,h⟩=>Y5 (ks:=ks) e h
 | .rcs _ _::ks,_,_,_,e,⟨_,us,_,h⟩=>Y5 (ks:=ks) e h
 | .el _::ks,_,_,_,e,⟨_,us,_,h⟩=>Y5 (ks:=ks) e h
 | .own _::ks,_,_,_,e,⟨_,us,_,h⟩=>Y5 (ks:=ks) e h
theorem Bj {k:PK} {v:AV} {x:k.den} {g m:List Nat} (h:v.R5 s k=some (x,g,m)) (hk:(match k with|.rw _|.mu _=>false|_=>true)=true):m=[]:=by
 cases k with
 | v t=>simp only [AV.R5] at h; split at h<;>cases h; rfl
 | rd t=>simp only [AV.R5] at h; split at h<;>cases h; rfl
 | D3 f ts =>
  cases v<;>simp only [AV.R5] at h<;>first|cases h|skip
  split at h
  ·split at h<;>cases h; rfl
  ·cases h
 | W3=>simp only [AV.R5] at h; split at h<;>cases h; rfl
 | rcs f n=>simp only [AV.R5] at h; cases h
 | el q=>simp only [AV.R5] at h; cases h
 | own t =>
  simp only [AV.R5] at h;split at h
  ·split at h<;>cases h; rfl
  ·split at h
   ·split at h<;>cases h; rfl
   ·cases h
 | rw t=>cases hk
 | mu t=>cases hk
def Uz (H':Array Go.Obj) (S':Nat->Prop) (ι:Ix) (i:Nat) (e':i7) (L:List Nat):Prop :=
 ∃ O',OB H' S' (ι.D8 i O') i e'/\L=l7 (ι.D8 i O') i e'
theorem An (h:HS B S ι s.hp w):∀ {ks:List PK} {v:AV} {x:DK ks} {vs:List Value} {g m:List Nat} {y:DL (F6 ks)} {s1 s2:St} {L:List Nat},AV.vk s ks v=some (x,g,m)->VX w.heap S ι s.hp v vs->wr ks y m s1=some s2->H3 H' S' ks vs y L->L.Nodup ->
  (m=[]/\s2=s1/\L=[])\/(∃ i e e',m=[i]/\look i s.hp=some e/\By e e'/\s2=(s1.Z9 i e.vu).y9 i e'/\Uz H' S' ι i e' L)
 | [],v,x,vs,g,m,y,s1,s2,L,hx,hv,hw,ho,aN=>by
  cases v<;>simp only [AV.vk] at hx<;>first|cases hx|skip
  simp only [wr,Option.some.injEq] at hw;exact .inl ⟨rfl,hw.symm,ho.2⟩
 | k::ks,v,x,vs,g,m,y,s1,s2,L,hx,hv,hw,ho,aN=>by
  cases v<;>simp only [AV.vk] at hx<;>first|cases hx|skip
  rename_i a b;split at hx
  ·rename_i x1 g1 m1 x2 g2 m2 h1 h2
   cases hx;obtain ⟨v,us,rfl,ha,hb⟩:=hv;cases k with
   | v t =>
    have:=Bj h1 rfl; subst this;obtain ⟨v',us',e,eY⟩:=ho;cases e;exact An h h2 hb hw eY aN
   | rd t =>
    have:=Bj h1 rfl; subst this;obtain ⟨v',us',e,eY⟩:=ho;cases e;exact An h h2 hb hw eY aN
   | D3 f ts =>
    have:=Bj h1 rfl; subst this;obtain ⟨v',us',e,eY⟩:=ho;cases e;exact An h h2 hb hw eY aN
   | W3 =>
    have:=Bj h1 rfl; subst this;obtain ⟨v',us',e,eY⟩:=ho;cases e;exact An h h2 hb hw eY aN
   | own t =>
    have:=Bj h1 rfl; subst this;obtain ⟨v',us',e,eY⟩:=ho;cases e;exact An h h2 hb hw eY aN
   | rcs f n=>simp only [AV.R5] at h1; cases h1
   | el q=>simp only [AV.R5] at h1; cases h1
   | rw t =>
    simp only [AV.R5] at h1;split at h1
    ·rename_i i
     split at h1
     ·rename_i u z aX
      split at h1
      ·rename_i hu; subst hu; cases h1
       obtain ⟨e,b0,off,q1,q2,q3,q4⟩:=ha;obtain rfl:=wN q1 aX;have hl:(ι.root i).1=b0/\(ι.root i).2=off:=by
        have:=(D4 q3).1;simp only [Place,C3,VR,Option.some.injEq,Prod.mk.injEq] at this;exact this
       obtain ⟨rfl,rfl⟩:=hl;obtain ⟨b1,off1,O,us',L',r1,r2,r3,r4,r5⟩:=ho;have q4:v=.pointer (some ⟨(ι.root i).1,(ι.root i).2,none⟩):=by simpa using q4
       rw [q4] at r1;simp only [List.cons.injEq,Value.pointer.injEq,Option.some.injEq,Addr.mk.injEq,and_true] at r1;obtain ⟨⟨rfl,rfl⟩,rfl⟩:=r1;cases m2 with
       | cons j m2=>simp [wr] at hw
       | nil =>
        simp only [List.append_nil,wr] at hw;split at hw
        ·rename_i kI
         cases hw;have:=Y5 kI r5;subst this;rw [List.append_nil] at r4;subst r4;exact .inr ⟨i,_,.var u y.1,rfl,q1,.inl ⟨u,z,y.1,rfl,rfl⟩,rfl,O,⟨⟨O,by simp [Ix.D8],r2⟩,r3,by simpa [Ix.D8] using aN⟩,by simp [l7,Ix.D8]⟩
        ·cases hw
      ·cases h1
     ·cases h1
    ·cases h1
   | mu t =>
    simp only [AV.R5] at h1;split at h1
    ·rename_i i
     split at h1
     ·rename_i u z aX
      split at h1
      ·rename_i hu; subst hu; cases h1
       obtain ⟨e,u',y',cs,q1,q2,q3,q4,q5⟩:=ha;obtain rfl:=wN q1 aX;have q3:j9 (.d8 true t) z []=some ⟨u',y'⟩:=q3;rw [C9] at q3; cases q3;obtain ⟨⟨O0,_,fK⟩,_⟩:=h.ob i _ q1;have cI:=W2 q4 fK.length;obtain ⟨cs1,O,us',L',r1,r1',r2,r4,r5⟩:=ho;have q5:v=s5 (.d8 true t) cs:=by simpa using q5
       rw [q5] at r1;have cM:cs.length=1:=by rw [cI]; exact fK.length
       have cZ:cs1=cs:=by
        match cs,cs1,cM,r1' with
        | [c],[c'],_,_ =>
         simp only [List.cons.injEq,s5,Ty.agg] at r1;have:=r1.1;simp at this;rw [this]
       subst cZ;cases m2 with
       | cons j m2=>simp [wr] at hw
       | nil =>
        simp only [List.append_nil,wr] at hw;split at hw
        ·rename_i kI
         cases hw;have:=Y5 kI r5;subst this;rw [List.append_nil] at r4;subst r4;exact .inr ⟨i,_,.own (.d8 true t) y.1,rfl,q1,.inr (.inl ⟨t,z,y.1,rfl,rfl⟩),rfl,L,⟨⟨L,by simp [Ix.D8],by rw [show (ι.D8 i L).cells i=cs1 from cI.symm]; exact r2⟩,by simpa [Ix.D8] using aN⟩,by simp [l7,Ix.D8]⟩
        ·cases hw
      ·cases h1
     ·cases h1
    ·cases h1
  ·cases hx
end
end Go.Ex
namespace Go.Ex
section
variable {E:Env} {B:F3} {S S':Nat->Prop} {ι:Ix} {s:St} {a:Act} {w:World} {hp:List (Nat×i7)} {H H':Array Go.Obj}
theorem RS.share (h:RS B S ι s a w) (hS:∀ b,S b->S' b) (iZ:∀ b,S' b->S b\/((B.w0.heap.size<=b\/B.M b)/\b<w.heap.size/\∀ i e,look i s.hp=some e->b∉l7 ι i e)):RS B S' ι s a w:=by
 refine ⟨⟨h.hs.os,h.hs.tape,h.hs.out,h.hs.size,h.hs.frame,?_,λ b hb=>hS b (h.hs.s0 b hb),?_,?_,?_,h.hs.dj,h.hs.pin⟩,h.dfr,h.sz,λ t v hv=>?_⟩
 ·intro b hb; rcases iZ b hb with h1|h1; exact h.hs.slt b h1; exact h1.2.1
 ·intro b hb; rcases iZ b hb with h1|h1; exact h.hs.s1 b h1; exact .inr h1.1
 ·intro i e hi; exact (h.hs.ob i e hi).w6 (λ _ _=>rfl) hS
 ·intro i e hi b hb
  obtain ⟨q1,q2,q3⟩:=h.hs.bl i e hi b hb;exact ⟨λ hs=>by rcases iZ b hs with h1|h1; exact q1 h1; exact h1.2.2 i e hi hb,q2,q3⟩
 ·exact VX.grow (λ _ _=>rfl) hS h.hs.slt h.hs.ob (h.fr t v hv)
theorem KT (hE:D9 E B) (h:RS B S ι s a w) {o:Oper} {c:Call} (ho:o.op=.call c) {f:Operand} (hf:c.callee=.value f) {g:FuncId} {caps:AV} {us:List Value} (he:a.eval f=.func (.func g) #[] us.toArray) (cT:VX w.heap S ι s.hp caps us) :
  G1 E.P B o a w (T6 E g ((s.K5 c.args.toList).app caps) o.dst s):=by
 have aH:=VX.app (No s _) (h.K5 c.args.toList) cT;generalize rG:(s.K5 c.args.toList).app caps=av at *
 unfold T6
 split
 ·trivial
 ·rename_i ct oF
  have hV:=hE.E4 g ct oF
  split
  ·trivial
  ·rename_i x gs ms hx
   split
   ·trivial
   ·rename_i bD
    split
    ·trivial
    ·rename_i s2 oV
     split
     ·trivial
     ·rename_i gz
      split
      ·rename_i l cK hl
       intro bg next Q hn
       simp only [Bool.and_eq_true,Bool.or_eq_true] at bD;obtain ⟨⟨⟨⟨jK,fk⟩,sZ⟩,sY⟩,_⟩:=bD;obtain ⟨fn,jN,fX,ib⟩:=hV.ent;have mZ:=CT jK
       let S1:Nat->Prop:=λ b=>S b\/N4 ι s.hp (T6.loose ct.ps av) b
       obtain ⟨L,hK,fM,eh,oN⟩:=IY (S1:=S1) h.hs (λ b hb=>.inl hb) hx aH mZ (λ b hb=>.inr hb);have gD:∀ b,S1 b->b<w.heap.size:=by
        rintro b (hb|⟨i,e,h1,h2,h3⟩)
        ·exact h.hs.slt b hb
        ·exact (h.hs.bl i e h2 b h3).2.2
       have oO:∀ b∈L,¬ S1 b/\b<w.heap.size:=by
        intro b hb;obtain ⟨i,e,h1,h2,h3⟩:=eh b hb;obtain ⟨q1,q2,q3⟩:=h.hs.bl i e h2 b h3;refine ⟨?_,q3⟩;rintro (hs|⟨j,ej,r1,r2,r3⟩)
        ·exact q1 hs
        ·have bS:i≠j:=by rintro rfl; exact RJ fk i h1 r1
         exact h.hs.dj i j e ej h2 r2 bS b h3 r3
       have iX:Calls E.P g (c.args.toList.map a.eval++us).toArray w (λ e w'=>∃ rs O Lo S',e=.returned (wE rs)/\F9 L w w'/\(∀ b,S1 b->S' b)/\(∀ b,S' b->S1 b\/((w.heap.size<=b\/b∈L)/\b<w'.heap.size)) /\
         M4 w'.heap S' ct.rs O rs (ct.fn x)/\H3 w'.heap S' ct.ps (c.args.toList.map a.eval++us) (ct.out x) Lo/\(O++Lo).Nodup/\(∀ b∈O++Lo,¬ S' b/\(w.heap.size<=b\/b∈L)/\b<w'.heap.size) /\
         (ct.new=true->M4 w'.heap (λ b=>S' b/\w.heap.size<=b) ct.rs O rs (ct.fn x))):=by
        cases sE:ct.new with
        | true=>exact (hV.fresh sE w S1 _ x L gD ((hE.gb.at_ h.hs).sub (λ b hb=>.inl hb)) bg hK (CG (Ck hx)) fM oO).mono (λ e w' ⟨rs,O,Lo,S',a1,a2,a3,a4,a5,a6,a7,a8,a9⟩=>⟨rs,O,Lo,S',a1,a2,a3,a4,a5,a6,a7,a8,λ _=>a9⟩)
        | false=>exact (hV.run w S1 _ x L gD ((hE.gb.at_ h.hs).sub (λ b hb=>.inl hb)) bg hK (CG (Ck hx)) fM oO).mono (λ e w' ⟨rs,O,Lo,S',a1,a2,a3,a4,a5,a6,a7,a8⟩=>⟨rs,O,Lo,S',a1,a2,a3,a4,a5,a6,a7,a8,λ h=>by cases h⟩)
       unfold Oper.wp;have aU:(execOp a.eval o).run E.P w=.ok (.enter g (c.args.toList.map a.eval++us).toArray) w:=by
        have cL:fn.body.isNone=false:=ib;have hq:(fn.name == "runtime.NumGoroutine")=false:=fX
        simp only [execOp,ho,resolve,hf,he,Deferred.ofValue,Sem.run_bind,Sem.run_pure,Result.andThen,invoke,callFunc,program];simp [Sem.run,jN,hq,cL]
       rw [aU];refine Calls.mono iX ?_;rintro e w' ⟨rs,O,Lo,S',e1,bp,iG,jz,eN,eO,aN,hO,dO⟩;subst e1;have bc:=bp.size;have hd:=h.B0 (g:=gs) (by simpa using sZ);have qe:∀ i∈gs,i∉ms:=λ i hi hm=>(List.nodup_append.1 mZ).2.2 i hi i hm rfl;have main:∀ S2:Nat->Prop,(∀ b,S b->S2 b)->(∀ b,S2 b->S b\/((w.heap.size<=b\/b∈L)/\b<w'.heap.size))->(∀ b∈O++Lo,¬ S2 b)->M4 w'.heap S2 ct.rs O rs (ct.fn x)->H3 w'.heap S2 ct.ps (c.args.toList.map a.eval++us) (ct.out x) Lo->next (a.put o.dst (wE rs)) w':=by
        intro S2 rK nT oL mF mQ;have rP:∀ {L':List Nat},L'.Nodup->(∀ b∈L',b∈L)->(∀ b∈L',∀ i e,i∈ms->look i s.hp=some e->b∉l7 ι i e)->G5 B S ι (St.B0 gs s).hp w L':=by
         intro L' eC bU kX;refine G5.B0 h.hs eC (λ b hb=>?_);obtain ⟨i,e,q1,q2,q3⟩:=eh b (bU b hb);rcases List.mem_append.1 q1 with q1|q1
         ·exact ⟨i,e,q1,q2,q3⟩
         ·exact absurd q3 (kX b hb i e q1 q2)
        have fin:∀ {ι2:Ix},RS B S2 ι2 s2 a w'->G5 B S2 ι2 s2.hp w' O->next (a.put o.dst (wE rs)) w':=by
         intro ι2 fF nX;obtain ⟨ι',k1,k2,k3⟩:=Lw hl fF.hs mF nX;refine hn S2 ι' w' (wE rs) ⟨k1,fF.dfr,fF.sz,λ t v hv=>?_⟩ (Yj (KG hl) k2);exact k3 v _ (λ k jK fk=>CS (FC gz k (by omega)) hv) (fF.fr t v hv)
        have nV:∀ b∈O,¬ S2 b/\(B.w0.heap.size<=b\/B.M b)/\b<w'.heap.size:=by
         intro b hb;obtain ⟨q1,q2,q3⟩:=hO b (List.mem_append_left _ hb);refine ⟨oL b (List.mem_append_left _ hb),?_,q3⟩;rcases q2 with q2|q2
         ·exact .inl (Nat.le_trans h.hs.size q2)
         ·obtain ⟨i,e,_,r2,r3⟩:=eh b q2
          exact (h.hs.bl i e r2 b r3).2.1
        have rL:∀ b∈O,∀ j ej,j∉gs->j∉ms->look j s.hp=some ej->b∉l7 ι j ej:=by
         intro b hb j ej pZ jh du jl;obtain ⟨q1,q2,q3⟩:=hO b (List.mem_append_left _ hb);rcases q2 with q2|q2
         ·have:=(h.hs.bl j ej du b jl).2.2; omega
         ·obtain ⟨i,e,r1,r2,r3⟩:=eh b q2
          have bS:i≠j:=by rintro rfl; rcases List.mem_append.1 r1 with r1|r1; exact pZ r1; exact jh r1
          exact h.hs.dj i j e ej r2 du bS b r3 jl
        rcases An h.hs hx aH oV mQ (List.nodup_append.1 aN).2.1 with ⟨rfl,rfl,rfl⟩|⟨i,e,e',rfl,hi,eU,rfl,O',aX,mj⟩
        ·
         have hF:=rP fM (λ b hb=>hb) (by simp);have jT:=hd.Z5 hF bp;have fF:RS B S2 ι (St.B0 gs s) a w':=jT.share rK (λ b hb=>by
          rcases nT b hb with h1|h1
          ·exact .inl h1
          ·rcases h1.1 with h2|h2
           ·refine .inr ⟨.inl (Nat.le_trans h.hs.size h2),h1.2,λ j ej hj jl=>?_⟩
            have:=(hd.hs.bl j ej hj b jl).2.2; omega
           ·exact .inr ⟨(hF.2 b h2).2.1,h1.2,(hF.2 b h2).2.2.2⟩)
         refine fin fF ⟨(List.nodup_append.1 aN).1,λ b hb=>?_⟩;obtain ⟨q1,q2,q3⟩:=nV b hb;refine ⟨q1,q2,q3,λ j ej hj=>?_⟩;rw [K0] at hj;split at hj
         ·cases hj
         ·rename_i gi; exact rL b hb j ej gi (by simp) hj
        ·
         have tf:i∉gs:=λ cY=>qe i cY (by simp);have cY:look i (St.B0 gs s).hp=some e:=by rw [K0,if_neg tf]; exact hi
         have hF:=rP (L':=L.filter (λ b=>!(l7 ι i e).contains b)) (fM.filter _) (λ b hb=>(List.mem_filter.1 hb).1) (λ b hb j ej hj du=>by
          simp only [List.mem_cons,List.not_mem_nil,or_false] at hj;subst hj;rw [hi] at du; cases du;have:=(List.mem_filter.1 hb).2;simpa using this)
         have fF:=hd.renew cY eU hF bp (λ b hb=>by
          by_cases kz:b∈l7 ι i e
          ·exact .inl kz
          ·exact .inr (List.mem_filter.2 ⟨hb,by simpa using kz⟩)) rK nT aX (λ c hc=>by
           rw [<- mj] at hc;obtain ⟨q1,q2,q3⟩:=hO c (List.mem_append_right _ hc);exact ⟨oL c (List.mem_append_right _ hc),q2,q3⟩)
         refine fin fF ⟨(List.nodup_append.1 aN).1,λ b hb=>?_⟩;obtain ⟨q1,q2,q3⟩:=nV b hb;refine ⟨q1,q2,q3,λ j ej hj=>?_⟩;simp only [St.y9,o7] at hj;by_cases dN:j=i
         ·subst dN
          rw [if_pos rfl] at hj; cases hj;rw [<- mj];exact λ bR=>(List.nodup_append.1 aN).2.2 b hb b bR rfl
         ·rw [if_neg dN] at hj
          have hj:look j (St.B0 gs s).hp=some ej:=hj;rw [(X7 dN O').l7];rw [K0] at hj;split at hj
          ·cases hj
          ·rename_i gi; exact rL b hb j ej gi (by simpa using dN) hj
       rcases sY with ⟨gZ|gZ,mW⟩|hle
       rotate_left
       ·refine main (λ b=>S b\/(S' b/\w.heap.size<=b)) (λ _ h=>.inl h) (λ b hb=>?_) (λ b hb hs=>?_) ?_ (eO.K2 mW)
        ·rcases hb with hb|⟨hb,fE⟩
         ·exact .inl hb
         ·rcases jz b hb with h1|h1
          ·have:=gD b h1; omega
          ·exact .inr ⟨.inl fE,h1.2⟩
        ·rcases hs with hs|hs
         ·exact (hO b hb).1 (iG b (.inl hs))
         ·exact (hO b hb).1 hs.1
        ·exact (dO gZ).mono (λ b hb=>.inr hb)
       rotate_left
       ·exact main S (λ _ h=>h) (λ b hb=>.inl hb) (λ b hb hs=>(hO b hb).1 (iG b (.inl hs))) (eN.K2 gZ) (eO.K2 mW)
       ·have jf:T6.loose ct.ps av=[]:=by
         revert hle;cases T6.loose ct.ps av with
         | nil=>intro _; rfl
         | cons x y=>intro h; cases h
        refine main S' (λ b hb=>iG b (.inl hb)) (λ b hb=>?_) (λ b hb=>(hO b hb).1) eN eO;rcases jz b hb with (h1|⟨i,e,h1,_⟩)|h1
        ·exact .inl h1
        ·rw [jf] at h1; cases h1
        ·exact .inr h1
      ·trivial
theorem G1.xW {P:Program} {o:Oper} {r:OR} {p:Prop} (h:p->G1 P B o a w r):G1 P B o a w (r.xW p):=by
 cases r with
 | fail y=>trivial
 | ok v s'=>exact λ hp=>h hp.1
 | G6 q v s'=>exact λ hp=>h hp.1 hp.2
theorem HH (h:RS B S ι s a w) {x:Operand} {g:Nat} {b:Bool} (hx:s.ev x=.val (.fn g) b):a.eval x=fnV g b:=by
 obtain ⟨cs,e,_,rfl⟩:=D0 h hx;simpa [s5,Ty.agg] using e
end
end Go.Ex
namespace Go.Ex
section
variable {E:Env} {B:F3} {S S':Nat->Prop} {ι ι':Ix} {s:St} {a:Act} {w w':World} {hp:List (Nat×i7)} {H H':Array Go.Obj}
end
end Go.Ex
namespace Go.Ex
section
variable {E:Env} {B:F3} {S S':Nat->Prop} {ι:Ix} {s:St} {a:Act} {w:World} {hp:List (Nat×i7)} {H H':Array Go.Obj}
theorem b8b (hE:D9 E B) (h:RS B S ι s a w) {o:Oper} {T:TypeId} {x y:Operand} (ho:o.op=.index T x y):G1 E.P B o a w (n6 E o s):=by
 have he:execOp a.eval o=(do pure (.value (<- Instr.index T (a.eval x) (a.eval y)))):=by simp [execOp,ho]
 unfold n6;rw [ho];simp only
 split
 ·rename_i l k n hx hy
  split
  ·rename_i hc
   intro hn;obtain ⟨gw,_⟩:=VX.zp (D0 h hx);obtain ⟨dL,_⟩:=VX.I6 (D0 h hy);have hu:=Y2 (E1 hE hc);exact J3 he h (val:=.int .u8 ((List.getD l (Int.toNat n) 0).toNat:Int)) (by rw [gw,dL]; exact b4H hu hn) (VX.int (by generalize List.getD l (Int.toNat n) 0=c; have:=c.toNat_lt; unfold u7; simp [IntKind.min,IntKind.max,IntKind.signed,IntKind.bits]; omega))
  ·trivial
 ·rename_i m t z k n hx hy
  split
  ·rename_i hc
   intro hn;obtain ⟨cs,e,hR⟩:=D0 h hx;have e:a.eval x=s5 (.arr m t) cs:=by simpa using e
   obtain ⟨dL,_⟩:=VX.I6 (D0 h hy);obtain ⟨et,k',h1,h2,h3⟩:=xT (E1 hE hc);obtain ⟨b1',b2,b3,b4⟩:=E7 (sz:=t.size) hn;obtain ⟨P1,P2,P3,e1,g1,g2,g3⟩:=j6.split (d:=t.s8) (i:=Int.toNat n) (by rw [hR.1]; exact b1') hR.2;have hP:P2=[]:=(List.append_eq_nil_iff.1 (List.append_eq_nil_iff.1 e1.symm).2).1;rw [hP] at g2;refine J3 he h (val:=s5 t ((cs.drop (Int.toNat n*t.size)).take t.size)) ?_ ⟨_,rfl,g2⟩;have hp:=yC (w:=w) h3 g2;rw [e,dL,s5];have eC:0<=(n:Int)/\(n:Int)<m:=hn;simp [Instr.index,asIntOf,w8 h1,Ty.agg,eC,run_sizeOf h3,hp]
  ·trivial
 ·rename_i i p k n hx hy
  split
  ·rename_i m t z cV
   split
   ·rename_i hc
    obtain ⟨e,u',y',cs,q1,q2,q3,q4,q5⟩:=D0 h hx;have cC:=I5 q1 cV;rw [q3] at cC; cases cC;have q5:a.eval x=s5 (.arr m t) cs:=by simpa using q5
    obtain ⟨dL,_⟩:=VX.I6 (D0 h hy);obtain ⟨O2,m1,m2,hR⟩:=H4 h.hs q1 q2 q3 q4;obtain ⟨et,k',h1,h2,h3⟩:=xT (E1 hE hc);have core:(0<=(n:Int)/\(n:Int)<m)->∃ P2,(∀ c∈P2,c∈O2)/\i6 w.heap S t P2 ((cs.drop (Int.toNat n*t.size)).take t.size) (List.getD z (Int.toNat n) t.s8)/\(Instr.index T (a.eval x) (a.eval y)).run E.P w=.ok (s5 t ((cs.drop (Int.toNat n*t.size)).take t.size)) w:=by
     intro hn;obtain ⟨b1',b2,b3,b4⟩:=E7 (sz:=t.size) hn;obtain ⟨P1,P2,P3,e1,g1,g2,g3⟩:=j6.split (d:=t.s8) (i:=Int.toNat n) (by rw [hR.1]; exact b1') hR.2;refine ⟨P2,λ c hc=>by rw [e1]; simp [hc],g2,?_⟩;have hp:=yC (w:=w) h3 g2;rw [q5,dL,s5];have eC:0<=(n:Int)/\(n:Int)<m:=hn;simp [Instr.index,asIntOf,w8 h1,Ty.agg,eC,run_sizeOf h3,hp]
    split
    ·rename_i hs
     intro hn;obtain ⟨P2,k1,k2,k3⟩:=core hn;have:=k2.O7 hs;subst this;exact J3 he h k3 ⟨_,rfl,k2⟩
    ·intro hn
     obtain ⟨P2,k1,k2,k3⟩:=core hn;refine J3 he h k3 ⟨e,t,List.getD z (Int.toNat n) t.s8,_,q1,X8 q3 q2 ⟨hn,O6⟩,SS q3 C9,?_,rfl⟩;obtain ⟨b0,off0,g1,rfl⟩:=q4;obtain ⟨b1',b2,b3,b4⟩:=E7 (sz:=t.size) hn;refine ⟨b0,off0+Int.toNat n*t.size,AN q3 g1 (by simp only [C2,C3]),?_⟩;rw [o6,n8 _ _ _ _ (by simp only [Ty.size]; omega)]
   ·trivial
  ·trivial
 ·trivial
where
 b4H {P:Program} {w:World} {T:TypeId} {l:yY} {k:IntKind} {n:Int} (hu:P.underlying T=some .string) (hn:0<=n/\n<(l.length:Int)) :
   (Instr.index T (.string ⟨l.toArray⟩) (.int k n)).run P w=.ok (.int .u8 ((l.getD n.toNat 0).toNat:Int)) w:=by
  have h1:n.toNat<l.length:=by omega
  have h2:(ByteArray.mk l.toArray)[n.toNat]?=some (l.getD n.toNat 0):=by
   have:n.toNat<(ByteArray.mk l.toArray).size:=by simpa [ByteArray.size] using h1
   rw [getElem?_pos (ByteArray.mk l.toArray) n.toNat this];simp [ByteArray.getElem_eq_getElem_data,h1]
  simp [Instr.index,asIntOf,w8 hu,hn.1,h2]
theorem KD {P:Program} (h:RS B S ι s a w) {k:IntKind} {f:Int->Int->Int} {m2:Value->Value->Sem Value} (hf:∀ x y,u7 k x->u7 k y->u7 k (f x y)) (hm:∀ x y,(m2 (.int k x) (.int k y)).run P w=.ok (.int k (f x y)) w) :
  ∀ {l:List Operand} {x:Int} {v:AV} {s':St},u7 k x->foldI s k f x l=.ok v s'->∃ n,v=.val (.int k) n/\s'=s/\u7 k n/\((l.map a.eval).foldlM m2 (.int k x)).run P w=.ok (.int k n) w
 | [],x,v,s',hx,gB=>by
  simp only [foldI,OR.ok.injEq] at gB;obtain ⟨rfl,rfl⟩:=gB;exact ⟨x,rfl,rfl,hx,rfl⟩
 | y::l,x,v,s',hx,gB=>by
  simp only [foldI] at gB;split at gB
  ·rename_i k' b hy
   split at gB
   ·rename_i hk
    subst hk;obtain ⟨dL,hb⟩:=VX.I6 (D0 h hy);obtain ⟨n,k1,k2,k3,k4⟩:=KD h hf hm (hf x b hx hb) gB;refine ⟨n,k1,k2,k3,?_⟩;simp only [List.map_cons,List.foldlM_cons,Sem.run_bind,dL,hm,Result.andThen];exact k4
   ·cases gB
  ·cases gB
theorem a70 {k:IntKind} {f:Int->Int->Int}:∀ {l:List Operand} {x:Int} {p:Prop} {v:AV} {s':St},foldI s k f x l≠.G6 p v s'
 | [],x,p,v,s',h=>by cases h
 | y::l,x,p,v,s',h=>by
  simp only [foldI] at h;split at h
  ·split at h
   ·exact a70 h
   ·cases h
  ·cases h
theorem Ns {P:Program} {T ty:TypeId} {k:Nat} {u:Ty} (hT:p9 P k T u=true) {v:Value} {n:Nat}
  (h:(∃ q t b off cap,u=.d8 q t/\v=.slice b n cap/\off=0)\/(∃ l:yY,u=.str/\v=.string ⟨l.toArray⟩/\n=l.length)\/(∃ t,u=.arr n t)) :
  (Builtin.len_ #[T] ty #[v]).run P w=.ok (.int .i64 n) w:=by
 rcases h with ⟨q,t,b,off,cap,rfl,rfl,_⟩|⟨l,rfl,rfl,rfl⟩|⟨t,rfl⟩
 ·obtain ⟨e,k',h1,_⟩:=H2 hT
  simp [Builtin.len_,w8 h1,goInt]
 ·have h1:=Y2 hT
  have e:(ByteArray.mk l.toArray).size=l.length:=rfl;simp [Builtin.len_,w8 h1,goInt,e]
 ·obtain ⟨e,k',h1,_⟩:=xT hT
  simp [Builtin.len_,w8 h1,goInt]
theorem zu (hE:D9 E B) (h:RS B S ι s a w) {o:Oper} {c:Call} (ho:o.op=.call c) (hc:c.callee=.builtin .len) {x:Operand} {T:TypeId} (ha:c.args.toList=[x]) (hT:c.argTypes.toList=[T]) {u:Ty} (hk:J8 E T u=true) {n:Nat}
  (hv:(∃ q t b off cap,u=.d8 q t/\a.eval x=.slice b n cap/\off=0)\/(∃ l:yY,u=.str/\a.eval x=.string ⟨l.toArray⟩/\n=l.length)\/(∃ t,u=.arr n t)) (hn:(n:Int)<=9223372036854775807) :
  C4 E.P B o a w (.val (.int .i64) (n:Int)) s:=by
 have aH:c.args=#[x]:=by rw [<- ha]
 have eF:c.argTypes=#[T]:=by rw [<- hT]
 refine C4.value (val:=.int .i64 n) ?_ h (VX.int (by unfold u7; simp [IntKind.min,IntKind.max,IntKind.signed,IntKind.bits]; omega));have:=Ns (w:=w) (ty:=o.type) (E1 hE hk) hv;simp [execOp,ho,resolve,hc,invoke,builtin,aH,eF,this]
theorem BM {q:Bool} {u:Ty} {O:List Nat} {cs:List Value} {z:(Ty.d8 q u).den} (hR:i6 H S (.d8 q u) O cs z):∃ b cap,s5 (.d8 q u) cs=.slice b (List.length z) cap/\((List.length z:Nat):Int)<=9223372036854775807:=by
 rcases hR with ⟨_,⟨a,c,h1,_⟩,h2⟩|⟨b,off,cap,O',c1,c2,c3,_⟩
 ·subst h2; subst h1; exact ⟨a,c,rfl,by simp⟩
 ·rw [c1]; exact ⟨_,cap,rfl,by have:=c3.1; unfold maxLen at this; omega⟩
theorem Nw {u:Ty} {O:List Nat} {cs:List Value} {z:(Ty.C6 u).den} (hR:i6 H S (.C6 u) O cs z):∃ b cap,s5 (.C6 u) cs=.slice b (List.length z.2.1) cap/\((List.length z.2.1:Nat):Int)<=9223372036854775807:=by
 obtain ⟨n,l,m⟩:=z
 match n,hR with
 | 0,hR=>exact BM (q:=false) hR
 | 1,hR=>exact BM (q:=true) hR
 | n+2,⟨b,off,O',c1,c2,_⟩ =>
  subst c1;exact ⟨_,_,rfl,by have:=c2.1; unfold maxLen at this; show ((List.length l:Nat):Int)<=_; omega⟩
theorem Ri (off:Nat):∀ (vs:List Value) (k:Nat) (cells:Array Value),off+k+vs.length<=cells.size ->
  ((vs.zipIdx k).foldl (λ cs (q:Value×Nat)=>cs.setIfInBounds (off+q.2) q.1) cells)=(over cells.toList (off+k) vs).toArray
 | [],k,cells,_=>by simp [over]
 | v::vs,k,cells,h=>by
  simp only [List.length_cons] at h;simp only [List.zipIdx_cons,List.foldl_cons];rw [Ri off vs (k+1) _ (by simp; omega)];congr 1;have e:=list_seg_step cells.toList (off+k) v vs (by simp; omega);simpa [over,Array.toList_setIfInBounds,Nat.add_assoc] using e
theorem Yt {place:Nat->Option (Nat×Nat)} {cells:List Value} {i off size:Nat} {v:Value} {vs:List Value} {rest:List (Nat×Value)} (hp:place i=some (off,size)) (hv:v.cells=vs.toArray) (hl:vs.length=size) (hb:off+size<=cells.length) :
  Instr.fill place cells.toArray ((i,v)::rest)=Instr.fill place (over cells off vs).toArray rest:=by
 have hz:=Ri off vs 0 cells.toArray (by simp; omega);simp only [Instr.fill,hp,hv];have h1:¬ ((vs.toArray.size≠size)\/(off+vs.toArray.size > cells.toArray.size)):=by simp [hl]; omega
 simp only [Bool.or_eq_true,decide_eq_true_eq];rw [if_neg (by simpa using h1)];congr 1;simp only [Nat.add_zero] at hz;rw [<- hz,<- Array.foldl_toList];simp
theorem Yi {t:Ty} {x:t.den} {O:List Nat} {cs:List Value} (hR:i6 H S t O cs x) (hS:∀ b,S b->b<H.size) (hO:∀ b∈O,¬ S b) (aN:O.Nodup) {p:List Step} (aK:B8 t x p) {u0:Ty} {y0:u0.den} (hg:j9 t x p=some ⟨u0,y0⟩) {off:Nat}
  (hn:∀ (G:Array Go.Obj) (b o:Nat),C2 G t p b o=some (b,o+off)) {u:Ty} {z:u.den} {O2:List Nat} {cs':List Value} (hz:i6 H S u O2 cs' z) (de:O2.Nodup) (nH:∀ b∈O2,b∉O) {r:Sigma Ty.den} (aL:w5 t x p u z=some r) :
  ∃ O',i6 H S r.1 O' (over cs off cs') r.2/\O'.Nodup/\(∀ b∈O',b∈O\/b∈O2)/\r.1.sh=t.sh/\off+u0.size<=cs.length/\u.size=u0.size:=by
 have oX:=Cu hg aL;have jt:=G7 oX
 let G:Array Go.Obj:=H.push (.cells cs.toArray 0)
 let G':Array Go.Obj:=H.push (.cells (over cs off cs').toArray 0)
 have hold:∀ {c},c<H.size->G[c]?=H[c]?:=λ h=>Cb h;have iM:∀ {c},c<H.size->G'[c]?=H[c]?:=λ h=>Cb h;have dR:x8 G H.size=cs:=by simp [G,x8]
 have ky:x8 G' H.size=over cs off cs':=by simp [G',x8]
 have oJ:∀ c∈O,c<H.size:=λ c hc=>hR.xx c hc;have nW:∀ c∈O2,c<H.size:=λ c hc=>hz.xx c hc;have bF:e8 G H.size 0 t.size=cs:=by
  simp only [e8,dR,List.drop_zero];exact List.take_of_length_le (by rw [hR.length]; exact Nat.le_refl _)
 have tU:i6 G S t O (e8 G H.size 0 t.size) x:=by
  rw [bF]; exact hR.w6 (λ c hc=>hold (hc.elim (oJ c) (hS c))) (λ _ h=>h)
 have rE:0+t.size<=(x8 G H.size).length:=by rw [dR,hR.length]; omega
 obtain ⟨O1,O3,b',ar,e1,e2,e3,e4,e5,e6⟩:=focus (b:=H.size) (off:=0) tU rE aK hg
 rw [hn] at e3; cases e3;rw [dR] at e5;have hle:off+u0.size<=cs.length:=by simpa using e5
 have cM:cs'.length=u0.size:=by rw [hz.length,jt]
 have oy:(over cs off cs').length=cs.length:=SY (by omega);have il:¬ S H.size:=λ h=>Nat.lt_irrefl _ (hS _ h);have hc:X0 G G' H.size (0+off) u0.size:=by
  refine ⟨⟨cs.toArray,(over cs off cs').toArray,0,⟨_,⟨EB,.inl rfl⟩,EB⟩,by simp [oy],?_⟩,?_⟩
  ·intro j hj
   exact PR (by omega) (by omega)
  ·intro c dP iA
   have:c<H.size:=by simp [G] at iA; omega
   rw [iM this,hold this]
 have iB:i6 G' S u O2 (e8 G' H.size (0+off) u.size) z:=by
  have:e8 G' H.size (0+off) u.size=cs':=by
   simp only [e8,ky,Nat.zero_add];rw [<- hz.length]; exact NA (by omega)
  rw [this];exact hz.w6 (λ c hc=>iM (hc.elim (nW c) (hS c))) (λ _ h=>h)
 have cx:=(e1.nodup_iff).1 aN;have jH:∀ c∈O1,c∈O:=λ c hc=>e1.mem_iff.2 (by simp [hc]);obtain ⟨O4,f1,f2,f3⟩:=BO e2 hg (hn G H.size 0) rE (by simp [G]) (List.nodup_append.1 cx).1 (λ hm=>Nat.lt_irrefl _ (oJ _ (jH _ hm))) (λ c hc=>⟨hO c (jH c hc),by have:=oJ c (jH c hc); simp [G]; omega⟩) il
  (λ c hc=>by have:=hS c hc; simp [G]; omega) (λ _ h=>h) hc iB aL
 have bU:∀ b∈O4,b∈O\/b∈O2:=λ b hb=>(List.mem_append.1 (f1.mem_iff.1 hb)).imp (jH b) id;refine ⟨O4,?_,(f1.nodup_iff).2 (List.nodup_append.2 ⟨(List.nodup_append.1 cx).1,de,λ c h1 d h2 e=>nH d h2 (e▸jH c h1)⟩),bU,f3,hle,jt⟩;have:e8 G' H.size 0 r.1.size=over cs off cs':=by
  simp only [e8,ky,List.drop_zero];exact List.take_of_length_le (by rw [oy,hR.length,G7 f3]; omega)
 rw [this] at f2;exact f2.w6 (λ c hc=>(iM (hc.elim (λ h=>(bU c h).elim (oJ c) (nW c)) (hS c))).symm) (λ _ h=>h)
def zK (t:Ty) (i:Nat):Nat :=
 match t with
 | .arr _ t=>i*t.size
 | t=>S7 t i
theorem Ye {t:Ty} {x:t.den} {i:Nat} (hi:wH t i=true) {r:Sigma Ty.den} (hg:j9 t x (Y4 t i)=some r):B8 t x (Y4 t i)/\∀ (G:Array Go.Obj) (b o:Nat),C2 G t (Y4 t i) b o=some (b,o+zK t i):=by
 obtain ⟨u,y⟩:=r;cases t with
 | arr n t =>
  have:i<n:=by simpa [wH,Nat.blt_eq] using hi
  refine ⟨⟨by omega,O6⟩,λ G b o=>?_⟩;simp [Y4,C2,zK,C3]
 | _=>exact ⟨yq hg,λ G b o=>yG hg⟩
theorem Fm (h:RS B S ι s a w) {place:Nat->Option (Nat×Nat)}:∀ {parts:List (Nat×Operand)} {t:Ty} {x:t.den} {O:List Nat} {cs:List Value} {r:Sigma Ty.den} {G g:List Nat},i6 w.heap S t O cs x->O.Nodup->(∀ b∈O,N4 ι s.hp G b)->(G++g).Nodup->parts.all (λ q=>wH t q.1)=true ->
  (∀ (t':Ty) (x':t'.den) (i:Nat) (u:Ty) (y:u.den),t'.sh=t.sh->j9 t' x' (Y4 t' i)=some ⟨u,y⟩->wH t' i=true->place i=some (zK t' i,u.size))->T7 s ⟨t,x⟩ parts=some (r,g) ->
  ∃ cs' O',Instr.fill place cs.toArray (parts.map λ q=>(q.1,a.eval q.2))=some cs'.toArray/\i6 w.heap S r.1 O' cs' r.2/\O'.Nodup/\(∀ b∈O',N4 ι s.hp (G++g) b)/\r.1.sh=t.sh
 | [],t,x,O,cs,r,G,g,hR,aN,hO,_,_,_,hb=>by
  simp only [T7,Option.some.injEq,Prod.mk.injEq] at hb;obtain ⟨rfl,rfl⟩:=hb;exact ⟨cs,O,rfl,hR,aN,λ b hb=>(hO b hb).mono (by simp),rfl⟩
 | (i,v)::parts,t,x,O,cs,r,G,g,hR,aN,hO,hG,bH,hp,hb=>by
  simp only [List.all_cons,Bool.and_eq_true] at bH;simp only [T7] at hb;split at hb
  ·cases hb
  ·rename_i u0 y0 hg
   obtain ⟨aK,jE⟩:=Ye bH.1 hg;have kS:=hp t x i u0 y0 rfl hg bH.1;have oL:∀ b∈O,¬ S b:=λ b hb=>by obtain ⟨j,e,_,q2,q3⟩:=hO b hb; exact (h.hs.bl j e q2 b q3).1
   have one:∀ {u:Ty} {z:u.den} {O2:List Nat} {cs1:List Value} {r1:Sigma Ty.den} {g1 g2:List Nat},i6 w.heap S u O2 cs1 z->O2.Nodup->(∀ b∈O2,N4 ι s.hp g1 b)->a.eval v=s5 u cs1->w5 t x (Y4 t i) u z=some r1->T7 s r1 parts=some (r,g2)->g=g1++g2 ->
     ∃ cs' O',Instr.fill place cs.toArray (((i,v)::parts).map λ q=>(q.1,a.eval q.2))=some cs'.toArray/\i6 w.heap S r.1 O' cs' r.2/\O'.Nodup/\(∀ b∈O',N4 ι s.hp (G++g) b)/\r.1.sh=t.sh:=by
    intro u z O2 cs1 r1 g1 g2 hz de eW dm aL hb tm;subst tm;have nH:∀ b∈O2,b∉O:=by
     intro b fE dK;obtain ⟨i1,e1,q1,q2,q3⟩:=eW b fE;obtain ⟨i2,e2,r1',r2,r3⟩:=hO b dK;have bG:i1≠i2:=by rintro rfl; exact (List.nodup_append.1 hG).2.2 i1 r1' i1 (by simp [q1]) rfl
     exact h.hs.dj i1 i2 e1 e2 q2 r2 bG b q3 r3
    obtain ⟨O',k1,Ud,Uc,k2,k3,k4⟩:=Yi hR h.hs.slt oL aN aK hg jE hz de nH aL;obtain ⟨t1,x1⟩:=r1;have ch:t1.sh=t.sh:=k2;have dz:∀ j,wH t1 j=wH t j:=by
     intro j;cases t<;>cases t1<;>simp only [Ty.sh] at ch<;>first|cases ch|rfl|skip
     all_goals first|rfl|(simp only [Ty.arr.injEq] at ch; simp only [wH,ch.1])
    obtain ⟨cs',O4,q1,q2,q3,q4,q5⟩:=Fm h (place:=place) (parts:=parts) (G:=G++g1) (g:=g2) k1 Ud (λ b hb=>(Uc b hb).elim (λ hb=>(hO b hb).mono (by simp; intro i hi; exact .inl hi)) (λ hb=>(eW b hb).mono (by simp; intro i hi; exact .inr hi))) (by rw [List.append_assoc]; exact hG) (by simp only [dz]; exact bH.2) (λ t' x' j u' y' e1 e2 e3=>hp t' x' j u' y' (e1.trans ch) e2 e3) hb;refine ⟨cs',O4,?_,q2,q3,by rw [<- List.append_assoc]; exact q4,q5.trans ch⟩;simp only [List.map_cons];rw [Yt (vs:=cs1) kS (by rw [dm]; exact hz.cells) (by rw [hz.length,k4]) k3];exact q1
   split at hb
   ·rename_i hv
    have fQ:[a.eval v]=[Value.slice none 0 0]:=D0 h hv;split at hb
    ·rename_i o' u' _
     split at hb
     ·rename_i r1 aL
      exact one (u:=.d8 o' u') (z:=([]:List u'.den)) (cs1:=[.slice none 0 0]) (g1:=[]) (.inl ⟨rfl,⟨none,0,rfl,λ _=>rfl⟩,rfl⟩) List.nodup_nil (by simp) (by simpa [s5,Ty.agg] using fQ) aL hb rfl
     ·cases hb
    ·cases hb
   ·split at hb
    ·rename_i u z g1 cW
     obtain ⟨O2,cs1,e,hz,de,eW⟩:=Fb h.hs cW (h.ev v);split at hb
     ·rename_i r1 aL
      split at hb
      ·rename_i r2 g2 fE
       simp only [Option.some.injEq,Prod.mk.injEq] at hb;obtain ⟨rfl,rfl⟩:=hb;exact one hz de eW e aL fE rfl
      ·cases hb
     ·cases hb
    ·cases hb
def plc:Ty->Nat->List (Nat×Nat)
 | .pair a b,off=>(off,a.size)::plc b (off+a.size)
 | _,_=>[]
theorem WA:∀ {t:Ty} {x:t.den} {n:Nat} {u:Ty} {z:u.den} {off:Nat},j9 t x [.l8 n]=some ⟨u,z⟩->(plc t off)[n]?=some (off+S7 t n,u.size):=by
 intro t
 induction t with
 | pair a c _ ihc =>
  intro x n u z off h
  match n,h with
  | 0,h =>
   have h:some (⟨a,x.1⟩:Sigma Ty.den)=some ⟨u,z⟩:=by rw [<- h]; simp only [j9]
   cases h;simp [plc,S7]
  | n+1,h =>
   have:=ihc (x:=x.2) (off:=off+a.size) h;simp only [plc,S7,List.getElem?_cons_succ,this];simp [Nat.add_assoc]
 | d8 o t _=>intro x n u z off h; cases o<;>simp [j9] at h
 | _=>intro x n u z off h; simp [j9] at h
theorem OG {P:Program} {k:Nat}:∀ {fs:List Field} {off:Nat} {t:Ty},n7 (p9 P k) fs off t=true->(fs.mapM λ f=>Prod.mk f.offset <$> sizeOf f.type).run P w=.ok (plc t off) w
 | [],off,t,h=>by
  cases t<;>simp [n7] at h;rfl
 | f::fs,off,t,h=>by
  cases t<;>simp only [n7] at h<;>first|cases h|skip
  simp only [Bool.and_eq_true] at h;obtain ⟨⟨⟨⟨h1,_⟩,h3⟩,_⟩,h4⟩:=h;have ih:=OG h4;simp [List.mapM_cons,run_sizeOf h3,ih,plc,Nat.eq_of_beq_eq_true h1]
theorem Vz:∀ {t u:Ty} {off:Nat},u.sh=t.sh->plc u off=plc t off:=by
 intro t
 induction t with
 | pair a c _ ihc =>
  intro u off h;cases u<;>simp only [Ty.sh] at h<;>try cases h
  simp only [Ty.pair.injEq] at h;simp only [plc,G7 h.1,ihc h.2]
 | _ =>
  intro u off h;cases u<;>simp only [Ty.sh] at h<;>try cases h
  all_goals rfl
theorem Ld {P:Program} {k:Nat} {T:TypeId} {t:Ty} (h:p9 P k T t=true) (ht:t.agg=true) (hn:∀ n u,t≠.arr n u):∃ fs k',P.underlying T=some (.struct fs)/\n7 (p9 P k') fs.toList 0 t=true:=by
 cases k with
 | zero=>simp [p9] at h
 | succ k =>
  obtain ⟨d,h1,h2⟩:=R6 h;simp only [p9,Bool.and_eq_true,h1] at h;obtain ⟨_,h⟩:=h;cases t with
  | pair a c=>cases d<;>first|(exact (Bool.false_ne_true h).elim)|(exact ⟨_,k,h1,h⟩)
  | unit=>cases d<;>first|(exact (Bool.false_ne_true h).elim)|(exact ⟨_,k,h1,h⟩)
  | arr n u=>exact absurd rfl (hn n u)
  | _=>cases ht
end
end Go.Ex
namespace Go.Ex
section
variable {E:Env} {B:F3} {S S':Nat->Prop} {ι:Ix} {s:St} {a:Act} {w:World} {hp:List (Nat×i7)} {H H':Array Go.Obj}
theorem SD (z:List Value):∀ n:Nat,(List.range (n*z.length)).map (λ i=>z.getD (i % z.length) default)=(List.replicate n z).flatten
 | 0=>by simp
 | n+1=>by
  rw [Nat.succ_mul,Nat.add_comm,List.range_add,List.map_append,List.replicate_succ,List.flatten_cons,<- SD z n];congr 1
  ·apply List.ext_getElem
   ·simp
   ·intro i h1 h2
    simp only [List.length_map,List.length_range] at h1;simp [Nat.mod_eq_of_lt h1,List.getElem?_eq_getElem h1]
  ·simp [List.map_map,Function.comp_def]
theorem Jz (z:List Value) (n:Nat):((Array.range (n*z.length)).map (z.toArray[· % z.toArray.size]!))=(List.replicate n z).flatten.toArray:=by
 rw [<- SD];apply Array.ext';simp [Array.toList_range,List.getD_eq_getElem?_getD]
theorem Fx (z:List Value) (n:Nat):Builtin.zeroCells z.toArray n=(List.replicate n z).flatten.toArray:=Jz z n
theorem j6.Hl {t:Ty}:∀ n:Nat,j6 (i6 H S t) t.size [] (List.replicate n (zc t)).flatten (List.replicate n t.s8)
 | 0=>⟨rfl,rfl⟩
 | n+1=>⟨[],[],rfl,by
   rw [List.replicate_succ,List.flatten_cons,List.take_left' (R7 t)]; exact i6.s8 t,by
   rw [List.replicate_succ,List.flatten_cons,List.drop_left' (R7 t)]; exact j6.Hl n⟩
theorem C4.lay {P:Program} {o:Oper} {d:Nat} {g:List Nat} {t:Ty} {x:t.den} {v:AV} {s':St} (hl:s.lay d g t x=.ok v s') {w':World} {val:Value} (hr:(execOp a.eval o).run P w=.ok (.value val) w')
  {O:List Nat} {cs:List Value} (hv:val=s5 t cs) (hR:i6 w'.heap S t O cs x) (hs:RS B S ι (St.B0 g s) a w') (hF:G5 B S ι (St.B0 g s).hp w' O):C4 P B o a w v s':=by
 unfold St.lay at hl;split at hl
 ·cases hl
 ·split at hl
  ·rename_i hf
   cases hl;intro next Q hn
   unfold Oper.wp;rw [hr];exact hn S _ w' val (hs.hold hf hR hF) (by rw [hv]; exact Af hR.length)
  ·cases hl
theorem IL {d:Nat} {g:List Nat} {t:Ty} {x:t.den} {v:AV} {s':St} (hl:s.lay d g t x=.ok v s'):g.Nodup/\(g.all λ i=>!pinned i)=true:=by
 unfold St.lay at hl;split at hl
 ·cases hl
 ·rename_i hc
  simp only [Bool.and_eq_true] at hc;exact ⟨CT hc.1.1,hc.1.2⟩
theorem wR {d:Nat} {g:List Nat} {t:Ty} {x:t.den} {p:Prop} {v:AV} {s':St}:s.lay d g t x≠.G6 p v s':=by
 unfold St.lay
 split
 ·simp
 ·split<;>simp
theorem G1.Im {P:Program} {o:Oper} {d:Nat} {g:List Nat} {t:Ty} {x:t.den} {p:Prop} (h:∀ v s',s.lay d g t x=.ok v s'->p->C4 P B o a w v s'):G1 P B o a w ((s.lay d g t x).f9 p):=by
 cases hl:s.lay d g t x with
 | fail y=>trivial
 | ok v s'=>exact λ hp=>h v s' hl hp
 | G6 q v s'=>exact absurd hl wR
theorem G1.lay {P:Program} {o:Oper} {d:Nat} {g:List Nat} {t:Ty} {x:t.den} (h:∀ v s',s.lay d g t x=.ok v s'->C4 P B o a w v s'):G1 P B o a w (s.lay d g t x):=by
 cases hl:s.lay d g t x with
 | fail y=>trivial
 | ok v s'=>exact h v s' hl
 | G6 q v s'=>exact absurd hl wR
theorem ED {t:Ty} {l:List t.den} {O:List Nat} {cells:List Value} (hS:∀ c,S c->c<w.heap.size) (hR:j6 (i6 w.heap S t) t.size O (cells.take (l.length*t.size)) l) {cap:Nat} (hc:l.length<=cap) (hm:cap<=maxLen)
  (bc:cap*t.size<=cells.length) (T:TypeId) (hO:∀ c∈O,c<w.heap.size) {w':World} {fz:Nat×Nat} (hh:w'.heap=w.heap.push (.cells cells.toArray T fz)) (hz:fz=(0,0)\/(t.isB=true/\cells.length<=fz.1)) :
  ∃ O',i6 w'.heap S (.d8 true t) O' [.slice (some ⟨w.heap.size,0,none⟩) l.length cap] l/\(∀ b∈O',b=w.heap.size\/b∈O)/\(O.Nodup->O'.Nodup):=by
 have dO:w'.heap[w.heap.size]?=some (.cells cells.toArray T fz):=by rw [hh]; exact EB
 have hold:∀ {b},b<w.heap.size->w'.heap[b]?=w.heap[b]?:=λ hb=>by rw [hh]; exact Cb hb
 have dR:x8 w'.heap w.heap.size=cells:=by simp only [x8,dO]
 have hle:l.length*t.size<=cap*t.size:=Nat.mul_le_mul_right _ hc;by_cases h0:cap=0
 ·have jg:l.length=0:=by omega
  have hl:l=[]:=List.length_eq_zero_iff.1 jg;exact ⟨[],.inl ⟨rfl,⟨some ⟨w.heap.size,0,none⟩,0,by rw [jg,h0],λ _=>rfl⟩,hl⟩,by simp,λ _=>List.nodup_nil⟩
 ·refine ⟨w.heap.size::O,.inr ⟨w.heap.size,0,cap,O,rfl,hc,⟨hm,λ _=>by omega⟩,?_,?_,rfl,cells.toArray,T,⟨fz,dO,by simpa using hz⟩,by simpa using bc⟩,λ b hb=>List.mem_cons.1 hb,λ hn=>List.nodup_cons.2 ⟨λ hb=>Nat.lt_irrefl _ (hO _ hb),hn⟩⟩
  ·rw [dR,Nat.zero_add]; exact Nat.le_trans hle bc
  ·have:e8 w'.heap w.heap.size 0 (List.length l*t.size)=cells.take (l.length*t.size):=by simp only [e8,dR,List.drop_zero]
   rw [this];exact j6.mono (L:=O) (λ _ h=>h) (λ O1 cs y hL hr=>hr.w6 (λ b hb=>hold (hb.elim (λ hb=>hO b (hL b hb)) (hS b))) (λ _ h=>h)) hR
theorem OF {t:Ty} {l:List t.den} {O:List Nat} {cells:List Value} (hS:∀ c,S c->c<w.heap.size) (hR:j6 (i6 w.heap S t) t.size O (cells.take (l.length*t.size)) l) {cap:Nat} (hc:l.length<=cap) (hm:cap<=maxLen)
  (bc:cap*t.size<=cells.length) (T:TypeId) (hO:∀ c∈O,c<w.heap.size) :
  ∃ O',i6 (H9 w (.cells cells.toArray T)).heap S (.d8 true t) O' [.slice (some ⟨w.heap.size,0,none⟩) l.length cap] l/\(∀ b∈O',b=w.heap.size\/b∈O)/\(O.Nodup->O'.Nodup) :=
 ED hS hR hc hm bc T hO (w':=H9 w (.cells cells.toArray T)) rfl (.inl rfl)
theorem G5.new {O O':List Nat} (h:RS B S ι s a w) (hF:G5 B S ι s.hp w O) {w':World} (k:F9 [] w w') (bj:w.heap.size<w'.heap.size) (hs:∀ b∈O',b=w.heap.size\/b∈O) (hn:O'.Nodup):G5 B S ι s.hp w' O':=by
 refine ⟨hn,λ b hb=>?_⟩;rcases hs b hb with rfl|hb
 ·refine ⟨λ hS=>Nat.lt_irrefl _ (h.hs.slt _ hS),.inl h.hs.size,bj,λ i e hi kz=>Nat.lt_irrefl _ (h.hs.bl i e hi _ kz).2.2⟩
 ·exact (hF.Z5 k).2 b hb
theorem TL {n:Nat} {t:Ty} (t':Ty) (x':t'.den) (i:Nat) (u':Ty) (y':u'.den) (e1:t'.sh=(Ty.arr n t).sh) (e2:j9 t' x' (Y4 t' i)=some ⟨u',y'⟩) (_:wH t' i=true):some (i*t.size,t.size)=some (zK t' i,u'.size):=by
 cases t'<;>simp only [Ty.sh] at e1<;>first|cases e1|skip
 rename_i n' t'' _;simp only [Ty.arr.injEq] at e1;have:t''=u':=by
  simp only [Y4,j9,C9,Option.some.injEq] at e2;exact congrArg Sigma.fst e2
 subst this;simp only [zK,G7 e1.2]
theorem b8F (hE:D9 E B) (h:RS B S ι s a w) {o:Oper} {T:TypeId} {parts:Array (Nat×Operand)} (ho:o.op=.build T parts):G1 E.P B o a w (n6 E o s):=by
 have he:execOp a.eval o=(do pure (.value (<- Instr.build T (parts.map λ q=>(q.1,a.eval q.2))))):=by simp [execOp,ho]
 unfold n6;rw [ho];simp only
 split
 ·rename_i ti hT
  split
  ·rename_i bH
   simp only [Bool.and_eq_true] at bH;have core:∀ {u:Ty} {y:u.den} {g:List Nat},T7 s ⟨ti.ty,ti.ty.s8⟩ parts.toList=some (⟨u,y⟩,g)->g.Nodup->∃ cs' O',(Instr.build T (parts.map λ q=>(q.1,a.eval q.2))).run E.P w=.ok (s5 u cs') w/\i6 w.heap S u O' cs' y/\O'.Nodup/\∀ b∈O',N4 ι s.hp g b:=by
    intro u y g hb iy;have dn:=s9 hE hT;have hz:=Ce (w:=w) dn;have fK:i6 w.heap S ti.ty [] (zc ti.ty) ti.ty.s8:=i6.s8 _;have kF:(s5 ti.ty (zc ti.ty)).cells=(zc ti.ty).toArray:=fK.cells;have mN:(parts.map λ q=>(q.1,a.eval q.2)).toList=parts.toList.map λ q=>(q.1,a.eval q.2):=by simp
    by_cases eT:∃ n t,ti.ty=.arr n t
    ·obtain ⟨n,t,e0⟩:=eT
     rw [e0] at dn hb fK bH hz kF;obtain ⟨et,k',h1,h2,h3⟩:=xT dn;obtain ⟨cs',O',q1,q2,q3,q4,q5⟩:=Fm h (place:=λ i=>some (i*t.size,t.size)) (G:=[]) fK List.nodup_nil (by simp) (by simpa using iy) bH.2 (λ t' x' i u' y' e1 e2 e3=>TL t' x' i u' y' e1 e2 e3) hb;refine ⟨cs',O',?_,q2,q3,q4⟩;have dy:u.agg=true:=by rw [Eb q5]; rfl
     simp only [Instr.build,Sem.run_bind,hz,Result.andThen,w8 h1,kF,mN,run_sizeOf h3,q1];simp [s5,dy]
    ·have hn:∀ n u,ti.ty≠.arr n u:=λ n u e=>eT ⟨n,u,e⟩
     obtain ⟨fs,k',h1,h2⟩:=Ld dn bH.1 hn;have bZ:=OG (w:=w) h2;obtain ⟨cs',O',q1,q2,q3,q4,q5⟩:=Fm h (place:=λ i=>(plc ti.ty 0)[i]?) (G:=[]) fK List.nodup_nil (by simp) (by simpa using iy) bH.2 (by
      intro t' x' i u' y' e1 e2 e3;have eC:∀ n u,t'≠.arr n u:=by
       rintro n u rfl;cases ht:ti.ty<;>rw [ht] at e1<;>simp only [Ty.sh] at e1<;>first|cases e1|skip
       exact eT ⟨_,_,ht⟩
      have e2':j9 t' x' [.l8 i]=some ⟨u',y'⟩:=by
       cases t'<;>first|exact e2|(exact absurd rfl (eC _ _))
      have:=WA (off:=0) e2';rw [Vz e1] at this;have e4:zK t' i=S7 t' i:=by cases t'<;>first|rfl|(exact absurd rfl (eC _ _))
      rw [e4];simpa using this) hb
     refine ⟨cs',O',?_,q2,q3,q4⟩;have dy:u.agg=true:=by rw [Eb q5]; exact bH.1
     simp only [Instr.build,Sem.run_bind,hz,Result.andThen,w8 h1,kF,mN];simp [Array.mapM_eq_mapM_toList,bZ,q1,s5,dy]
   split
   ·rename_i u y hb
    obtain ⟨cs',O',q1,q2,q3,q4⟩:=core hb List.nodup_nil;have:O'=[]:=List.eq_nil_iff_forall_not_mem.2 (λ b hb=>by obtain ⟨i,e,hi,_⟩:=q4 b hb; cases hi);subst this;exact J3 he h q1 ⟨cs',rfl,q2⟩
   ·rename_i u y g d hd hb dI
    refine G1.lay (λ v s' hl=>?_);obtain ⟨g1,g2⟩:=IL hl;obtain ⟨cs',O',q1,q2,q3,q4⟩:=core hb g1;exact C4.lay hl (P0 he q1) rfl q2 (h.B0 g2) (G5.B0 h.hs q3 q4)
   ·trivial
  ·trivial
 ·trivial
theorem Px {n:Nat} {t:Ty} {parts:List (Nat×Operand)} {r:Sigma Ty.den×List Nat} (h:zS s n t parts=some r):∃ t0:Ty,t0.sh=t.sh/\T7 s ⟨.arr n t0,(Ty.arr n t0).s8⟩ parts=some r:=by
 unfold zS at h;split at h
 ·rename_i r' hr
  cases h;exact ⟨t,rfl,hr⟩
 ·exact ⟨t.sh,Ty.zX t,h⟩
theorem b0m (hE:D9 E B) (h:RS B S ι s a w) {o:Oper} {T:TypeId} {n:Nat} {parts:Array (Nat×Operand)} (ho:o.op=.buildSlice T n parts):G1 E.P B o a w (n6 E o s):=by
 have he:execOp a.eval o=(do pure (.value (<- Instr.buildSlice T n (parts.map λ q=>(q.1,a.eval q.2))))):=by simp [execOp,ho]
 unfold n6;rw [ho];simp only
 split
 ·rename_i t bts d hT hd
  split
  ·rename_i bH
   simp only [Bool.and_eq_true,Nat.ble_eq] at bH;obtain ⟨⟨dY,dz⟩,bc⟩:=bH
   split
   ·rename_i m t' l g mh
    obtain ⟨t0,kN,hb⟩:=Px mh;refine G1.lay (λ v s' hl=>?_);obtain ⟨gn,gp⟩:=IL hl;have dn:=s9 hE hT;obtain ⟨et,k',h1,h2,h3⟩:=H2 dn;have nZ:∀ u:Ty,(zc u).length=u.size:=λ u=>(i6.s8 (H:=w.heap) (S:=S) u).length;have fK:i6 w.heap S (.arr n t0) [] (zc (.arr n t)) (Ty.arr n t0).s8:=by
     have:=i6.s8 (H:=w.heap) (S:=S) (.arr n t0)
     rwa [show zc (.arr n t0)=zc (.arr n t) from Mr (congrArg (Ty.arr n) kN)] at this
    obtain ⟨cs',O',q1,q2,qn,qb,q3⟩:=Fm h (place:=λ i=>some (i*t.size,t.size)) (G:=[]) fK List.nodup_nil (by simp) (by simpa using gn) (by simpa [wH] using dz) (λ t' x' i u' y' e1 e2 e3=>TL t' x' i u' y' (e1.trans (congrArg (Ty.arr n) kN)) e2 e3) hb;have mN:(parts.map λ q=>(q.1,a.eval q.2)).toList=parts.toList.map λ q=>(q.1,a.eval q.2):=by simp
    simp only [Ty.sh,Ty.arr.injEq] at q3;obtain ⟨rfl,q3⟩:=q3;have q3:=q3.trans kN;have eF:=G7 q3;obtain ⟨g1,g2⟩:=q2;have hlen:cs'.length=m*t'.size:=by rw [j6.length (λ _ _ _ h=>h.length) g2,g1]
    have gz:m*t'.size<=16777216:=by rw [eF]; exact bc
    have pQ:m<=maxLen:=by
     have:m*1<=m*t'.size:=Nat.mul_le_mul_left _ (by omega);unfold maxLen; omega
    have aU:(execOp a.eval o).run E.P w=.ok (.value (.slice (some ⟨w.heap.size,0,none⟩) m m)) (H9 w (.cells cs'.toArray et)):=by
     rw [he];have oc:(zc (.arr m t)).toArray=(List.replicate m (zc t)).flatten.toArray:=rfl;by_cases h0:m*t.size=0
     ·have:m=0:=by rcases Nat.mul_eq_zero.1 h0 with h|h<;>omega
      subst this;simp only [Instr.buildSlice,Sem.run_bind,w8 h1,Result.andThen,run_sizeOf h3];have e0:(zc (.arr 0 t)).toArray=(#[]:Array Value):=rfl;rw [e0] at q1;have r0:Array.range 0=(#[]:Array Nat):=rfl;simp only [Nat.zero_mul,r0,Array.map_empty];rw [mN];simp [q1,newRow,newObj,Sem.run,H9]
     ·have jr:(s5 t (zc t)).cells=(zc t).toArray:=(i6.s8 (H:=w.heap) (S:=S) t).cells
      have hle:¬ (m*t.size > 16777216):=by omega
      have hq:=Jz (zc t) m;rw [nZ] at hq;rw [oc] at q1;have pV:¬ (m*t.size > 2^24):=by omega
      simp only [Instr.buildSlice,Sem.run_bind,w8 h1,Result.andThen,run_sizeOf h3,pV,h0,if_false,Ce h3,jr,mN,Sem.run_pure,hq,q1];simp [newRow,newObj,Sem.run,H9]
    have g1':List.length l=m:=g1;have gU:∀ c∈O',c<w.heap.size:=λ c hc=>by obtain ⟨i,e,_,r2,r3⟩:=qb c hc; exact (h.hs.bl i e r2 c r3).2.2
    have ee:=h.B0 (g:=g) gp;obtain ⟨O2,k1,k2,k3⟩:=OF (cap:=m) h.hs.slt (O:=O') (l:=l) (cells:=cs') (by rw [g1',List.take_of_length_le (by omega)]; exact g2) (by omega) pQ (by omega) et gU;have hp:F9 [] w (H9 w (.cells cs'.toArray et)):=F9.push _;exact C4.lay hl aU (by rw [<- g1']; rfl) k1 (ee.Z5 G5.nil hp) (G5.new ee (G5.B0 h.hs qn qb) hp (by simp [H9]) k2 (k3 qn))
   ·trivial
  ·trivial
 ·trivial
theorem QS {P:Program} {k:IntKind} {n:Int}:(asInt (.int k n)).run P w=.ok n w:=by simp [asInt,asIntOf]
theorem b8I (hE:D9 E B) (h:RS B S ι s a w) {o:Oper} {T:TypeId} {x y:Operand} (ho:o.op=.makeSlice T x y):G1 E.P B o a w (Me E T (s.ev x) (s.ev y) o.dst s):=trivial
theorem b1a (hE:D9 E B) (h:RS B S ι s a w) {o:Oper} {T:TypeId} {x y:Operand} (ho:o.op=.makeSlice T x y):G1 E.P B o a w (n6 E o s):=by
 have he:execOp a.eval o=(do pure (.value (<- Instr.makeSlice T (a.eval x) (a.eval y)))):=by simp [execOp,ho]
 unfold n6;rw [ho];simp only
 split
 ·exact b8I hE h ho
 split
 ·rename_i t bts d k n k' m hT hd hx hy
  refine G1.Im (λ v s' hl hp=>?_);have di:@LE.le Int Int.instLEInt 0 n:=hp.1;have gz:@LE.le Int Int.instLEInt n m:=hp.2.1;have uL:@LE.le Int Int.instLEInt m 140737488355328:=hp.2.2.1;obtain ⟨gw,_⟩:=VX.I6 (D0 h hx);obtain ⟨dL,_⟩:=VX.I6 (D0 h hy);have dn:=s9 hE hT;obtain ⟨et,k2,h1,h2,h3⟩:=H2 dn;obtain ⟨i,hi,eE,lk⟩:=X6 h3;have mf:=KB h3 hi;obtain ⟨M,rfl⟩:∃ M:Nat,m=((M:Nat):Int):=⟨Int.toNat m,(Int.toNat_of_nonneg (Int.le_trans di gz)).symm⟩;obtain ⟨N,rfl⟩:∃ N:Nat,n=((N:Nat):Int):=⟨Int.toNat n,(Int.toNat_of_nonneg di).symm⟩;have qC:((t.wb:Nat):Int)*(M:Int)<=281474976710656:=by
   have:=hp.2.2.2;have e:((M:Nat):Int)*(t.wb:Nat)=(t.wb:Nat)*(M:Nat):=Int.mul_comm _ _;have:@LE.le Int Int.instLEInt (((M:Nat):Int)*(t.wb:Nat)) 140737488355328:=hp.2.2.2;rw [e] at this;omega
  have jr:(s5 t (zc t)).cells=(zc t).toArray:=(i6.s8 (H:=w.heap) (S:=S) t).cells;have jW:IntKind.i64.wrap (M:Int)=(M:Int):=U0 (by unfold u7; simp [IntKind.min,IntKind.max,IntKind.signed,IntKind.bits]; omega);have jV:IntKind.i64.wrap (N:Int)=(N:Int):=U0 (by unfold u7; simp [IntKind.min,IntKind.max,IntKind.signed,IntKind.bits]; omega);have aU:(Instr.makeSlice T (a.eval x) (a.eval y)).run E.P w=.ok (.slice (some ⟨w.heap.size,0,none⟩) N M) (H9 w (.cells (List.replicate M (zc t)).flatten.toArray et)):=by
   rw [gw,dL];have c1:¬ ((M:Int)<0):=by omega
   have c2:¬ ((N:Int)<0):=by omega
   have c3:¬ ((M:Int)<(N:Int)):=by omega
   have c4:¬ (281474976710656<((t.wb:Nat):Int)*(M:Int)):=by omega
   by_cases h0:M*t.size=0
   ·have:M=0:=by rcases Nat.mul_eq_zero.1 h0 with h|h<;>omega
    subst this;have hN:N=0:=by omega
    subst hN;simp only [Instr.makeSlice,Sem.run_bind,w8 h1,Result.andThen,QS,typeInfo,jW];have r0:Array.range 0=(#[]:Array Nat):=rfl;simp [run_sizeOf h3,newRow,newObj,Sem.run,H9,Result.andThen,hi,r0]
   ·have hq:=Jz (zc t) M
    rw [R7] at hq;simp only [Instr.makeSlice,Sem.run_bind,w8 h1,Result.andThen,QS,typeInfo,jW,jV];simp [c1,c2,c3,c4,run_sizeOf h3,h0,Ce h3,jr,Result.andThen,newRow,newObj,Sem.run,H9,hi,mf];congr 2;rw [<- hq];apply Array.ext';simp [R7]
  have ee:=h.B0 (g:=[]) rfl;obtain ⟨O2,k1,k2',k3⟩:=OF (cap:=M) h.hs.slt (O:=[]) (l:=List.replicate N t.s8) (cells:=(List.replicate M (zc t)).flatten) (by
   have e:(List.replicate M (zc t)).flatten=(List.replicate N (zc t)).flatten++(List.replicate (M - N) (zc t)).flatten:=by
    rw [<- List.flatten_append,List.replicate_append_replicate]; congr 2; omega
   rw [e,List.take_left' (by simp [R7])];exact j6.Hl N) (by simp; omega) (by unfold maxLen; omega) (by simp [R7]) et (by simp)
  have cK:F9 [] w (H9 w (.cells (List.replicate M (zc t)).flatten.toArray et)):=F9.push _;exact C4.lay hl (P0 he aU) (by simp [s5,Ty.agg]) k1 (ee.Z5 G5.nil cK) (G5.new ee G5.nil cK (by simp [H9]) k2' (k3 List.nodup_nil))
 ·trivial
end
end Go.Ex
namespace Go.Ex
section
variable {E:Env} {B:F3} {S S':Nat->Prop} {ι:Ix} {s:St} {a:Act} {w:World} {hp:List (Nat×i7)} {H H':Array Go.Obj}
theorem Qb:∀ {t:Ty} {x:t.den} {p:List Step} {u:Ty} {y:u.den} {r:Sigma Ty.den},w5 t x p u y=some r->xt p=false->r.1=t:=by
 intro t
 induction t with
 | pair a c iha ihc =>
  intro x p u y r h hf
  match p,h,hf with
  | [],_,hf=>cases hf
  | .l8 0::p,h,hf =>
   simp only [w5] at h;split at h
   ·rename_i t' w hw; cases h; exact congrArg (Ty.pair · c) (iha (r:=⟨t',w⟩) hw hf)
   ·cases h
  | .l8 (n+1)::p,h,hf =>
   simp only [w5] at h;split at h
   ·rename_i t' w hw; cases h; exact congrArg (Ty.pair a) (ihc (r:=⟨t',w⟩) hw hf)
   ·cases h
  | .idx i::p,h,_=>simp [w5] at h
 | arr n t ih =>
  intro x p u y r h hf
  match p,h,hf with
  | [],_,hf=>cases hf
  | .idx i::p,h,_ =>
   simp only [w5] at h;split at h
   ·split at h
    ·cases h; rfl
    ·cases h
   ·cases h
  | .l8 i::p,h,_=>simp [w5] at h
 | d8 o t ih =>
  intro x p u y r h hf
  match p,h,hf with
  | [],_,hf=>cases hf
  | .idx i::p,h,_ =>
   cases o with
   | false=>simp [w5] at h
   | true =>
    simp only [w5] at h;split at h
    ·split at h
     ·cases h; rfl
     ·cases h
    ·cases h
  | .l8 i::p,h,_=>cases o<;>simp [w5] at h
 | _ =>
  intro x p u y r h hf
  match p,h,hf with
  | [],_,hf=>cases hf
  | .idx i::p,h,_=>simp [w5] at h
  | .l8 i::p,h,_=>simp [w5] at h
theorem OB.zw {i:Nat} {e:i7} (ho:OB H S ι i e) (he:e≠.M3) (hS:∀ c,S c->c<H.size) {p:List Step} (aK:B8 e.ty e.x p) {u:Ty} {y:u.den} (hg:j9 e.ty e.x p=some ⟨u,y⟩) {b off:Nat} (hl:Loc H ι i e p=some (b,off))
  {Op:List Nat} (fF:i6 H S u Op (e8 H b off u.size) y):b∉Op:=by
 obtain ⟨h1,h2⟩:=D4 hl;obtain ⟨O,hO,hR,hb,aN,bj,gy,dY⟩:=ho.see he hS;obtain ⟨O1,O2,b',ar,e1,e2,e3,e4,e5,e6⟩:=focus hR hb aK hg
 rw [I3 he,e3] at h1; cases h1;have hm:∀ c,c∈O1\/c∈O2->c∈ι.own i:=λ c hc=>hO.mem_iff.1 (e1.mem_iff.2 (by simpa using hc));have ld:∀ c∈O2,c<H.size:=λ c hc=>ho.U5 he (hm c (.inr hc));have k:=(wj (e:=e) (ι:=ι) (i:=i) ld hS).1 e4;rw [l6 (G8 h2)] at k;have hd:=i6.det k fF;subst hd;rcases e6 with ⟨rfl,_⟩|⟨g1,_⟩
 ·intro hb; exact (List.nodup_cons.1 aN).1 (hm _ (.inr hb))
 ·intro hb
  have:=(e1.nodup_iff).1 ((hO.nodup_iff).2 (List.nodup_cons.1 aN).2);exact (List.nodup_append.1 this).2.2 _ g1 _ hb rfl
theorem Yr {d i:Nat}:∀ {v:AV},v.j5 d=false->(v.drop i).j5 d=false:=by
 intro v
 induction v with
 | cons a b iha ihb=>intro h; simp only [AV.j5,Bool.or_eq_false_iff] at h; simp only [AV.drop,AV.map,AV.j5,Bool.or_eq_false_iff]; exact ⟨iha h.1,ihb h.2⟩
 | M2 l ih=>intro h; exact ih h
 | D3 f l ih=>intro h; exact ih h
 | bx l ih=>intro h; exact ih h
 | rc f l ih=>intro h; exact ih h
 | ptr j p=>intro h; simp only [AV.drop,AV.map]; split<;>first|rfl|exact h
 | at_ j p=>intro h; simp only [AV.drop,AV.map]; split<;>first|rfl|exact h
 | sub j p x y=>intro h; simp only [AV.drop,AV.map]; split<;>first|rfl|exact h
 | _=>intro h; rfl
theorem Lv {d:Nat}:∀ {g:List Nat} {s:St},we d s.fr=true->we d (St.B0 g s).fr=true
 | [],_,h=>h
 | i::g,s,h=>Lv (g:=g) (s:=s.drop i) (by
  simp only [St.drop];generalize s.fr=fr at h
  induction fr with
  | nil=>rfl
  | cons q l ih =>
   obtain ⟨n,v⟩:=q;simp only [we,Bool.and_eq_true,Bool.not_eq_true'] at h;simp only [mapA,we,Bool.and_eq_true,Bool.not_eq_true'];exact ⟨Yr h.1,ih h.2⟩)
theorem WX:∀ {t:Ty} {p:List Step} {b off:Nat} {G:Array Go.Obj} {r:Nat×Nat},xt p=true->C2 G t p b off=some r->r.1=b:=by
 intro t
 induction t with
 | pair a c iha ihc =>
  intro p b off G r h hn
  match p,h,hn with
  | [],_,hn=>rw [C3] at hn; cases hn; rfl
  | .l8 0::p,h,hn=>exact iha (p:=p) h hn
  | .l8 (n+1)::p,h,hn=>exact ihc (p:=.l8 n::p) h hn
  | .idx i::p,h,_=>cases h
 | d8 o t ih =>
  intro p b off G r h hn
  match p,h,hn with
  | [],_,hn=>rw [C3] at hn; cases hn; rfl
  | .l8 i::p,_,hn=>cases o<;>simp [C2] at hn
  | .idx i::p,h,_=>cases h
 | _ =>
  intro p b off G r h hn
  match p,h,hn with
  | [],_,hn=>rw [C3] at hn; cases hn; rfl
  | .l8 i::p,_,hn=>simp [C2] at hn
  | .idx i::p,h,_=>cases h
theorem NB {i:Nat} {e:i7} {p:List Step} {r:Nat×Nat} (hl:Loc H ι i e p=some r) (he:e.vu=true):xt p=false:=by
 obtain ⟨h1,h2⟩:=D4 (b:=r.1) (off:=r.2) hl;cases hf:xt p with
 | false=>rfl
 | true =>
  exfalso;cases e with
  | own t x =>
   rw [I3 (by simp)] at h1;have:=WX hf h1;simp only [VR] at this;omega
  | _=>cases he
theorem AK (hE:D9 E B) (h:RS B S ι s a w) {o:Oper} {T:TypeId} {x y:Operand} (ho:o.op=.store T x y) {i:Nat} {e:i7} (h1:look i s.hp=some e) {p:List Step} (h2:B8 e.ty e.x p) {b off:Nat} (h3:Loc w.heap ι i e p=some (b,off)) (h4:a.eval x=.pointer (some ⟨b,off,none⟩))
  {u:Ty} {y0:u.den} (hg:j9 e.ty e.x p=some ⟨u,y0⟩) (bD:J8 E T u=true) {u':Ty} {z:u'.den} {O2:List Nat} {cs:List Value} {r:Sigma Ty.den}
  (hz:i6 w.heap S u' O2 cs z) (aN:O2.Nodup) (tv:a.eval y=s5 u' cs) (aL:w5 e.ty e.x p u' z=some r)
  (eW:∀ c∈O2,(¬ S c/\(B.w0.heap.size<=c\/B.M c)/\c<w.heap.size)/\(∀ j ej,j≠i->look j s.hp=some ej->c∉l7 ι j ej)/\(c∈l7 ι i e->∃ Op,i6 w.heap S u Op (e8 w.heap b off u.size) y0/\c∈Op)) (bQ:b∉O2) :
  C4 E.P B o a w (.raw undef) ((s.kill i e.kd p).y9 i (e.E8 r)):=by
 intro next Q hn
 obtain ⟨Op,m1,mn,m2,m3,m4,m5⟩:=N5 (L8 h3) (h.hs.ob i e h1) h.hs.slt h2 hg h3;have ch:=Cu hg aL;have il:¬ S b:=(h.hs.bl i e h1 b m4).1;obtain ⟨ι',cu⟩:=h.store h1 h2 hg h3 (u':=u') (z:=z) (cs:=cs) (O2:=O2) (λ H' bc hc=>hz.w6 (λ c dJ=>hc.rest c (by
   rintro rfl;rcases dJ with dJ|dJ
   ·exact bQ dJ
   ·exact il dJ) (by
   rcases dJ with dJ|dJ
   ·exact (eW c dJ).1.2.2
   ·exact h.hs.slt c dJ)) (λ _ h=>h)) (by rw [hz.length,G7 ch]) aN eW aL (λ bA _=>Qb aL (NB h3 bA))
 unfold Oper.wp;have aU:(execOp a.eval o).run E.P w=.ok .skip (w.setRow b (over (x8 w.heap b) off cs).toArray):=by
  simp [execOp,ho,h4,tv,Instr.storeAt,Instr.sureAddr,Ly (E1 hE bD) ch m5 hz]
 rw [aU];exact hn S ι' _ undef cu rfl
theorem Jh:∀ t:Ty,t.vU.sh=t.sh:=by
 intro t
 induction t with
 | pair a b iha ihb=>simp only [Ty.vU,Ty.sh,iha,ihb]
 | d8 o t ih=>cases o<;>rfl
 | _=>rfl
theorem i6.vU {H:Array Go.Obj} {S:Nat->Prop}:∀ {u:Ty} {O:List Nat} {cs:List Value} {y:u.den},i6 H S u O cs y->u.vU.shared=true->i6 H S u.vU [] cs (DR u y):=by
 intro u
 induction u with
 | pair a b iha ihb =>
  rintro O cs y ⟨O1,O2,rfl,h1,h2⟩ hs;simp only [Ty.vU,Ty.shared,Bool.and_eq_true] at hs;have ea:a.vU.size=a.size:=G7 (Jh a);have eb:b.vU.size=b.size:=G7 (Jh b);exact ⟨[],[],rfl,by rw [ea]; exact iha h1 hs.1,by rw [ea]; exact ihb h2 hs.2⟩
 | d8 o t ih =>
  intro O cs y h hs;cases o with
  | true =>
   rcases h with ⟨_,⟨a,c,rfl,_⟩,_⟩|⟨b,off,cap,O',rfl,_⟩
   ·exact ⟨rfl,_,rfl,rfl⟩
   ·exact ⟨rfl,_,rfl,rfl⟩
  | false =>
   have hn:=h.O7 hs;subst hn; exact h
 | arr n t ih =>
  intro O cs y h hs;have hn:=h.O7 hs;subst hn; exact h
 | map o k v =>
  intro O cs y h hs;have hn:=h.O7 hs;subst hn; exact h
 | box o g t =>
  intro O cs y h hs;have hn:=h.O7 hs;subst hn; exact h
 | _ =>
  intro O cs y h hs;have hn:=h.O7 hs;subst hn; exact h
theorem Yw {H:Array Go.Obj} {S:Nat->Prop} {u:Ty} {q:Sigma Ty.den} {O:List Nat} {cs:List Value} (h:i6 H S q.1 O cs q.2):i6 H S (xC u q).1 O cs (xC u q).2/\(xC u q).1.agg=q.1.agg/\(xC u q).1.size=q.1.size:=by
 obtain ⟨t,z⟩:=q;cases u with
 | C6 a =>
  cases t with
  | d8 o b =>
   by_cases e:b=a
   ·subst e
    cases o with
    | false=>rw [show xC (.C6 b) ⟨.d8 false b,z⟩=⟨.C6 b,(0,z,[])⟩ from dif_pos rfl]; exact ⟨h,rfl,rfl⟩
    | true=>rw [show xC (.C6 b) ⟨.d8 true b,z⟩=⟨.C6 b,(1,z,[])⟩ from dif_pos rfl]; exact ⟨h,rfl,rfl⟩
   ·cases o with
    | false=>rw [show xC (.C6 a) ⟨.d8 false b,z⟩=⟨.d8 false b,z⟩ from dif_neg e]; exact ⟨h,rfl,rfl⟩
    | true=>rw [show xC (.C6 a) ⟨.d8 true b,z⟩=⟨.d8 true b,z⟩ from dif_neg e]; exact ⟨h,rfl,rfl⟩
  | _=>exact ⟨h,rfl,rfl⟩
 | _=>exact ⟨h,rfl,rfl⟩
theorem Rh {H:Array Go.Obj} {S:Nat->Prop}:∀ {u:Ty} {q:Sigma Ty.den} {O:List Nat} {cs:List Value},i6 H S q.1 O cs q.2->i6 H S (Q8 u q).1 O cs (Q8 u q).2/\(Q8 u q).1.agg=q.1.agg/\(Q8 u q).1.size=q.1.size:=by
 intro u
 induction u with
 | C6 a=>intro q O cs h; exact Yw h
 | pair a b iha ihb =>
  rintro ⟨t,z⟩ O cs h;cases hm:a.zR || b.zR with
  | false =>
   have:Q8 (.pair a b) ⟨t,z⟩=⟨t,z⟩:=by simp only [Q8,hm]
   rw [this]; exact ⟨h,rfl,rfl⟩
  | true =>
   cases t with
   | pair c d =>
    have e:Q8 (.pair a b) ⟨.pair c d,z⟩=⟨.pair (Q8 a ⟨c,z.1⟩).1 (Q8 b ⟨d,z.2⟩).1,((Q8 a ⟨c,z.1⟩).2,(Q8 b ⟨d,z.2⟩).2)⟩:=by
     simp only [Q8,hm]
    rw [e];obtain ⟨O1,O2,rfl,h1,h2⟩:=h;obtain ⟨k1,_,k3⟩:=iha (q:=⟨c,z.1⟩) h1;obtain ⟨m1,_,m3⟩:=ihb (q:=⟨d,z.2⟩) h2;have k3:(Q8 a ⟨c,z.1⟩).1.size=c.size:=k3;have m3:(Q8 b ⟨d,z.2⟩).1.size=d.size:=m3;refine ⟨⟨O1,O2,rfl,?_,?_⟩,rfl,?_⟩
    ·rw [k3]; exact k1
    ·rw [k3]; exact m1
    ·simp only [Ty.size,k3,m3]
   | _ =>
    have:∀ r:Sigma Ty.den,r=⟨_,z⟩->Q8 (.pair a b) r=r:=by
     rintro r rfl;simp only [Q8,hm]
    rw [this _ rfl]; exact ⟨h,rfl,rfl⟩
 | _=>intro q O cs h; exact ⟨h,rfl,rfl⟩
theorem Pr {H:Array Go.Obj} {S:Nat->Prop} {u:Ty} {q:Sigma Ty.den} {O:List Nat} {cs:List Value} (h:i6 H S q.1 O cs q.2):i6 H S (Q8 u q).1 O cs (Q8 u q).2/\(Q8 u q).1.agg=q.1.agg :=
 ⟨(Rh h).1,(Rh h).2.1⟩
theorem b5B (hE:D9 E B) (h:RS B S ι s a w) {o:Oper} {T:TypeId} {x y:Operand} (ho:o.op=.store T x y) {i:Nat} {p:List Step} (hx:s.ev x=.ptr i p):G1 E.P B o a w (Q7 E T i p (s.ev y) s):=by
 obtain ⟨e,b,off,h1,h2,h3,h4⟩:=D0 h hx;have h4:a.eval x=.pointer (some ⟨b,off,none⟩):=by simpa using h4
 unfold Q7
 split
 ·trivial
 ·rename_i e' aX
  obtain rfl:=wN h1 aX
  split
  ·trivial
  ·rename_i u y0 hg
   obtain ⟨Op,m1,mn,m2,m3,m4,m5⟩:=N5 (L8 h3) (h.hs.ob i e' h1) h.hs.slt h2 hg h3
   split
   ·trivial
   ·rename_i bD
    split
    ·rename_i hy
     have ra:=D0 h hy
     split
     ·rename_i o' u' _
      split
      ·rename_i r aL
       refine AK hE h ho h1 h2 h3 h4 hg bD (u':=.d8 o' u') (z:=([]:List u'.den)) (O2:=[]) (cs:=[.slice none 0 0]) (.inl ⟨rfl,⟨none,0,rfl,λ _=>rfl⟩,rfl⟩) List.nodup_nil ?_ aL (by simp) (by simp);have:[a.eval y]=[Value.slice none 0 0]:=ra;simpa [s5,Ty.agg] using this
      ·trivial
     ·rename_i a' _
      split
      ·rename_i r aL
       refine AK hE h ho h1 h2 h3 h4 hg bD (u':=.C6 a') (z:=(1,([],[]))) (O2:=[]) (cs:=[.slice none 0 0]) (.inl ⟨rfl,⟨none,0,rfl,λ _=>rfl⟩,rfl⟩) List.nodup_nil ?_ aL (by simp) (by simp);have:[a.eval y]=[Value.slice none 0 0]:=ra;simpa [s5,Ty.agg] using this
      ·trivial
     ·trivial
    ·rename_i j q lo hi hy
     split
     ·rename_i u' y1
      split
      ·rename_i r aL
       split
       ·rename_i bS
        have bS:=Nat.eq_of_beq_eq_true bS;subst bS;rintro ⟨rfl,_⟩;obtain ⟨e2,v2,k1,k2,k3,k4,k5,k6⟩:=D0 h hy;rw [h1] at k1; cases k1;rcases k6 with ⟨t',l,A,cap,q1,q2,q3,q4⟩|⟨n,t',l,b2,off2,q1,_⟩
        ·rw [hg] at q1; cases q1
         obtain ⟨b0,off0,r1,r2⟩:=q3;obtain ⟨r3,r4⟩:=D4 h3;rw [r3] at r1; cases r1;rw [l6 (G8 r4)] at r2;have m2':i6 w.heap S (.d8 true u') Op [.slice A (List.length y1) cap] y1:=by rw [r2]; exact m2
         obtain ⟨O,cs,g1,g2,g3,g4⟩:=Ni m2' mn k4 k5 q2 q4;have k3:a.eval y=v2:=by simpa using k3
         refine AK hE h ho h1 h2 h3 h4 hg bD (u':=.d8 true u') (z:=o5 lo hi y1) g2 g3 (by rw [k3,g1]) aL (λ c hc=>?_) ?_
         ·have eg:=m1 c (g4 c hc)
          exact ⟨h.hs.bl i e' h1 c (J1 eg),λ j ej hj du=>h.hs.dj i j e' ej h1 du (Ne.symm hj) c (J1 eg),λ _=>⟨Op,m2,g4 c hc⟩⟩
         ·intro hb
          have:=(h.hs.ob i e' h1).zw (L8 h3) h.hs.slt h2 hg h3 m2;exact this (g4 b hb)
        ·rw [hg] at q1; cases q1
       ·trivial
      ·trivial
     ·trivial
    ·rename_i xv _ _
     split
     ·rename_i q g cW
      split
      ·rename_i r aL
       split
       ·rename_i lr
        simp only [Bool.and_eq_true,Bool.not_eq_true'] at lr;obtain ⟨⟨ew,iy⟩,cC⟩:=lr;have ew:i∉g:=by
         intro hm;simp [hm] at ew
        obtain ⟨O2,cs,k1,k2,k3,k4⟩:=Fb h.hs (t:=q.1) (x:=q.2) cW (h.ev y);obtain ⟨k2,kf⟩:=Pr (u:=u) k2;rw [<- BN kf] at k1;have hd:=h.B0 (g:=g) cC;have jI:look i (St.B0 g s).hp=some e':=by rw [K0,if_neg ew]; exact h1
        have bG:∀ c∈O2,∀ j ej,j∉g->look j s.hp=some ej->c∉l7 ι j ej:=by
         intro c hc j ej hj du;obtain ⟨j2,e2,q1,q2,q3⟩:=k4 c hc;exact h.hs.dj j2 j e2 ej q2 du (by rintro rfl; exact hj q1) c q3
        refine AK hE hd ho jI h2 h3 h4 hg bD k2 k3 k1 aL (λ c hc=>?_) (λ hb=>bG b hb i e' ew h1 m4);obtain ⟨j2,e2,q1,q2,q3⟩:=k4 c hc;refine ⟨h.hs.bl j2 e2 q2 c q3,λ j ej hj du=>?_,λ kx=>absurd kx (bG c hc i e' ew h1)⟩;rw [K0] at du;split at du
        ·cases du
        ·rename_i gi; exact bG c hc j ej gi du
       ·trivial
      ·trivial
     ·split
      ·rename_i j q hy
       split
       ·rename_i u' y' cV
        split
        ·rename_i r aL
         split
         ·rename_i hc
          simp only [Bool.and_eq_true] at hc;obtain ⟨e2,u2,y2,cs,k1,k2,k3,k4,k5⟩:=D0 h hy;have gK:=I5 k1 cV;rw [k3] at gK; cases gK;obtain ⟨O2,g1,_,g2⟩:=H4 h.hs k1 k2 k3 k4;exact AK hE h ho h1 h2 h3 h4 hg bD (g2.vU hc.1.1) List.nodup_nil (by rw [HU (Jh _)]; simpa using k5) aL (by simp) (by simp)
         ·trivial
        ·trivial
       ·trivial
      ·trivial
theorem YM (_hE:D9 E B) (h:RS B S ι s a w) {o:Oper} {T:TypeId} {x:Operand} (ho:o.op=.box T x):G1 E.P B o a w (n6 E o s):=by
 unfold n6;rw [ho];simp only
 split
 ·rename_i t d ht hd
  split
  ·rename_i hf
   have core:∀ {u:Ty} {y:u.den} {O:List Nat} {cs:List Value} {g:List Nat},i6 w.heap S u O cs y->a.eval x=s5 u cs->(g.all λ i=>!pinned i)=true->d∉g->G5 B S ι (St.B0 g s).hp w O->C4 E.P B o a w (.ptr d []) ((St.B0 g s).y9 d (.var u y)):=by
    intro u y O cs g hR e hg uO hF next Q hn
    unfold Oper.wp;have:(execOp a.eval o).run E.P w=.ok (.value (.pointer (some ⟨w.heap.size,0,none⟩))) (H9 w (.cells cs.toArray T)):=by
     simp [execOp,ho,Instr.box,e,newVar,newRow,newObj,Sem.run,H9,hR.cells]
    rw [this];have tq:(St.B0 g s).fresh d=true:=by
     obtain ⟨f1,f2⟩:=EW hf;simp only [St.fresh,Bool.and_eq_true,Option.isNone_iff_eq_none];refine ⟨by rw [K0]; split<;>first|rfl|exact f1,?_⟩;exact Lv (by simp only [St.fresh,Bool.and_eq_true] at hf; exact hf.2)
    exact hn S _ _ _ ((h.B0 hg).alloc tq hR hF T) (Iq (by simp [H9]))
   split
   ·rename_i u y g cW
    split
    ·rename_i hs
     split
     ·rename_i lr
      simp only [Bool.and_eq_true,Bool.not_eq_true'] at lr;obtain ⟨⟨iy,qf⟩,cC⟩:=lr;obtain ⟨O2,cs,k1,k2,k3,k4⟩:=Fb h.hs cW (h.ev x);exact core k2 k1 cC (by intro hm; simp [hm] at qf) (G5.B0 h.hs k3 k4)
     ·trivial
    ·trivial
   ·split
    ·rename_i o' u hx _
     have hv:[a.eval x]=[Value.slice none 0 0]:=D0 h hx;exact core (g:=[]) (cs:=[.slice none 0 0]) (u:=.d8 o' u) (y:=([]:List u.den)) (O:=[]) (.inl ⟨rfl,⟨none,0,rfl,λ _=>rfl⟩,rfl⟩) (by simpa [s5,Ty.agg] using hv) rfl (by simp) G5.nil
    ·rename_i i p o0 t0 hx _
     intro next Q hn
     obtain ⟨e,b,off,k1,k2,k3,k4⟩:=D0 h hx;have k4:a.eval x=.pointer (some ⟨b,off,none⟩):=by simpa using k4
     unfold Oper.wp;have:(execOp a.eval o).run E.P w=.ok (.value (.pointer (some ⟨w.heap.size,0,none⟩))) (H9 w (.cells #[.pointer (some ⟨b,off,none⟩)] T)):=by
      simp [execOp,ho,Instr.box,k4,newVar,newRow,newObj,Sem.run,H9,Value.cells]
     rw [this];have h1:=h.Z5 G5.nil (F9.push (.cells #[.pointer (some ⟨b,off,none⟩)] T));have h2:=h1.share (S':=λ c=>S c\/c=w.heap.size) (λ _ h=>.inl h) (λ c hc=>by
      rcases hc with hc|rfl
      ·exact .inl hc
      ·exact .inr ⟨.inl h.hs.size,by simp [H9],λ j ej hj hb=>Nat.lt_irrefl _ (h.hs.bl j ej hj _ hb).2.2⟩)
     have hb:x8 (H9 w (.cells #[.pointer (some ⟨b,off,none⟩)] T)).heap w.heap.size=[.pointer (some ⟨b,off,none⟩)]:=by
      simp only [x8,H9,Array.getElem?_push_size]
     refine hn _ _ _ _ h2 ⟨w.heap.size,0,.pointer (some ⟨b,off,none⟩),rfl,.inr rfl,by rw [hb]; simp,by rw [e8,hb]; rfl,?_⟩;have h3:=h2.ev x;rw [hx,k4] at h3;exact h3
    ·trivial
  ·trivial
 ·trivial
end
end Go.Ex
namespace Go.Ex
section
variable {E:Env} {B:F3} {S S':Nat->Prop} {ι:Ix} {s:St} {a:Act} {w:World} {hp:List (Nat×i7)} {H H':Array Go.Obj}
theorem Tf {P:Program} {k:Nat} {T U:TypeId} {t:Ty} (hT:p9 P k T (.d8 true t)=true) (ty:TypeId) (hS:∀ c,S c->c<w.heap.size)
  {base:Option Addr} {cap:Nat} {l m:List t.den} {O1 Og:List Nat} {x:Value} {olds news:List Value}
  (hold:(Builtin.firstCells t.size l.length (.slice base l.length cap)).run P w.drew=.ok olds.toArray w.drew) (hL:j6 (i6 w.heap S t) t.size O1 olds l)
  (hs:Src P t.size U x m.length news w) (hN:j6 (i6 w.heap S t) t.size Og news m) (aN:(O1++Og).Nodup) (hO:∀ c∈O1++Og,c<w.heap.size)
  (cT:cap<l.length+m.length) (jb:l.length+m.length<=140737488355328) (ia:(l.length+m.length)*t.wb<=140737488355328) :
  ∃ v' w' O',(Builtin.append_ #[T,U] ty #[.slice base l.length cap,x]).run P w=.ok v' w'/\i6 w'.heap S (.d8 true t) O' [v'] (l++m)/\O'.Nodup/\F9 [] w w'/\w.heap.size<w'.heap.size/\∀ c∈O',(c=w.heap.size\/c∈O1++Og)/\c<w'.heap.size:=by
 obtain ⟨et,k2,h1,h2,h3⟩:=H2 hT;obtain ⟨i,hi,eE,lk⟩:=X6 h3;have mf:=KB h3 hi;have jI:olds.length=l.length*t.size:=j6.length (λ _ _ _ h=>h.length) hL;have me:news.length=m.length*t.size:=j6.length (λ _ _ _ h=>h.length) hN;have kr:=grownCap_ge w (l.length+m.length) cap et;have fY:=grownCap_le_maxLen w (l.length+m.length) cap et (by unfold maxLen; omega);have jr:(s5 t (zc t)).cells=(zc t).toArray:=(i6.s8 (H:=w.heap) (S:=S) t).cells;have aU:=run_append_grow_src (P:=P) w T U ty et i (s5 t (zc t)) h1 hi lk base l.length cap olds (by rw [eE]; exact hold) x m.length news (by rw [eE]; exact hs) cT (by omega) (by rw [mf]; exact growslice_fits cT ia);generalize lr:grownCap w (l.length+m.length) cap et=gc at aU kr fY;have bp:F9 [] w (w.drew.alloc (.cells ((olds++news).toArray++Builtin.zeroCells (s5 t (zc t)).cells (gc - (l.length+m.length))) et)) :=
  F9.trans F9.drew (F9.push _) (by simp)
 have cJ:((olds++news).toArray++Builtin.zeroCells (s5 t (zc t)).cells (gc - (l.length+m.length)))=((olds++news)++(List.replicate (gc - (l.length+m.length)) (zc t)).flatten).toArray:=by
  rw [jr,Fx]; simp
 rw [cJ] at aU bp;have bj:(l++m).length=l.length+m.length:=List.length_append;obtain ⟨O',q1,q2,q3⟩:=ED (w:=w) (t:=t) (l:=l++m) (cap:=gc) hS (O:=O1++Og) (cells:=(olds++news)++(List.replicate (gc - (l.length+m.length)) (zc t)).flatten) (by
  rw [bj,List.take_left' (by rw [List.length_append,jI,me,Nat.add_mul])];exact j6.append (λ _ _ _ h=>h.length) hL hN) (by rw [bj]; exact kr) fY (by
  simp only [List.length_append,jI,me,List.length_flatten,List.map_replicate,List.sum_replicate_nat,R7];rw [<- Nat.add_mul,<- Nat.add_mul]; exact Nat.mul_le_mul_right _ (by omega)) et hO (w':=w.drew.alloc (.cells ((olds++news)++(List.replicate (gc - (l.length+m.length)) (zc t)).flatten).toArray et)) rfl (.inl rfl)
 have bc:(w.drew.alloc (.cells ((olds++news)++(List.replicate (gc - (l.length+m.length)) (zc t)).flatten).toArray et)).heap.size=w.heap.size+1:=by
  show (w.heap.push _).size=_;simp
 refine ⟨_,_,O',aU,?_,q3 aN,bp,by omega,λ c hc=>⟨q2 c hc,?_⟩⟩
 ·rw [bj] at q1; exact q1
 ·rcases q2 c hc with rfl|h
  ·omega
  ·have:=hO c h; omega
theorem b8G {P:Program} {k:Nat} {T U:TypeId} {t:Ty} (hT:p9 P k T (.d8 true t)=true) (ty:TypeId)
  {b off cap:Nat} {l m:List t.den} {O1 Og:List Nat} {x:Value} {news:List Value}
  (hl:l.length<=cap) (eg:cap<=maxLen) (gk:V1 t.isB w.heap b (off+cap*t.size)) (hL:j6 (i6 w.heap S t) t.size O1 (e8 w.heap b off (l.length*t.size)) l)
  (hs:Src P t.size U x m.length news w) (hN:j6 (i6 w.heap S t) t.size Og news m) (aN:(b::O1++Og).Nodup) (oG:¬ S b)
  (cy:l.length+m.length<=cap) (lO:1<=cap) :
  ∃ w',(Builtin.append_ #[T,U] ty #[.slice (some ⟨b,off,none⟩) l.length cap,x]).run P w=.ok (.slice (some ⟨b,off,none⟩) (l.length+m.length) cap) w' /\
   X0 w.heap w'.heap b (off+l.length*t.size) news.length/\w'.heap.size=w.heap.size/\i6 w'.heap S (.d8 true t) (b::(O1++Og)) [.slice (some ⟨b,off,none⟩) (l.length+m.length) cap] (l++m)/\F9 [b] w w' /\
   i6 w'.heap S (.d8 true t) (b::O1) [.slice (some ⟨b,off,none⟩) l.length cap] l:=by
 obtain ⟨et,k2,h1,h2,h3⟩:=H2 hT;obtain ⟨i,hi,eE,lk⟩:=X6 h3;have me:news.length=m.length*t.size:=j6.length (λ _ _ _ h=>h.length) hN;have hle:l.length*t.size+m.length*t.size<=cap*t.size:=by rw [<- Nat.add_mul]; exact Nat.mul_le_mul_right _ cy
 have bj:(l++m).length=l.length+m.length:=List.length_append;obtain ⟨arr,T',⟨fz,e,ef⟩,hn⟩:=gk;have bR:x8 w.heap b=arr.toList:=by simp only [x8,e]
 have bP:=FF (P:=P) b (off+l.length*t.size) T' fz news 0 arr w ⟨e,ef.imp id (·.2)⟩ (by omega) hs.one;simp only [Nat.add_zero] at bP;have iL:arr.toList.take (off+l.length*t.size)++news++arr.toList.drop (off+l.length*t.size+news.length)=over (x8 w.heap b) (off+l.length*t.size) news:=by rw [bR]; rfl
 rw [iL] at bP;have aU:(Builtin.append_ #[T,U] ty #[.slice (some ⟨b,off,none⟩) l.length cap,x]).run P w=.ok (.slice (some ⟨b,off,none⟩) (l.length+m.length) cap) (w.setRow b (over (x8 w.heap b) (off+l.length*t.size) news).toArray):=by
  rw [<- eE] at hs bP ⊢;rcases hs.kind with ⟨e',hk⟩|hk<;>simp [Builtin.append_,run_underlying h1,run_underlying hk,sizeOf,typeInfo,hi,hs.len,cy,hs.cells,Addr.add_lit,bP]
 obtain ⟨hc,cI⟩:=EY (w:=w) (b:=b) (off:=off+l.length*t.size) (cs:=news) ⟨arr,T',⟨fz,e,ef.imp id (·.2)⟩,by omega⟩;have dQ:b<w.heap.size:=(Array.getElem?_eq_some_iff.1 e).1;have pL:=(List.nodup_cons.1 (by simpa using aN:(b::(O1++Og)).Nodup));have hold:e8 (w.setRow b (over (x8 w.heap b) (off+l.length*t.size) news).toArray).heap b off (l.length*t.size)=e8 w.heap b off (l.length*t.size):=hc.cells dQ (λ _=>.inl (Nat.le_refl _));have bP:∀ {O:List Nat} {cs:List Value} {y:t.den},(∀ c∈O,c∈O1++Og)->i6 w.heap S t O cs y->i6 (w.setRow b (over (x8 w.heap b) (off+l.length*t.size) news).toArray).heap S t O cs y:=by
  intro O cs y hO hr;refine hr.w6 (λ c cZ=>setRow_other ?_) (λ _ h=>h);intro cD;rw [cD] at cZ;rcases cZ with h|h
  ·exact pL.1 (hO _ h)
  ·exact oG h
 have dY:V1 t.isB (w.setRow b (over (x8 w.heap b) (off+l.length*t.size) news).toArray).heap b (off+cap*t.size):=hc.Ha ⟨arr,T',⟨fz,e,ef⟩,hn⟩;refine ⟨_,aU,hc,setRow_size,?_,⟨rfl,.of rfl rfl,rfl,by rw [setRow_size]; exact Nat.le_refl _,λ c cM cD=>setRow_other (by simpa using cD)⟩,?_⟩
 rotate_left
 ·refine .inr ⟨b,off,cap,O1,rfl,hl,⟨eg,λ _=>lO⟩,?_,?_,rfl,dY⟩
  ·have:=dY.free.x8
   have:=Nat.mul_le_mul_right t.size hl;omega
  ·rw [hold]
   exact j6.mono (L:=O1) (λ _ h=>h) (λ O cs y hO hr=>bP (λ c hc=>by simp [hO c hc]) hr) hL
 refine .inr ⟨b,off,cap,O1++Og,by rw [bj],by rw [bj]; exact cy,⟨eg,λ _=>lO⟩,?_,?_,rfl,dY⟩
 ·have:=dY.free.x8
  rw [bj,Nat.add_mul]; omega
 ·rw [bj,Nat.add_mul,KU,hold,<- me,cI]
  exact j6.append (λ _ _ _ h=>h.length) (j6.mono (L:=O1) (λ _ h=>h) (λ O cs y hO hr=>bP (λ c hc=>by simp [hO c hc]) hr) hL) (j6.mono (L:=Og) (λ _ h=>h) (λ O cs y hO hr=>bP (λ c hc=>by simp [hO c hc]) hr) hN)
theorem Sj {P:Program} {k:Nat} {T U:TypeId} {t:Ty} (hT:p9 P k T (.d8 true t)=true) (ty:TypeId) (hS:∀ c,S c->c<w.heap.size)
  {v:Value} {l m:List t.den} {Of Og:List Nat} {x:Value} {news:List Value}
  (hR:i6 w.heap S (.d8 true t) Of [v] l) (hs:Src P t.size U x m.length news w) (hN:j6 (i6 w.heap S t) t.size Og news m)
  (aN:(Of++Og).Nodup) (hO:∀ c∈Of++Og,¬ S c/\c<w.heap.size)
  (jb:l.length+m.length<=140737488355328) (ia:(l.length+m.length)*t.wb<=140737488355328) :
  ∃ v' w' O',(Builtin.append_ #[T,U] ty #[v,x]).run P w=.ok v' w'/\i6 w'.heap S (.d8 true t) O' [v'] (l++m)/\O'.Nodup/\F9 Of w w'/\(∀ c∈O',(w.heap.size<=c\/c∈Of++Og)/\c<w'.heap.size)/\i6 w'.heap S (.d8 true t) Of [v] l /\
   (F9 [] w w'\/∃ b off cap n,v=.slice (some ⟨b,off,none⟩) l.length cap/\l.length<=cap/\1<=cap/\X0 w.heap w'.heap b (off+l.length*t.size) n/\w'.heap.size=w.heap.size):=by
 have fK:=hR;rcases hR with ⟨rfl,⟨A,c,e,hc⟩,rfl⟩|⟨b,off,cap,O1,e,c2,c3,c4,c5,rfl,c7⟩
 ·obtain rfl:=hc rfl
  simp only [List.cons.injEq,and_true] at e;subst e;by_cases h0:m.length=0
  ·obtain rfl:m=[]:=List.length_eq_zero_iff.1 h0
   obtain ⟨rfl,rfl⟩:=hN;obtain ⟨et,k2,h1,h2,h3⟩:=H2 hT;obtain ⟨i,hi,eE,lk⟩:=X6 h3;refine ⟨.slice A 0 0,w,[],?_,.inl ⟨rfl,⟨A,0,rfl,λ _=>rfl⟩,rfl⟩,List.nodup_nil,⟨rfl,.refl _,rfl,Nat.le_refl _,λ _ _ _=>rfl⟩,by simp,fK,.inl ⟨rfl,.refl _,rfl,Nat.le_refl _,λ _ _ _=>rfl⟩⟩;rw [<- eE] at hs;have jg:=hs.len;have eS:=hs.cells;simp only [List.length_nil] at jg eS;rcases hs.kind with ⟨e',hk⟩|hk<;>cases A<;>simp [Builtin.append_,run_underlying h1,run_underlying hk,sizeOf,typeInfo,hi,jg,eS,storeCells]
  ·obtain ⟨v',w',O',q1,q2,q3,q4,q5,q6⟩:=Tf hT ty hS (base:=A) (cap:=0) (l:=([]:List t.den)) (olds:=[]) (O1:=[]) (by
    cases A with
    | none=>exact run_firstCells_none w.drew t.size 0 0 0
    | some A=>exact run_firstCells_some w.drew t.size 0 A 0 0 [] (by simp) (by simp)) ⟨rfl,rfl⟩ hs hN (by simpa using aN) (λ c hc=>(hO c (by simpa using hc)).2) (by simp; omega) jb ia
   exact ⟨v',w',O',q1,q2,q3,q4,λ c hc=>⟨(q6 c hc).1.imp (λ h=>by omega) (λ h=>by simpa using h),(q6 c hc).2⟩,fK.w6 (λ c hc=>q4.frame c (hc.elim (λ h=>by cases h) (hS c)) (by simp)) (λ _ h=>h),.inl q4⟩
 ·simp only [List.cons.injEq,and_true] at e
  subst e;by_cases cy:l.length+m.length<=cap
  ·obtain ⟨w',q1,q2,q3,q4,q5,q6⟩:=b8G (S:=S) hT ty c2 c3.1 c7 c5 hs hN aN (hO b (by simp)).1 cy (c3.2 rfl)
   refine ⟨_,w',b::(O1++Og),q1,q4,by simpa using aN,q5.mono (by simp),λ c hc=>⟨.inr (by simpa using hc),?_⟩,q6,.inr ⟨b,off,cap,news.length,rfl,c2,c3.2 rfl,q2,q3⟩⟩;rw [q3]; exact (hO c (by simpa using hc)).2
  ·have eB:(O1++Og).Nodup:=(List.nodup_cons.1 (by simpa using aN:(b::(O1++Og)).Nodup)).2
   obtain ⟨v',w',O',q1,q2,q3,q4,q5,q6⟩:=Tf hT ty hS (base:=some ⟨b,off,none⟩) (cap:=cap) (l:=l) (olds:=e8 w.heap b off (l.length*t.size)) (O1:=O1) (by
    refine run_firstCells_some w.drew t.size l.length _ l.length cap _ (LM _ _ _ c4) (λ j u hu=>?_);rw [Addr.I2]; exact N3 hu) c5 hs hN eB (λ c hc=>(hO c (by simp at hc ⊢; exact .inr hc)).2) (by omega) jb ia
   exact ⟨v',w',O',q1,q2,q3,q4.mono (by simp),λ c hc=>⟨(q6 c hc).1.imp (λ h=>by omega) (λ h=>by simp at h ⊢; exact .inr h),(q6 c hc).2⟩,fK.w6 (λ c hc=>q4.frame c (hc.elim (λ h=>(hO c (List.mem_append_left _ h)).2) (hS c)) (by simp)) (λ _ h=>h),.inl q4⟩
theorem IW {P:Program} (h:RS B S ι s a w) {v:AV} {t0:Ty} {U:TypeId} (hk:(∃ e',P.underlying U=some (.slice e'))\/P.underlying U=some .string) {t:Ty} {m:List t.den} {g:List Nat} {x:Value} (hx:v.vn s t0=some (⟨t,m⟩,g)) (hv:VX w.heap S ι s.hp v [x]) :
  ∃ Og news,Src P t.size U x m.length news w/\j6 (i6 w.heap S t) t.size Og news m/\Og.Nodup/\∀ b∈Og,N4 ι s.hp g b:=by
 have src:∀ {A:Option Addr} {n c:Nat} {news:List Value},news.length=n*t.size->(n≠0->∃ b off,A=some ⟨b,off,none⟩/\news=e8 w.heap b off (n*t.size))->(∀ u∈news,u.oneCell'=true)->Src P t.size U (.slice A n c) n news w:=by
  intro A n c news hl hn h1;by_cases h0:n=0
  ·subst h0
   have:news=[]:=List.length_eq_zero_iff.1 (by omega);subst this;cases A with
   | none=>exact ⟨hk,λ _=>rfl,run_firstCells_none w _ 0 0 c,run_firstCells_none w.drew _ 0 0 c,by simp,λ _ h=>by cases h⟩
   | some A=>exact ⟨hk,λ _=>rfl,run_firstCells_some w _ 0 A 0 c [] (by simp) (by simp),run_firstCells_some w.drew _ 0 A 0 c [] (by simp) (by simp),by simp,λ _ h=>by cases h⟩
  ·obtain ⟨b,off,rfl,e⟩:=hn h0
   have bN:∀ j u,news[j]?=some u->w.cell? ((⟨b,off,none⟩:Addr).add j)=some u:=by
    intro j u hu;rw [Addr.I2]; rw [e] at hu; exact N3 hu
   exact ⟨hk,λ _=>rfl,run_firstCells_some w _ n _ n c news hl bN,run_firstCells_some w.drew _ n _ n c news hl (by simpa using bN),hl,h1⟩
 unfold AV.vn at hx;split at hx
 ·cases hx
  have fQ:[x]=[Value.slice none 0 0]:=hv;obtain rfl:x=.slice none 0 0:=by simpa using fQ
  exact ⟨[],[],src (by simp) (by simp) (by simp),⟨rfl,rfl⟩,List.nodup_nil,by simp⟩
 ·rename_i y
  cases hx;obtain ⟨rfl,hm⟩:=VX.zp hv;refine ⟨[],byteCells ⟨y.toArray⟩,?_,?_,List.nodup_nil,by simp⟩
  ·have hl:(List.map (λ b:UInt8=>(b.toNat:Int)) y).length=(⟨y.toArray⟩:ByteArray).size:=by simp [ByteArray.size]
   have e:∀ w':World,(Builtin.firstCells 1 (⟨y.toArray⟩:ByteArray).size (.string ⟨y.toArray⟩)).run P w'=.ok (byteCells ⟨y.toArray⟩).toArray w':=firstCells_string _;show Src P 1 U (.string ⟨y.toArray⟩) (List.map (λ b:UInt8=>(b.toNat:Int)) y).length (byteCells ⟨y.toArray⟩) w;rw [hl];exact ⟨hk,λ _=>rfl,e w,e w.drew,by rw [byteCells_length,Nat.mul_one],λ u hu=>by
    obtain ⟨_,_,rfl⟩:=List.mem_map.1 hu;rfl⟩
  ·simp only [byteCells]
   clear src hv hm
   induction y with
   | nil=>exact ⟨rfl,rfl⟩
   | cons c y ih=>exact ⟨[],[],rfl,⟨rfl,rfl,by simp only [u7,IntKind.min,IntKind.max,IntKind.signed,IntKind.bits]; have:=c.toNat_lt; simp; omega⟩,by simpa [Ty.size] using ih⟩
 ·split at hx
  ·cases hx
  ·rename_i t' l fA
   split at hx
   ·rename_i ch
    cases hx;obtain ⟨A,c,e,k⟩:=En h.hs hv fA;subst e;rcases k with rfl|⟨b,off,O',rfl,k1,k2,k3,k4⟩
    ·exact ⟨[],[],src (by simp) (by simp) (by simp),⟨rfl,rfl⟩,List.nodup_nil,by simp⟩
    ·have hO:O'=[]:=j6.O7 (λ _ _ _ hr=>i6.O7 ch hr) k3
     subst hO;exact ⟨[],_,src (j6.length (λ _ _ _ h=>h.length) k3) (λ _=>⟨b,off,rfl,rfl⟩) (j6.plain (λ _ _ _ hr=>hr.plain) k3 · · |>.1),k3,List.nodup_nil,by simp⟩
   ·split at hx
    ·rename_i u m' g' cW
     cases hx;obtain ⟨O,cs,k1,k2,k3,k4⟩:=Ax h.hs cW hv;rcases k2 with ⟨rfl,⟨A,c,rfl,hc⟩,rfl⟩|⟨b,off,cap,O',rfl,c2,c3,c4,c5,rfl,c7⟩
     ·have e:x=.slice A 0 c:=k1
      subst e;exact ⟨[],[],src (by simp) (by simp) (by simp),⟨rfl,rfl⟩,List.nodup_nil,by simp⟩
     ·have e:x=.slice (some ⟨b,off,none⟩) (List.length m) cap:=k1
      subst e;exact ⟨O',_,src (j6.length (λ _ _ _ h=>h.length) c5) (λ _=>⟨b,off,rfl,rfl⟩) (j6.plain (λ _ _ _ hr=>hr.plain) c5 · · |>.1),c5,(List.nodup_cons.1 k3).2,λ c hc=>k4 c (by simp [hc])⟩
    ·cases hx
theorem c1N (hE:D9 E B) (h:RS B S ι s a w) {o:Oper} {c:Call} (ho:o.op=.call c) (hc:c.callee=.builtin .append) {x y:Operand} {T U:TypeId} (ha:c.args.toList=[x,y]) (fe:c.argTypes.toList=[T,U])
  {q:Bool} {t0:Ty} {bts d:Nat} (hT:look T E.tt=some ⟨.d8 q t0,bts⟩) {l m:List t0.den} {f g Of Og:List Nat} {v1:Value} {news:List Value} (fg:a.eval x=v1) (hR:i6 w.heap S (.d8 true t0) Of [v1] l) (nV:Of.Nodup) (rD:∀ b∈Of,N4 ι s.hp f b)
  (hs:Src E.P t0.size U (a.eval y) m.length news w) (hN:j6 (i6 w.heap S t0) t0.size Og news m) (mi:Og.Nodup) (lH:∀ b∈Og,N4 ι s.hp g b) {p:Prop} (hp:p->l.length+m.length<=140737488355328/\(l.length+m.length)*t0.wb<=140737488355328) :
  G1 E.P B o a w ((s.lay d (f++g) (.d8 true t0) (l++m)).f9 p):=by
 refine G1.Im (λ v s' hl pB=>?_);obtain ⟨jb,ia⟩:=hp pB;obtain ⟨gn,gp⟩:=IL hl;have dn:p9 E.P 100 T (.d8 true t0)=true:=Eu (t:=.d8 q t0) (u:=.d8 true t0) rfl (s9 hE hT);have aN:(Of++Og).Nodup:=List.nodup_append.2 ⟨nV,mi,by
  rintro c h1 c' h2 rfl;obtain ⟨i,e,i1,i2,i3⟩:=rD c h1;obtain ⟨j,e',j1,j2,j3⟩:=lH c h2;exact h.hs.dj i j e e' i2 j2 (λ e=>(List.nodup_append.1 gn).2.2 i i1 j j1 e) c i3 j3⟩
 have dR:∀ b∈Of++Og,N4 ι s.hp (f++g) b:=λ b hb=>(List.mem_append.1 hb).elim (λ hb=>(rD b hb).mono (by simp +contextual)) (λ hb=>(lH b hb).mono (by simp +contextual));have hF:=G5.B0 h.hs aN dR;have hd:=h.B0 (g:=f++g) gp;obtain ⟨v',w',O',q1,q2,q3,q4,q5,_⟩:=Sj dn o.type h.hs.slt hR hs hN aN (λ c hc=>⟨(hF.2 c hc).1,(hF.2 c hc).2.2.1⟩) jb ia;have aH:c.args=#[x,y]:=by rw [<- ha]
 have eF:c.argTypes=#[T,U]:=by rw [<- fe]
 have aU:(execOp a.eval o).run E.P w=.ok (.value v') w':=by
  subst fg;simp [execOp,ho,resolve,hc,invoke,builtin,aH,eF,q1]
 have nY:G5 B S ι (St.B0 (f++g) s).hp w Of:=hF.sub nV (by simp +contextual);refine C4.lay hl aU (cs:=[v']) rfl q2 (hd.Z5 nY q4) ⟨q3,λ c hc=>?_⟩;obtain ⟨k1,k2⟩:=q5 c hc;rcases k1 with k1|k1
 ·exact ⟨λ hS=>by have:=h.hs.slt c hS; omega,.inl (by have:=h.hs.size; omega),k2,λ i e hi hb=>by have:=(hd.hs.bl i e hi c hb).2.2; omega⟩
 ·exact ⟨(hF.2 c k1).1,(hF.2 c k1).2.1,k2,(hF.2 c k1).2.2.2⟩
theorem Tr (hE:D9 E B) (h:RS B S ι s a w) {o:Oper} {c:Call} (ho:o.op=.call c) (hc:c.callee=.builtin .append) {x y:Operand} {T U:TypeId} (ha:c.args.toList=[x,y]) (fe:c.argTypes.toList=[T,U])
  (hk:(∃ e',E.P.underlying U=some (.slice e'))\/E.P.underlying U=some .string):G1 E.P B o a w (wU E T (s.ev x) (s.ev y) o.dst s):=by
 unfold wU
 split
 ·rename_i q t0 bts d hT hd
  split
  ·trivial
  ·rename_i t m g cw
   obtain ⟨Og,news,k1,k2,k3,k4⟩:=IW (P:=E.P) h hk cw (h.ev y);simp only;have own:∀ {l:List t0.den} {f Of:List Nat} {v1:Value},a.eval x=v1->i6 w.heap S (.d8 true t0) Of [v1] l->Of.Nodup->(∀ b∈Of,N4 ι s.hp f b) ->
     G1 E.P B o a w (if h:t=t0 then (s.lay d (f++g) (.d8 true t0) (l++Q0 h m)).f9 ((l.length+m.length:Nat)<=140737488355328/\(l.length+m.length:Nat)*(t0.wb:Nat)<=140737488355328) else .fail "append: type"):=by
    intro l f Of v1 e1 e2 e3 e4
    split
    ·rename_i ht
     subst ht;exact c1N hE h ho hc ha fe hT e1 e2 e3 e4 k1 k2 k3 k4 (λ hp=>hp)
    ·trivial
   split
   ·rename_i hx
    have eu:[a.eval x]=[Value.slice none 0 0]:=D0 h hx;exact own (f:=[]) (Of:=[]) (v1:=.slice none 0 0) (by simpa using eu) (.inl ⟨rfl,⟨none,0,rfl,λ _=>rfl⟩,rfl⟩) List.nodup_nil (by simp)
   ·rename_i u lx hx
    split
    ·obtain ⟨cs,e,hR⟩:=D0 h hx
     rcases hR with ⟨_,⟨A,c,rfl,eS⟩,rfl⟩|⟨b,off,cap,O',rfl,c2,c3,c4,c5,c6,c7⟩
     ·exact own (f:=[]) (Of:=[]) (v1:=.slice A 0 c) (by simpa [s5,Ty.agg] using e) (.inl ⟨rfl,⟨A,c,rfl,eS⟩,rfl⟩) List.nodup_nil (by simp)
     ·cases c6
    ·trivial
   ·rename_i xv _ _
    split
    ·rename_i u l f cW
     split
     ·rename_i hu
      subst hu;obtain ⟨O2,cs,r1,r2,r3,r4⟩:=Ax h.hs cW (h.ev x);have r1':a.eval x=cs.headD undef:=r1;have cI:cs=[cs.headD undef]:=by
       have:=r2.length
       match cs,this with
       | [c],_=>rfl
      rw [cI] at r2;exact own r1' r2 r3 r4
     ·trivial
    ·trivial
 ·trivial
end
end Go.Ex
namespace Go.Ex
section
variable {E:Env} {B:F3} {S S':Nat->Prop} {ι:Ix} {s:St} {a:Act} {w:World} {hp:List (Nat×i7)} {H H':Array Go.Obj}
def ya (a:Act) (d n:Int):Option Operand->Prop
 | none=>n=d
 | some x=>∃ k,a.eval x=.int k n
theorem Z6 (h:RS B S ι s a w) {d n:Int} {x:Option Operand} (hb:bnd s d x=some n):ya a d n x:=by
 unfold bnd at hb;split at hb
 ·cases hb; rfl
 ·rename_i x
  split at hb
  ·rename_i k m hx
   cases hb;exact ⟨k,(VX.I6 (D0 h hx)).1⟩
  ·cases hb
theorem zy {P:Program} {k:IntKind} {n:Int} {y:Nat} {c:BoundsCode} (h0:0<=n) (h1:n<=y):(Instr.sliceBound (.int k n) y c).run P w=.ok n.toNat w:=by
 simp [Instr.sliceBound,asIntOf,h0,h1]
theorem Ks {P:Program} {isS:Bool} {len cap:Nat} {lo hi:Option Operand} {x y:Int} (h1:ya a 0 x lo) (h2:ya a (len:Int) y hi) (h0:0<=x) (mq:x<=y) (hy:y<=(cap:Int)) :
  (Instr.sliceBounds isS len cap (lo.map a.eval) (hi.map a.eval) none).run P w=.ok (x.toNat,y.toNat,cap) w:=by
 cases hi with
 | none =>
  have h2:y=len:=h2;cases lo with
  | none =>
   have h1:x=0:=h1;subst h1 h2;simp [Instr.sliceBounds,Sem.run_pure]
  | some z =>
   obtain ⟨k,e⟩:=h1;subst h2;simp only [Instr.sliceBounds,Option.map_some,Option.map_none,e,Sem.run_bind,Sem.run_pure,Result.andThen_ok,zy h0 mq,Int.toNat_natCast]
 | some z2 =>
  obtain ⟨k2,e2⟩:=h2;have hb:∀ c,(Instr.sliceBound (.int k2 y) cap c).run P w=.ok y.toNat w:=λ c=>zy (by omega) (by omega);cases lo with
  | none =>
   have h1:x=0:=h1;subst h1;simp [Instr.sliceBounds,e2,hb]
  | some z =>
   obtain ⟨k,e⟩:=h1;have fE:∀ c,(Instr.sliceBound (.int k x) y.toNat c).run P w=.ok x.toNat w:=λ c=>zy h0 (by omega);simp only [Instr.sliceBounds,Option.map_some,e,e2,Sem.run_bind,Sem.run_pure,Result.andThen_ok,hb,fE]
theorem b7X {P:Program} {len cap:Nat} {lo:Option Operand} {x y:Operand} {k k':IntKind} (h1:ya a 0 0 lo) (h2:a.eval x=.int k 0) (h3:a.eval y=.int k' 0) :
  (Instr.sliceBounds true len cap (lo.map a.eval) (some (a.eval x)) (some (a.eval y))).run P w=.ok (0,0,0) w:=by
 have hb:∀ (k:IntKind) (n:Nat) c,(Instr.sliceBound (.int k 0) n c).run P w=.ok 0 w:=λ k n c=>zy (n:=0) (by omega) (by omega);cases lo with
 | none=>simp only [Instr.sliceBounds,Option.map_none,h2,h3,Sem.run_bind,hb,Sem.run_pure,Result.andThen_ok,if_true]
 | some z =>
  obtain ⟨k,e⟩:=h1;simp only [Instr.sliceBounds,Option.map_some,e,h2,h3,Sem.run_bind,hb,Sem.run_pure,Result.andThen_ok,if_true]
theorem Wa {y:yY} {x z:Int} (h:0<=x):(⟨y.toArray⟩:ByteArray).extract x.toNat z.toNat=⟨(o5 x z y).toArray⟩:=by
 have:((⟨y.toArray⟩:ByteArray).extract x.toNat z.toNat).data=(o5 x z y).toArray:=by
  rw [ByteArray.data_extract];simp only [List.extract_toArray,List.extract_eq_take_drop,o5];congr 2;omega
 exact congrArg ByteArray.mk this
theorem Wi {α:Type} {x z:Int} {l:List α}:(o5 x z l).length<=l.length:=by simp only [o5,List.length_take,List.length_drop]; omega
theorem Kt {P:Program} {T:TypeId} {k:Nat} {q:Bool} {t:Ty} (hT:p9 P k T (.d8 q t)=true) {A:Option Addr} {len cap:Nat} {lo hi:Option Operand} {x y:Int} (h1:ya a 0 x lo) (h2:ya a (len:Int) y hi) (h0:0<=x) (mq:x<=y) (hy:y<=(cap:Int)) :
  (Instr.sliceAt T (.slice A len cap) (lo.map a.eval) (hi.map a.eval) none).run P w=.ok (.slice (if cap=x.toNat then A else A.map (·.add (x.toNat*t.size))) (y.toNat - x.toNat) (cap - x.toNat)) w:=by
 obtain ⟨et,k',e1,e2,e3⟩:=H2 hT;simp only [Instr.sliceAt,Instr.slice,Sem.run_bind,w8 e1,Result.andThen_ok,Ks h1 h2 h0 mq hy,run_sizeOf e3,Sem.run_pure]
theorem Ko {P:Program} {T:TypeId} {k:Nat} {q:Bool} {t:Ty} (hT:p9 P k T (.d8 q t)=true) {A:Option Addr} {len cap:Nat} {lo hi:Option Operand} {x y:Int} (h1:ya a 0 x lo) (h2:ya a (len:Int) y hi) (h0:0<=x) (mq:x<=y) (hy:y<=(len:Int)) (hc:len<=cap) :
  (Instr.sliceAt T (.slice A len cap) (lo.map a.eval) (hi.map a.eval) none).run P w=.ok (.slice (if cap=x.toNat then A else A.map (·.add (x.toNat*t.size))) (y.toNat - x.toNat) (cap - x.toNat)) w:=Kt hT h1 h2 h0 mq (by omega)
theorem b5C (hE:D9 E B) (h:RS B S ι s a w) {o:Oper} {T:TypeId} {x:Operand} {lo hi mx:Option Operand} (ho:o.op=.slice T x lo hi mx):G1 E.P B o a w (yu E T (s.ev x) lo hi mx s):=by
 have he:execOp a.eval o=(do pure (.value (<- Instr.sliceAt T (a.eval x) (lo.map a.eval) (hi.map a.eval) (mx.map a.eval)))):=by simp [execOp,ho]
 unfold yu
 split
 ·trivial
 ·rename_i m jf
  have h1:=Z6 h jf;have nil3:∀ {q:Bool} {t:Ty} {A:Option Addr} {len cap:Nat} {c n:Int},J8 E T (.d8 q t)=true->hi.isSome=true->(∃ z,mx=some z)->bnd s 0 mx=some c->(bnd s (len:Int) hi=some n)->a.eval x=.slice A len cap->m=0/\n=0/\c=0 ->
    C4 E.P B o a w (.val (.d8 true t) ([]:List t.den)) s:=by
   rintro q t A len cap c n bD hh ⟨z,rfl⟩ hm hb hv ⟨rfl,rfl,rfl⟩;cases hi with
   | none=>cases hh
   | some y =>
    obtain ⟨k1,e1⟩:=Z6 h hb;obtain ⟨k2,e2⟩:=Z6 h hm;obtain ⟨et,k',f1,f2,f3⟩:=H2 (E1 hE bD);refine C4.value (val:=.slice A 0 0) ?_ h ⟨[.slice A 0 0],rfl,.inl ⟨rfl,⟨A,0,rfl,λ _=>rfl⟩,rfl⟩⟩;rw [he];simp only [Option.map_some,hv,Instr.sliceAt,Instr.slice,Sem.run_bind,w8 f1,Result.andThen_ok,b7X h1 e1 e2,run_sizeOf f3,Sem.run_pure];simp
  have any3:∀ {q:Bool} {t:Ty} {A:Option Addr} {len cap:Nat} {c n:Int},J8 E T (.d8 q t)=true->hi.isSome=true->lo.isSome=true->(∃ z,mx=some z)->bnd s 0 mx=some c->(bnd s (len:Int) hi=some n)->a.eval x=.slice A len cap->len<=cap->(0<=m/\m<=n/\n<=c/\c<=(len:Int)) ->
    C4 E.P B o a w .any s:=by
   rintro q t A len cap c n bD hh me ⟨z,rfl⟩ hm hb hv cT ⟨g1,g2,g3,g4⟩;cases hi with
   | none=>cases hh
   | some y =>
    cases lo with
    | none=>cases me
    | some z0 =>
     obtain ⟨k1,e1⟩:=Z6 h hb;obtain ⟨k2,e2⟩:=Z6 h hm;obtain ⟨k0,e0⟩:=h1;obtain ⟨et,k',f1,f2,f3⟩:=H2 (E1 hE bD);have dK:∀ d,(Instr.sliceBound (.int k2 c) cap d).run E.P w=.ok c.toNat w:=λ d=>zy (by omega) (by omega);have fE:∀ d,(Instr.sliceBound (.int k1 n) c.toNat d).run E.P w=.ok n.toNat w:=λ d=>zy (by omega) (by omega);have qF:∀ d,(Instr.sliceBound (.int k0 m) n.toNat d).run E.P w=.ok m.toNat w:=λ d=>zy g1 (by omega);refine C4.value (val:=.slice (if c.toNat=m.toNat then A else A.map (·.add (m.toNat*t.size))) (n.toNat - m.toNat) (c.toNat - m.toNat)) ?_ h ⟨_,rfl⟩;rw [he];simp only [Option.map_some,hv,Instr.sliceAt,Instr.slice,Instr.sliceBounds,e0,e1,e2,dK,fE,qF,Sem.run_bind,w8 f1,Result.andThen_ok,run_sizeOf f3,Sem.run_pure,if_true]
  split
  ·rename_i y hx
   split
   ·rename_i n hb
    split
    ·rename_i bD
     rintro ⟨g1,g2,g3⟩;obtain ⟨hv,hl⟩:=VX.zp (D0 h hx);have hu:=Y2 (E1 hE bD);refine C4.value (val:=.string ⟨(o5 m n y).toArray⟩) ?_ h (VX.str (Nat.le_trans Wi hl));rw [he];have bc:(⟨y.toArray⟩:ByteArray).size=List.length y:=rfl;simp only [hv,Option.map_none,Instr.sliceAt,Instr.slice,Sem.run_bind,w8 hu,Result.andThen_ok,bc];simp only [Option.isSome_none,Bool.false_eq_true,if_false,Ks (isS:=false) h1 (Z6 h hb) g1 g2 g3,Sem.run_pure,Result.andThen_ok,Sem.run_bind,Wa g1]
    ·trivial
   ·trivial
  ·rename_i t y hx
   obtain ⟨cs,e,hR⟩:=D0 h hx
   split
   ·rename_i n hb
    split
    ·rename_i bD
     rintro ⟨g1,g2,g3⟩;have key:∀ {A:Option Addr} {cap:Nat},a.eval x=.slice A (List.length y) cap->List.length y<=cap->(∃ cs',Value.slice (if cap=m.toNat then A else A.map (·.add (m.toNat*t.size))) (n.toNat - m.toNat) (cap - m.toNat)=s5 (.d8 false t) cs'/\i6 w.heap S (.d8 false t) [] cs' (o5 m n y)) ->
       C4 E.P B o a w (.val (.d8 false t) (o5 m n y)) s:=by
      rintro A cap hv hc ⟨cs',e1,e2⟩;refine C4.value (val:=s5 (.d8 false t) cs') ?_ h ⟨cs',rfl,e2⟩;rw [he,hv,<- e1];simp only [Option.map_none,Sem.run_bind,Ko (E1 hE bD) h1 (Z6 h hb) g1 g2 g3 hc,Result.andThen_ok,Sem.run_pure]
     have hlen:(o5 m n y).length=(n - m).toNat:=zC g1 g3;rcases hR with ⟨_,⟨A,c,rfl,_⟩,rfl⟩|⟨b1,o1,cap,O',rfl,c2,c3,c4,c5,c6,rfl,c7⟩
     ·have hn:n=0:=by have:n<=((([]:List t.den).length:Nat):Int):=g3; simp at this; omega
      have iw:m=0:=by omega
      subst hn iw;exact key (A:=A) (cap:=c) (by simpa [s5,Ty.agg] using e) (by simp) ⟨[_],rfl,.inl ⟨rfl,⟨_,_,rfl,by simp⟩,by simp [o5]⟩⟩
     ·refine key (A:=some ⟨b1,o1,none⟩) (cap:=cap) (by simpa [s5,Ty.agg] using e) c2 ⟨[_],rfl,?_⟩
      by_cases hz:o5 m n y=[]
      ·have:n.toNat - m.toNat=0:=by rw [hz] at hlen; simp at hlen; omega
       rw [this];exact .inl ⟨rfl,⟨_,_,rfl,by simp⟩,hz⟩
      ·have gF:0<(n - m).toNat:=by rw [<- hlen]; exact List.length_pos_iff.2 hz
       obtain ⟨P1,P2,P3,e1,g⟩:=c5.cut m.toNat (n - m).toNat;have hP:P2=[]:=by have:=e1.symm; simp at this; exact this.2.1
       subst hP;have hle:m.toNat*t.size+(n - m).toNat*t.size<=List.length y*t.size:=by rw [<- Nat.add_mul]; exact Nat.mul_le_mul_right _ (by omega)
       rw [o6,n8 _ _ _ _ (by omega)] at g;refine .inr ⟨b1,o1+m.toNat*t.size,cap - m.toNat,[],?_,by rw [hlen]; omega,⟨by have:=c3.1; omega,by simp⟩,by rw [hlen]; omega,by rw [hlen]; exact g,rfl,rfl,c7⟩;rw [if_neg (by omega),Option.map_some,Addr.I2,hlen,show n.toNat - m.toNat=(n - m).toNat from by omega]
    ·trivial
   ·rename_i z hb
    split
    ·rename_i c bD hc
     simp only [Bool.and_eq_true] at bD;intro hp;obtain ⟨A,c,e1,_⟩:=BM hR;exact nil3 bD.1 bD.2 ⟨_,rfl⟩ hc hb (by rw [show a.eval x=s5 (.d8 false t) cs by simpa using e]; exact e1) hp
    ·trivial
   ·trivial
  ·rename_i t y hx
   obtain ⟨cs,e,hR⟩:=D0 h hx
   split
   ·rename_i n hb
    split
    ·rename_i bD
     obtain ⟨fl,l,m'⟩:=y;rintro ⟨rfl,g1,g2,g3⟩;obtain ⟨b1,o1,O',rfl,c2,c4,c5,_,rfl,c7⟩:=hR;have hv:a.eval x=.slice (some ⟨b1,o1,none⟩) l.length (l.length+m'.length):=by simpa [s5,Ty.agg] using e
     have g3:n<=((l++m').length:Int):=by rw [List.length_append]; exact g3
     have hlen:(o5 m n (l++m')).length=(n - m).toNat:=zC g1 g3;have c4':=c4;rw [List.length_append] at g3;refine C4.value (val:=.slice (if l.length+m'.length=m.toNat then some ⟨b1,o1,none⟩ else (some ⟨b1,o1,none⟩:Option Addr).map (·.add (m.toNat*t.size))) (n.toNat - m.toNat) (l.length+m'.length - m.toNat)) ?_ h ⟨[_],rfl,?_⟩
     ·rw [he,hv]
      simp only [Option.map_none,Sem.run_bind,Kt (E1 hE bD) h1 (Z6 h hb) g1 g2 g3,Result.andThen_ok,Sem.run_pure]
     by_cases hz:o5 m n (l++m')=[]
     ·have:n.toNat - m.toNat=0:=by rw [hz] at hlen; simp at hlen; omega
      rw [this];exact .inl ⟨rfl,⟨_,_,rfl,by simp⟩,hz⟩
     ·have gF:0<(n - m).toNat:=by rw [<- hlen]; exact List.length_pos_iff.2 hz
      obtain ⟨P1,P2,P3,e1,g⟩:=c5.cut m.toNat (n - m).toNat;have hP:P2=[]:=by have:=e1.symm; simp at this; exact this.2.1
      subst hP;have hle:m.toNat*t.size+(n - m).toNat*t.size<=List.length (l++m')*t.size:=by rw [<- Nat.add_mul,List.length_append]; exact Nat.mul_le_mul_right _ (by omega)
      rw [o6,n8 _ _ _ _ (by omega)] at g;refine .inr ⟨b1,o1+m.toNat*t.size,l.length+m'.length - m.toNat,[],?_,by rw [hlen]; omega,⟨by have:=c2.1; omega,by simp⟩,by rw [hlen]; omega,by rw [hlen]; exact g,rfl,rfl,c7⟩;rw [if_neg (by omega),Option.map_some,Addr.I2,hlen,show n.toNat - m.toNat=(n - m).toNat from by omega]
    ·trivial
   ·trivial
  ·rename_i hx
   split
   ·rename_i n q t bts hb hT
    rintro ⟨rfl,rfl⟩;have hv:a.eval x=.slice none 0 0:=by simpa using (show [a.eval x]=[Value.slice none 0 0] from D0 h hx)
    refine C4.value (val:=.slice none 0 0) ?_ h rfl;rw [he,hv];have:=Ko (w:=w) (A:=none) (len:=0) (cap:=0) (s9 hE hT) h1 (Z6 h hb) (Int.le_refl _) (Int.le_refl _) (Int.le_refl _) (Nat.le_refl _);simp only [Option.map_none,Sem.run_bind,this,Result.andThen_ok,Sem.run_pure];simp
   ·trivial
  ·rename_i i p hx
   obtain ⟨e,u,y0,cs,k1,k2,k3,k4,k5⟩:=D0 h hx;have k5:a.eval x=s5 u cs:=by simpa using k5
   split
   ·rename_i t y cV
    have hg:=I5 k1 cV;rw [k3] at hg; cases hg;obtain ⟨O2,m1,m2,m3⟩:=H4 h.hs k1 k2 k3 k4;have nF:∃ A cap,cs=[.slice A (List.length y) cap]/\List.length y<=cap:=by
     rcases m3 with ⟨_,⟨A,c,rfl,_⟩,rfl⟩|⟨b1,o1,cap,O',rfl,c2,_⟩
     ·exact ⟨A,c,rfl,by simp⟩
     ·exact ⟨_,cap,rfl,c2⟩
    obtain ⟨A,cap,rfl,hc⟩:=nF;have k5:a.eval x=.slice A (List.length y) cap:=k5
    split
    ·rename_i n hb
     split
     ·rename_i bD
      rintro ⟨g1,g2,g3⟩;refine C4.value (val:=.slice (if cap=m.toNat then A else A.map (·.add (m.toNat*t.size))) (n.toNat - m.toNat) (cap - m.toNat)) ?_ h ⟨e,_,k1,k2,rfl,g1,g2,.inl ⟨t,y,A,cap,k3,g3,k4,_,_,by rw [show (n - m).toNat=n.toNat - m.toNat from by omega],λ bG=>by rw [if_neg (by omega)],by omega,by omega⟩⟩;rw [he,k5];simp only [Option.map_none,Sem.run_bind,Ko (E1 hE bD) h1 (Z6 h hb) g1 g2 g3 hc,Result.andThen_ok,Sem.run_pure]
     ·trivial
    ·rename_i z hb
     split
     ·rename_i c bD dJ
      simp only [Bool.and_eq_true] at bD
      split
      ·intro hp
       exact nil3 bD.1 bD.2 ⟨_,rfl⟩ dJ hb k5 hp
      ·rename_i pU
       rintro ⟨g1,g2,g3,g4⟩;exact any3 bD.1 bD.2 pU ⟨_,rfl⟩ dJ hb k5 hc ⟨g1,g2,g3,g4⟩
     ·trivial
    ·trivial
   ·trivial
  ·rename_i i p a0 b0 hx
   obtain ⟨e,v,k1,k2,k3,k4,k5,k6⟩:=D0 h hx;have k3:a.eval x=v:=by simpa using k3
   have core:∀ {t:Ty} {n:Int} {A0:Option Addr} {cap:Nat},J8 E T (.d8 true t)=true->bnd s (b0 - a0) hi=some n->mx=none->0<=m->m<=n->a0+n<=(cap:Int)->AU t.size A0 cap a0 b0 v->∃ val,(execOp a.eval o).run E.P w=.ok (.value val) w/\AU t.size A0 cap (a0+m) (a0+n) val:=by
    rintro t n A0 cap bD hb rfl g1 g2 g3 ⟨c,A,e1,e2,e3,e4⟩;refine ⟨.slice (if c=m.toNat then A else A.map (·.add (m.toNat*t.size))) (n.toNat - m.toNat) (c - m.toNat),?_,_,_,by rw [show (a0+n - (a0+m)).toNat=n.toNat - m.toNat from by omega],?_,by omega,by omega⟩
    ·rw [he,k3,e1]
     have cX:bnd s (((b0 - a0).toNat:Nat):Int) hi=some n:=by rw [Int.toNat_of_nonneg (by omega)]; exact hb
     simp only [Option.map_none,Sem.run_bind,Kt (A:=A) (cap:=c) (E1 hE bD) h1 (Z6 h cX) g1 g2 (show n<=(c:Int) by omega),Result.andThen_ok,Sem.run_pure]
    ·intro bG
     rw [if_neg (by omega),e2 (by omega),Option.map_map,show (a0+m).toNat=a0.toNat+m.toNat from by omega];congr 1
     funext ad
     have lJ:∀ x y:Nat,(ad.add x).add y=ad.add (x+y):=by
      intro x y;unfold Addr.add;by_cases hx:x=0<;>by_cases hy:y=0<;>simp [hx,hy,Nat.add_assoc]
     simp only [Function.comp,Nat.add_mul,lJ]
   split
   ·rename_i t y ed
    split
    ·rename_i n hb
     split
     ·rename_i bD
      rintro ⟨g1,g2,g3⟩;have hg:=I5 k1 ed;rcases k6 with ⟨t',l,A,cap,q1,q2,q3,q4⟩|⟨n',t',l,b2,off2,q1,q2,q3,q4⟩
      ·rw [q1] at hg; cases hg
       obtain ⟨O2,m1,m2,m3⟩:=H4 h.hs k1 k2 q1 q3;have hc:List.length y<=cap:=by
        rcases m3 with ⟨_,⟨A,c,_,_⟩,rfl⟩|⟨b1,o1,gV,O',c1,c2,_⟩
        ·simp
        ·cases c1; exact c2
       obtain ⟨val,r1,r2⟩:=core bD hb rfl g1 g2 (by omega) q4;exact C4.value r1 h ⟨e,val,k1,k2,rfl,by omega,by omega,.inl ⟨_,_,A,cap,q1,by omega,q3,r2⟩⟩
      ·rw [q1] at hg; cases hg
     ·trivial
    ·trivial
   ·rename_i n0 t y ed
    split
    ·rename_i n hb
     split
     ·rename_i bD
      rintro ⟨g1,g2,g3⟩;have hg:=I5 k1 ed;rcases k6 with ⟨t',l,A,cap,q1,q2,q3,q4⟩|⟨n',t',l,b2,off2,q1,q2,q3,q4⟩
      ·rw [q1] at hg; cases hg
      ·rw [q1] at hg; cases hg
       obtain ⟨val,r1,r2⟩:=core bD hb rfl g1 g2 (by omega) q4;exact C4.value r1 h ⟨e,val,k1,k2,rfl,by omega,by omega,.inr ⟨_,_,_,b2,off2,q1,⟨by omega,q2.2⟩,q3,r2⟩⟩
     ·trivial
    ·trivial
   ·trivial
  ·rename_i i p hx
   obtain ⟨e,b,off,k1,k2,k3,k4⟩:=D0 h hx;have k4:a.eval x=.pointer (some ⟨b,off,none⟩):=by simpa using k4
   split
   ·rename_i N t y cV
    have hg:=I5 k1 cV
    split
    ·rename_i n hb
     split
     ·rename_i bD
      simp only [Bool.and_eq_true,Nat.ble_eq] at bD;rintro ⟨g1,g2,g3⟩;have fE:=Ks (P:=E.P) (w:=w) (isS:=false) h1 (Z6 h hb) g1 g2 g3;refine C4.value (val:=.slice (some (if N=m.toNat then ⟨b,off,none⟩ else (⟨b,off,none⟩:Addr).add (m.toNat*t.size))) (n.toNat - m.toNat) (N - m.toNat)) ?_ h ⟨e,_,k1,k2,rfl,g1,g2,.inr ⟨N,t,y,b,off,hg,⟨g3,by have:=bD.2; unfold maxLen; omega⟩,k3,_,_,by rw [show (n - m).toNat=n.toNat - m.toNat from by omega],λ bG=>by rw [if_neg (by omega)]; rfl,by omega,by omega⟩⟩;rw [he,k4];have hc:=bD.1;unfold yu.LY at hc;split at hc
      ·rename_i A hT
       obtain ⟨et,k',f1,f2,f3⟩:=xT (E1 hE hc);simp only [Option.map_none,Instr.sliceAt,Instr.slice,Sem.run_bind,w8 hT,w8 f1,asAddr,fE,Result.andThen_ok,Sem.run_pure,run_sizeOf f3]
      ·obtain ⟨et,k',f1,f2,f3⟩:=xT (E1 hE hc)
       simp only [Option.map_none,Instr.sliceAt,Sem.run_bind,w8 f1,Instr.sureAddr,fE,Result.andThen_ok,Sem.run_pure,run_sizeOf f3]
      ·cases hc
     ·trivial
    ·trivial
   ·trivial
  ·trivial
end
end Go.Ex
namespace Go.Ex
section
variable {E:Env} {B:F3} {S S':Nat->Prop} {ι:Ix} {s:St} {a:Act} {w:World} {hp:List (Nat×i7)} {H H':Array Go.Obj}
theorem j6.two {α:Type} {R:List Nat->List Value->α->Prop} {sz:Nat} (hR:∀ O cs x,R O cs x->cs.length=sz) (h0:∀ O cs x,R O cs x->O=[]) {l m:List α} {O:List Nat} {cs:List Value} (h:j6 R sz O cs (l++m)):j6 R sz [] (cs.take (l.length*sz)) l/\j6 R sz [] (cs.drop (l.length*sz)) m:=by
 induction l generalizing O cs with
 | nil =>
  have:=j6.O7 h0 h;subst this;exact ⟨⟨rfl,by simp⟩,by simpa using h⟩
 | cons x l ih =>
  obtain ⟨O1,O2,e,h1,h2⟩:=h;obtain ⟨k1,k2⟩:=ih h2;have e1:=h0 _ _ _ h1;subst e1;refine ⟨⟨[],[],rfl,?_,?_⟩,?_⟩
  ·rw [List.take_take,List.length_cons,Nat.succ_mul,Nat.min_eq_left (by omega)]; exact h1
  ·rw [List.length_cons,Nat.succ_mul,List.drop_take,show l.length*sz+sz - sz=l.length*sz by omega]; exact k1
  ·rw [List.length_cons,Nat.succ_mul,Nat.add_comm,<- List.drop_drop]; exact k2
theorem b8J (hE:D9 E B) (h:RS B S ι s a w) {o:Oper} {c:Call} (ho:o.op=.call c) (hc:c.callee=.builtin .append) {x y:Operand} {T U:TypeId} (ha:c.args.toList=[x,y]) (fe:c.argTypes.toList=[T,U])
  (hk:∃ e',E.P.underlying U=some (.slice e')):G1 E.P B o a w (DE E T (s.ev x) (s.ev y) o.dst s):=trivial
theorem c1P (hE:D9 E B) (h:RS B S ι s a w) {o:Oper} {c:Call} (ho:o.op=.call c) (hc:c.callee=.builtin .append) {x y:Operand} {T U:TypeId} (ha:c.args.toList=[x,y]) (fe:c.argTypes.toList=[T,U])
  (hk:∃ e',E.P.underlying U=some (.slice e')):G1 E.P B o a w (xq E T (s.ev x) (s.ev y) o.dst s):=by
 unfold xq
 split
 ·exact b8J hE h ho hc ha fe hk
 ·exact Tr hE h ho hc ha fe (.inl hk)
end
end Go.Ex
namespace Go.Ex
section
variable {E:Env} {B:F3} {S S':Nat->Prop} {ι:Ix} {s:St} {a:Act} {w:World} {hp:List (Nat×i7)} {H H':Array Go.Obj}
theorem OJ {q:Bool} {u:Ty} {O:List Nat} {cs:List Value} {z:List u.den} (hR:i6 H S (.d8 q u) O cs z):z.length<=maxLen:=by
 rcases hR with ⟨_,_,h2⟩|⟨b,off,cap,O',c1,c2,c3,_⟩
 ·rw [h2]; exact Nat.zero_le _
 ·have:=c3.1
  have c2:z.length<=cap:=c2;omega
theorem II (h:HS B S ι s.hp w) {v:AV} {val:Value} (hv:VX w.heap S ι s.hp v [val]) {t:Ty} {l:List t.den} (hw:v.els s=some ⟨t,l⟩):l.length<=maxLen:=by
 unfold AV.els at hw;split at hw
 ·cases hw
  obtain ⟨cs,_,hR⟩:=hv;exact OJ hR
 ·rename_i i p
  split at hw
  ·rename_i q t' l' hp
   cases hw;obtain ⟨e,u,y,cs,h1,h2,h3,h4,h5⟩:=hv;have hg:=I5 h1 hp;rw [h3] at hg; cases hg;obtain ⟨O2,m1,m2,m3⟩:=H4 h h1 h2 h3 h4;exact OJ m3
  ·cases hw
 ·obtain ⟨A,c,_,k⟩:=OK h hv hw
  rcases k with rfl|⟨b,off,O,_,_,_,_,_,k1,k2⟩
  ·exact Nat.zero_le _
  ·omega
 ·cases hw
theorem Wg (c:UInt8):u7 .u8 (c.toNat:Int):=by
 simp only [u7,IntKind.min,IntKind.max,IntKind.signed,IntKind.bits]; have:=c.toNat_lt; simp; omega
theorem YP (y:yY):j6 (i6 H S (.int .u8)) 1 [] (byteCells ⟨y.toArray⟩) (List.map (λ b:UInt8=>(b.toNat:Int)) y:List Int):=by
 simp only [byteCells]
 induction y with
 | nil=>exact ⟨rfl,rfl⟩
 | cons c y ih=>exact ⟨[],[],rfl,⟨rfl,rfl,Wg c⟩,by simpa [Ty.size] using ih⟩
theorem Sc {k:IntKind}:∀ {l:List Int} {O:List Nat} {cs:List Value},j6 (i6 H S (.int k)) 1 O cs l->cs=l.map (Value.int k)
 | [],_,_,⟨_,h⟩=>h
 | n::l,O,cs,⟨O1,O2,_,h1,h2⟩=>by
  have e1:cs.take 1=[.int k n]:=h1.2.1;have e2:=Sc h2;rw [<- List.take_append_drop 1 cs,e1,e2]; rfl
theorem PV:∀ (l:List Int) (r:ByteArray),l.foldl (λ r n=>r.push (UInt8.ofNat n.toNat)) r=⟨r.data++(l.map λ n=>UInt8.ofNat n.toNat).toArray⟩
 | [],r=>by simp
 | n::l,r=>by
  rw [List.foldl_cons,PV l];simp [ByteArray.push]
theorem b4S (hE:D9 E B) (h:RS B S ι s a w) {o:Oper} {T T':TypeId} {x:Operand} (ho:o.op=.convert T' T x):G1 E.P B o a w (n6 E o s):=by
 have he:execOp a.eval o=(do pure (.value (<- convert T' T (a.eval x)))):=by simp [execOp,ho]
 unfold n6;rw [ho];simp only
 split
 ·rename_i k n k0 by0 k' by_ hx lL hT
  obtain ⟨hv,_⟩:=VX.I6 (D0 h hx);have hu:=yD (s9 hE hT);have oZ:=yD (s9 hE lL);refine J3 he h (val:=.int k' (k'.wrap n)) ?_ (VX.int (U6 _ _));rw [hv];simp [convert,w8 hu,w8 oZ,Conv.intToInt]
 ·rename_i y b0 b1 hx lL hT
  split
  ·rename_i d hd
   refine G1.lay (λ v s' hl=>?_);obtain ⟨hv,hlen⟩:=VX.zp (D0 h hx);have oZ:=Y2 (s9 hE lL);obtain ⟨et,k',f1,f2,f3⟩:=H2 (s9 hE hT);have f4:=yD f3;have aU:=run_bytes_of_string (P:=E.P) w T' T et ⟨y.toArray⟩ oZ f1 f4;have bc:(⟨y.toArray⟩:ByteArray).size=List.length y:=rfl;rw [bc] at aU;have kr:=grownCap_ge w (List.length y) 0 et;have fY:=grownCap_le_maxLen w (List.length y) 0 et hlen;generalize grownCap w (List.length y) 0 et=gc at aU kr fY;have cJ:(bytesRow ⟨y.toArray⟩ gc)=(byteCells ⟨y.toArray⟩++List.replicate (gc - List.length y) (Value.int .u8 0)).toArray:=by
    apply Array.ext';simp [bytesRow,byteCells,bc]
   rw [cJ] at aU;have bR:(byteCells ⟨y.toArray⟩).length=List.length y:=by rw [byteCells_length]; rfl
   have iv:(List.map (λ b:UInt8=>(b.toNat:Int)) y).length=List.length y:=List.length_map ..;have hp:F9 [] w (w.drew.alloc (.cells (byteCells ⟨y.toArray⟩++List.replicate (gc - List.length y) (Value.int .u8 0)).toArray et ((byteCells ⟨y.toArray⟩++List.replicate (gc - List.length y) (Value.int .u8 0)).toArray.size,(byteCells ⟨y.toArray⟩++List.replicate (gc - List.length y) (Value.int .u8 0)).toArray.size+1))) :=
    F9.trans F9.drew (F9.push _) (by simp)
   obtain ⟨O2,k1,k2,k3⟩:=ED (w:=w) (S:=S) (t:=.int .u8) (l:=(List.map (λ b:UInt8=>(b.toNat:Int)) y:List Int)) (cap:=gc) h.hs.slt (O:=[]) (cells:=byteCells ⟨y.toArray⟩++List.replicate (gc - List.length y) (Value.int .u8 0)) (by
    show j6 _ 1 [] (List.take ((List.map (λ b:UInt8=>(b.toNat:Int)) y).length*1) _) _;rw [iv,Nat.mul_one,List.take_left' bR];exact YP y) (by show (List.map (λ b:UInt8=>(b.toNat:Int)) y).length<=gc; rw [iv]; exact kr) fY (by simp only [List.length_append,List.length_replicate,bR,Ty.size]; omega) et (by simp)
    (w':=w.drew.alloc (.cells (byteCells ⟨y.toArray⟩++List.replicate (gc - List.length y) (Value.int .u8 0)).toArray et ((byteCells ⟨y.toArray⟩++List.replicate (gc - List.length y) (Value.int .u8 0)).toArray.size,(byteCells ⟨y.toArray⟩++List.replicate (gc - List.length y) (Value.int .u8 0)).toArray.size+1))) rfl (.inr ⟨rfl,by simp⟩)
   have ee:=h.B0 (g:=[]) rfl;refine C4.lay hl (val:=.slice (some ⟨w.heap.size,0,none⟩) (List.length y) gc) (by rw [he,hv]; simp only [Sem.run_bind,aU,Result.andThen_ok,Sem.run_pure]) (by rw [<- iv]; rfl) k1 (ee.Z5 G5.nil hp) (G5.new ee G5.nil hp (by show w.heap.size<(w.heap.push _).size; simp) k2 (k3 List.nodup_nil))
  ·trivial
 ·rename_i b0 b1 _ lL hT
  obtain ⟨et,k',f1,f2,f3⟩:=H2 (s9 hE lL);have f4:=yD f3;have f5:=Y2 (s9 hE hT)
  split
  ·rename_i l fA
   obtain ⟨A,c,e,k⟩:=En h.hs (h.ev x) fA;have hlen:=II h.hs (h.ev x) fA;refine J3 he h (val:=.string ⟨(List.map (λ n:Int=>UInt8.ofNat n.toNat) l).toArray⟩) ?_ (VX.str (by rw [List.length_map]; exact hlen));rw [e];simp only [convert,Sem.run_bind,w8 f1,w8 f5,Result.andThen_ok,w8 f4];have cr:∀ a0:Addr,(loadCells a0 l.length).run E.P w=.ok (l.map (Value.int .u8)).toArray w->(Conv.bytesToString (.slice (some a0) l.length c)).run E.P w=.ok (.string ⟨(List.map (λ n:Int=>UInt8.ofNat n.toNat) l).toArray⟩) w:=by
    intro a0 hl;rw [run_bytesToString w a0 l.length c l hl,PV];simp
   rcases k with rfl|⟨b,off,O',rfl,k1,k2,k3,k4⟩
   ·cases A with
    | none=>simp [Conv.bytesToString,Sem.run_pure]; rfl
    | some A=>exact cr A (run_firstCells_some w 1 0 A 0 c [] (by simp) (by simp))
   ·refine cr _ ?_
    have hc:=Sc k3;have:=run_firstCells_some (P:=E.P) w 1 l.length ⟨b,off,none⟩ l.length c (l.map (Value.int .u8)) (by simp) (λ j u hu=>by
     rw [Addr.I2]; rw [<- hc] at hu; exact N3 hu)
    simpa [Builtin.firstCells] using this
  ·split
   ·rename_i hx
    have eu:[a.eval x]=[Value.slice none 0 0]:=D0 h hx;have eu:a.eval x=Value.slice none 0 0:=by simpa using eu
    refine J3 he h (val:=.string ⟨([]:yY).toArray⟩) ?_ (VX.str (by simp));rw [eu];simp [convert,Sem.run_bind,w8 f1,w8 f5,Result.andThen_ok,w8 f4,Conv.bytesToString,Sem.run_pure];rfl
   ·trivial
 ·trivial
end
end Go.Ex
