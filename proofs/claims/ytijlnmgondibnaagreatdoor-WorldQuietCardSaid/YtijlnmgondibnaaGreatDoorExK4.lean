import Derived.Test.YtijlnmgondibnaaGreatDoorExK3
import Derived.Laws.AppendOwn
import Derived.Laws.BytesString
import Derived.Laws.IdiomStrings
import Derived.Deep.AppendSrc
set_option linter.unusedVariables false
set_option linter.unusedSimpArgs false
set_option linter.unusedSectionVars false
namespace Go.Ex
section
variable {E:Env} {B:E1} {S S':Nat->Prop} {ι:Ix} {s:St} {a:Act} {w:World} {hp:List (Nat×g9)} {H H':Array Go.Obj}
def bxV (g:Option Nat) (i:Nat):AV:=match g with|none=>.ptr i []|some f=>.C3 f (.cons (.ptr i []) .nil)
theorem Jd (t:Ty) (x:t.den) (i:Nat):vn t x i=(.own t x,.at_ i [])\/∃ g u y,(⟨t,x⟩:Sigma Ty.den)=⟨.box true g u,some y⟩/\vn t x i=(.var u y,bxV g i):=by
 unfold vn
 split
 ·exact .inr ⟨none,_,_,rfl,rfl⟩
 ·exact .inr ⟨some _,_,_,rfl,rfl⟩
 ·exact .inl rfl
theorem YD {t:Ty} {x:t.den} {i k:Nat} (h:k≠i):(vn t x i).2.i8 k=false:=by
 rcases Jd t x i with e|⟨g,u,y,_,e⟩
 ·rw [e]; exact xM h
 ·rw [e]
  cases g with
  | none=>exact xM h
  | some f=>show (AV.i8 k (.ptr i []) || false)=false; rw [Bool.or_false]; exact xM h
theorem c0I {t:Ty} {x:t.den} {i:Nat} {O:List Nat} {cs:List Value} (hR:i6 H S t O cs x) (aJ:O.Nodup):∃ ι1,(∀ j,j≠i->E6 ι ι1 j)/\OB H S ι1 i (vn t x i).1/\(∀ b∈l6 ι1 i (vn t x i).1,b∈O) /\
  VX H S ι1 (Ex.put i (vn t x i).1 hp) (vn t x i).2 [p7 t cs]:=by
 rcases Jd t x i with e|⟨g,u,y,e0,e⟩
 ·rw [e]
  exact ⟨ι.U2 i cs O,λ j hj=>ET hj _ _,⟨⟨O,by simp [Ix.U2],by simpa [Ix.U2] using hR⟩,by simpa [Ix.U2] using aJ⟩,by intro b hb; simpa [l6,Ix.U2] using hb,zB hR.length⟩
 ·cases e0
  rw [e];rcases hR with ⟨h0,_⟩|⟨z,b,off,O',h0,rfl,h2,h3,rfl,h5⟩
  ·cases h0
  cases h0;have bc:b<H.size:=by obtain ⟨_,_,⟨_,e,_⟩,_⟩:=h5; exact (Array.getElem?_eq_some_iff.1 e).1
  refine ⟨ι.T7 i (b,off) O',λ j hj=>Ld hj _ _,⟨⟨O',by simp [Ix.T7],by simpa [Ix.T7] using h3⟩,by simpa [Ix.T7] using h5,by simpa [Ix.T7] using aJ⟩,by intro c hc; simpa [l6,Ix.T7] using hc,?_⟩;have hp:VX H S (ι.T7 i (b,off) O') (Ex.put i (.var u y) hp) (.ptr i []) [.pointer (some ⟨b,off,none⟩)]:=by
   refine ⟨.var u y,b,off,by simp [o6],N0,?_,rfl⟩;simp only [Loc,Place,VR,VH,y6,Ix.T7,if_true,bc]
  cases g with
  | none=>exact hp
  | some f=>exact ⟨[.pointer (some ⟨b,off,none⟩)],rfl,_,_,rfl,hp,rfl⟩
theorem KV:∀ {ts:List Ty} {x:DL ts} {d j:Nat} {ι:Ix} {hp:List (Nat×g9)} {l:AV} {cE:List (Nat×g9)} {O:List Nat} {us:List Value},X2 ts x d j hp=some (l,cE)->HS B S ι hp w->K9 w.heap S ts O us x ->
  F2 B S ι hp w O->∃ ι',HS B S ι' cE w/\VX w.heap S ι' cE l us/\(∀ v vs,(∀ k,j<=k->k<j+ts.length->v.i8 (N5 d k)=false)->VX w.heap S ι hp v vs->VX w.heap S ι' cE v vs)
 | [],x,d,j,ι,hp,l,cE,O,us,hl,h,hR,_=>by
  simp only [X2,Option.some.injEq,Prod.mk.injEq] at hl;obtain ⟨rfl,rfl⟩:=hl;exact ⟨ι,h,hR.2,λ v vs _ hv=>hv⟩
 | t::ts,x,d,j,ι,hp,l,cE,O,us,hl,h,⟨v1,us1,O1,O2,cs,e1,e2,e3,h1,h2⟩,hF=>by
  subst e2;have eo:=List.nodup_append.1 hF.1;simp only [X2] at hl;split at hl
  ·rename_i hs
   split at hl
   ·rename_i l' ft ep
    cases hl;have cd:=h1.N1 hs;subst cd;obtain ⟨ι',k1,k2,k3⟩:=KV ep h h2 (hF.sub eo.2.1 (λ b hb=>by simp [hb]));refine ⟨ι',k1,⟨v1,us1,e1,⟨cs,by rw [e3],h1⟩,k2⟩,λ v vs hm hv=>k3 v vs (λ k jr eS=>hm k (by omega) (by simp; omega)) hv⟩
   ·cases hl
  ·split at hl
   ·cases hl
   ·rename_i de
    split at hl
    ·rename_i l' ft ep
     cases hl;have hd:look (N5 d j) hp=none:=de;obtain ⟨ι1,hs,oU,dC,jz⟩:=c0I (hp:=hp) (ι:=ι) (i:=N5 d j) h1 eo.1;have hH:HS B S ι1 (Ex.put (N5 d j) (vn t x.1 (N5 d j)).1 hp) w:=h.add hd hs oU (O:=O1) dC (hF.sub eo.1 (λ b hb=>by simp [hb]));have nj:F2 B S ι1 (Ex.put (N5 d j) (vn t x.1 (N5 d j)).1 hp) w O2:=by
      refine ⟨eo.2.1,λ b hb=>?_⟩;obtain ⟨q1,q2,q3,q4⟩:=hF.2 b (by simp [hb]);refine ⟨q1,q2,q3,λ i e hi=>?_⟩;rw [o6] at hi;by_cases ei:i=N5 d j
      ·subst ei; rw [if_pos rfl] at hi; cases hi
       exact λ eh=>eo.2.2 b (dC b eh) b hb rfl
      ·rw [if_neg ei] at hi
       rw [(hs i ei).l6];exact q4 i e hi
     obtain ⟨ι',k1,k2,k3⟩:=KV ep hH h2 nj;rw [<- e3] at jz;refine ⟨ι',k1,⟨v1,us1,e1,k3 _ _ (λ k jr eS=>?_) jz,k2⟩,λ v vs hm hv=>?_⟩
     ·exact YD (by simp only [N5]; omega)
     ·exact k3 v vs (λ k jr eS=>hm k (by omega) (by simp; omega)) (VX.add hs (hm j (Nat.le_refl _) (by simp)) hv)
    ·cases hl
theorem ES {d:Nat}:∀ {n:Nat} {fr:List (Nat×AV)},xl d n fr=true->∀ k,k<n->vJ (N5 d k) fr=true
 | 0,_,_,k,hk=>by omega
 | n+1,fr,h,k,hk=>by
  simp only [xl,Bool.and_eq_true] at h;by_cases e:k=n
  ·subst e; exact h.1
  ·exact ES h.2 k (by omega)
theorem JR:∀ {ts:List Ty} {x:DL ts} {d j:Nat} {hp:List (Nat×g9)} {l:AV} {cE:List (Nat×g9)},X2 ts x d j hp=some (l,cE)->l.lst=true
 | [],x,d,j,hp,l,cE,h=>by
  simp only [X2,Option.some.injEq,Prod.mk.injEq] at h;rw [<- h.1]; rfl
 | t::ts,x,d,j,hp,l,cE,h=>by
  simp only [X2] at h;split at h
  ·split at h
   ·rename_i l' ft ep
    cases h;show l'.lst=true;exact JR ep
   ·cases h
  ·split at h
   ·cases h
   ·split at h
    ·rename_i l' ft ep
     cases h;show l'.lst=true;exact JR ep
    ·cases h
theorem Yl {l:AV} {us:List Value} (hl:l.lst=true) (h:VX H S ι hp l us):VX H S ι hp l.one [we us]:=by
 cases l<;>simp only [AV.lst] at hl<;>first|cases hl|skip
 ·have:us=[]:=h
  subst this;exact ⟨[],rfl,rfl⟩
 ·rename_i a b
  obtain ⟨v,us',rfl,ha,hb⟩:=h;cases b<;>simp only [AV.lst] at hl<;>first|cases hl|skip
  ·have:us'=[]:=hb
   subst this; exact ha
  ·obtain ⟨v2,us2,rfl,dC,fo⟩:=hb
   exact ⟨v::v2::us2,rfl,v,_,rfl,ha,v2,us2,rfl,dC,fo⟩
theorem VX.app {l m:AV}:∀ {us vs:List Value},l.lst=true->VX H S ι hp l us->VX H S ι hp m vs->VX H S ι hp (l.app m) (us++vs):=by
 induction l<;>intro us vs hl h hm<;>simp only [AV.lst] at hl<;>first|cases hl|skip
 ·have:us=[]:=h
  subst this; exact hm
 ·rename_i a b _ ihb
  obtain ⟨v,us',rfl,ha,hb⟩:=h;exact ⟨v,us'++vs,rfl,ha,ihb hl hb hm⟩
theorem MS (s:St):∀ l:List Operand,(s.J6 l).lst=true
 | []=>rfl
 | _::l=>MS s l
theorem W9:∀ {ks:List PK} {vs:List Value} {y:DL (E4 ks)} {L:List Nat},E4 ks=[]->G0 H S ks vs y L->L=[]
 | [],_,_,_,_,h=>h.2
 | .rw t::ks,_,_,_,e,_=>by cases e
 | .mu t::ks,_,_,_,e,_=>by cases e
 | .v _::ks,_,_,_,e,⟨_,us,_,h⟩=>W9 (ks:=ks) e h
 | .rd _::ks,_,_,_,e,⟨_,us,_,h⟩=>W9 (ks:=ks) e h
 | .C3 _ _::ks,_,_,_,e,⟨_,us,_,h⟩=>W9 (ks:=ks) e h
 | .U9::ks,_,_,_,e,⟨_,us,_,h⟩=>W9 (ks:=ks) e h
 | .rcs _ _::ks,_,_,_,e,⟨_,us,_,h⟩=>W9 (ks:=ks) e h
 | .el _::ks,_,_,_,e,⟨_,us,_,h⟩=>W9 (ks:=ks) e h
 | .own _::ks,_,_,_,e,⟨_,us,_,h⟩=>W9 (ks:=ks) e h
theorem Ax {k:PK} {v:AV} {x:k.den} {g m:List Nat} (h:v.P8 s k=some (x,g,m)) (hk:(match k with|.rw _|.mu _=>false|_=>true)=true):m=[]:=by
 cases k with
 | v t=>simp only [AV.P8] at h; split at h<;>cases h; rfl
 | rd t=>simp only [AV.P8] at h; split at h<;>cases h; rfl
 | C3 f ts =>
  cases v<;>simp only [AV.P8] at h<;>first|cases h|skip
  split at h
  ·split at h<;>cases h; rfl
  ·cases h
 | U9=>simp only [AV.P8] at h; split at h<;>cases h; rfl
 | rcs f n=>simp only [AV.P8] at h; cases h
 | el q=>simp only [AV.P8] at h; cases h
 | own t =>
  simp only [AV.P8] at h;split at h
  ·split at h<;>cases h; rfl
  ·split at h
   ·split at h<;>cases h; rfl
   ·cases h
 | rw t=>cases hk
 | mu t=>cases hk
def TO (H':Array Go.Obj) (S':Nat->Prop) (ι:Ix) (i:Nat) (e':g9) (L:List Nat):Prop :=
 ∃ O',OB H' S' (ι.C6 i O') i e'/\L=l6 (ι.C6 i O') i e'
theorem zz (h:HS B S ι s.hp w):∀ {ks:List PK} {v:AV} {x:DK ks} {vs:List Value} {g m:List Nat} {y:DL (E4 ks)} {s1 s2:St} {L:List Nat},AV.uP s ks v=some (x,g,m)->VX w.heap S ι s.hp v vs->wr ks y m s1=some s2->G0 H' S' ks vs y L->L.Nodup ->
  (m=[]/\s2=s1/\L=[])\/(∃ i e e',m=[i]/\look i s.hp=some e/\AS e e'/\s2=(s1.Y8 i e.Y9).w6 i e'/\TO H' S' ι i e' L)
 | [],v,x,vs,g,m,y,s1,s2,L,hx,hv,hw,ho,aJ=>by
  cases v<;>simp only [AV.uP] at hx<;>first|cases hx|skip
  simp only [wr,Option.some.injEq] at hw;exact .inl ⟨rfl,hw.symm,ho.2⟩
 | k::ks,v,x,vs,g,m,y,s1,s2,L,hx,hv,hw,ho,aJ=>by
  cases v<;>simp only [AV.uP] at hx<;>first|cases hx|skip
  rename_i a b;split at hx
  ·rename_i x1 g1 m1 x2 g2 m2 h1 h2
   cases hx;obtain ⟨v,us,rfl,ha,hb⟩:=hv;cases k with
   | v t =>
    have:=Ax h1 rfl; subst this;obtain ⟨v',us',e,eR⟩:=ho;cases e;exact zz h h2 hb hw eR aJ
   | rd t =>
    have:=Ax h1 rfl; subst this;obtain ⟨v',us',e,eR⟩:=ho;cases e;exact zz h h2 hb hw eR aJ
   | C3 f ts =>
    have:=Ax h1 rfl; subst this;obtain ⟨v',us',e,eR⟩:=ho;cases e;exact zz h h2 hb hw eR aJ
   | U9 =>
    have:=Ax h1 rfl; subst this;obtain ⟨v',us',e,eR⟩:=ho;cases e;exact zz h h2 hb hw eR aJ
   | own t =>
    have:=Ax h1 rfl; subst this;obtain ⟨v',us',e,eR⟩:=ho;cases e;exact zz h h2 hb hw eR aJ
   | rcs f n=>simp only [AV.P8] at h1; cases h1
   | el q=>simp only [AV.P8] at h1; cases h1
   | rw t =>
    simp only [AV.P8] at h1;split at h1
    ·rename_i i
     split at h1
     ·rename_i u z aS
      split at h1
      ·rename_i hu; subst hu; cases h1
       obtain ⟨e,b0,off,q1,q2,q3,q4⟩:=ha;obtain rfl:=wj q1 aS;have hl:(ι.root i).1=b0/\(ι.root i).2=off:=by
        have:=(C4 q3).1;simp only [Place,y6,VR,Option.some.injEq,Prod.mk.injEq] at this;exact this
       obtain ⟨rfl,rfl⟩:=hl;obtain ⟨b1,off1,O,us',L',r1,r2,r3,r4,r5⟩:=ho;have q4:v=.pointer (some ⟨(ι.root i).1,(ι.root i).2,none⟩):=by simpa using q4
       rw [q4] at r1;simp only [List.cons.injEq,Value.pointer.injEq,Option.some.injEq,Addr.mk.injEq,and_true] at r1;obtain ⟨⟨rfl,rfl⟩,rfl⟩:=r1;cases m2 with
       | cons j m2=>simp [wr] at hw
       | nil =>
        simp only [List.append_nil,wr] at hw;split at hw
        ·rename_i kl
         cases hw;have:=W9 kl r5;subst this;rw [List.append_nil] at r4;subst r4;exact .inr ⟨i,_,.var u y.1,rfl,q1,.inl ⟨u,z,y.1,rfl,rfl⟩,rfl,O,⟨⟨O,by simp [Ix.C6],r2⟩,r3,by simpa [Ix.C6] using aJ⟩,by simp [l6,Ix.C6]⟩
        ·cases hw
      ·cases h1
     ·cases h1
    ·cases h1
   | mu t =>
    simp only [AV.P8] at h1;split at h1
    ·rename_i i
     split at h1
     ·rename_i u z aS
      split at h1
      ·rename_i hu; subst hu; cases h1
       obtain ⟨e,u',y',cs,q1,q2,q3,q4,q5⟩:=ha;obtain rfl:=wj q1 aS;have q3:j9 (.d0 true t) z []=some ⟨u',y'⟩:=q3;rw [B9] at q3; cases q3;obtain ⟨⟨O0,_,fy⟩,_⟩:=h.ob i _ q1;have hcs:=U7 q4 fy.length;obtain ⟨cs1,O,us',L',r1,r1',r2,r4,r5⟩:=ho;have q5:v=p7 (.d0 true t) cs:=by simpa using q5
       rw [q5] at r1;have cD:cs.length=1:=by rw [hcs]; exact fy.length
       have cS:cs1=cs:=by
        match cs,cs1,cD,r1' with
        | [c],[c'],_,_ =>
         simp only [List.cons.injEq,p7,Ty.agg] at r1;have:=r1.1;simp at this;rw [this]
       subst cS;cases m2 with
       | cons j m2=>simp [wr] at hw
       | nil =>
        simp only [List.append_nil,wr] at hw;split at hw
        ·rename_i kl
         cases hw;have:=W9 kl r5;subst this;rw [List.append_nil] at r4;subst r4;exact .inr ⟨i,_,.own (.d0 true t) y.1,rfl,q1,.inr (.inl ⟨t,z,y.1,rfl,rfl⟩),rfl,L,⟨⟨L,by simp [Ix.C6],by rw [show (ι.C6 i L).cells i=cs1 from hcs.symm]; exact r2⟩,by simpa [Ix.C6] using aJ⟩,by simp [l6,Ix.C6]⟩
        ·cases hw
      ·cases h1
     ·cases h1
    ·cases h1
  ·cases hx
end
end Go.Ex
namespace Go.Ex
section
variable {E:Env} {B:E1} {S S':Nat->Prop} {ι:Ix} {s:St} {a:Act} {w:World} {hp:List (Nat×g9)} {H H':Array Go.Obj}
theorem RS.share (h:RS B S ι s a w) (hS:∀ b,S b->S' b) (iL:∀ b,S' b->S b\/((B.w0.heap.size<=b\/B.M b)/\b<w.heap.size/\∀ i e,look i s.hp=some e->b∉l6 ι i e)):RS B S' ι s a w:=by
 refine ⟨⟨h.hs.os,h.hs.tape,h.hs.out,h.hs.size,h.hs.frame,?_,λ b hb=>hS b (h.hs.s0 b hb),?_,?_,?_,h.hs.dj,h.hs.pin⟩,h.dfr,h.sz,λ t v hv=>?_⟩
 ·intro b hb; rcases iL b hb with h1|h1; exact h.hs.slt b h1; exact h1.2.1
 ·intro b hb; rcases iL b hb with h1|h1; exact h.hs.s1 b h1; exact .inr h1.1
 ·intro i e hi; exact (h.hs.ob i e hi).s9 (λ _ _=>rfl) hS
 ·intro i e hi b hb
  obtain ⟨q1,q2,q3⟩:=h.hs.bl i e hi b hb;exact ⟨λ hs=>by rcases iL b hs with h1|h1; exact q1 h1; exact h1.2.2 i e hi hb,q2,q3⟩
 ·exact VX.grow (λ _ _=>rfl) hS h.hs.slt h.hs.ob (h.fr t v hv)
theorem KA (hE:C8 E B) (h:RS B S ι s a w) {o:Oper} {c:Call} (ho:o.op=.call c) {f:Operand} (hf:c.callee=.value f) {g:FuncId} {caps:AV} {us:List Value} (he:a.eval f=.func (.func g) #[] us.toArray) (cM:VX w.heap S ι s.hp caps us) :
  E8 E.P B o a w (S3 E g ((s.J6 c.args.toList).app caps) o.dst s):=by
 have aH:=VX.app (MS s _) (h.J6 c.args.toList) cM;generalize qX:(s.J6 c.args.toList).app caps=av at *
 unfold S3
 split
 ·trivial
 ·rename_i ct nN
  have hV:=hE.C5 g ct nN
  split
  ·trivial
  ·rename_i x gs ms hx
   split
   ·trivial
   ·rename_i bB
    split
    ·trivial
    ·rename_i s2 oi
     split
     ·trivial
     ·rename_i fX
      split
      ·rename_i l cE hl
       intro aZ next Q hn
       simp only [Bool.and_eq_true,Bool.or_eq_true] at bB;obtain ⟨⟨⟨⟨jr,eS⟩,sw⟩,sv⟩,_⟩:=bB;obtain ⟨fn,ju,fM,gO⟩:=hV.ent;have mo:=Cj jr
       let S1:Nat->Prop:=λ b=>S b\/M5 ι s.hp (S3.loose ct.ps av) b
       obtain ⟨L,hK,fB,dX,nV⟩:=IT (S1:=S1) h.hs (λ b hb=>.inl hb) hx aH mo (λ b hb=>.inr hb);have gi:∀ b,S1 b->b<w.heap.size:=by
        rintro b (hb|⟨i,e,h1,h2,h3⟩)
        ·exact h.hs.slt b hb
        ·exact (h.hs.bl i e h2 b h3).2.2
       have nW:∀ b∈L,¬ S1 b/\b<w.heap.size:=by
        intro b hb;obtain ⟨i,e,h1,h2,h3⟩:=dX b hb;obtain ⟨q1,q2,q3⟩:=h.hs.bl i e h2 b h3;refine ⟨?_,q3⟩;rintro (hs|⟨j,ej,r1,r2,r3⟩)
        ·exact q1 hs
        ·have bO:i≠j:=by rintro rfl; exact PZ eS i h1 r1
         exact h.hs.dj i j e ej h2 r2 bO b h3 r3
       have iJ:Calls E.P g (c.args.toList.map a.eval++us).toArray w (λ e w'=>∃ rs O Lo S',e=.returned (we rs)/\D3 L w w'/\(∀ b,S1 b->S' b)/\(∀ b,S' b->S1 b\/((w.heap.size<=b\/b∈L)/\b<w'.heap.size)) /\
         K9 w'.heap S' ct.rs O rs (ct.fn x)/\G0 w'.heap S' ct.ps (c.args.toList.map a.eval++us) (ct.out x) Lo/\(O++Lo).Nodup/\(∀ b∈O++Lo,¬ S' b/\(w.heap.size<=b\/b∈L)/\b<w'.heap.size) /\
         (ct.new=true->K9 w'.heap (λ b=>S' b/\w.heap.size<=b) ct.rs O rs (ct.fn x))):=by
        cases rV:ct.new with
        | true=>exact (hV.fresh rV w S1 _ x L gi ((hE.gb.at_ h.hs).sub (λ b hb=>.inl hb)) aZ hK (Ck (Bu hx)) fB nW).mono (λ e w' ⟨rs,O,Lo,S',a1,a2,a3,a4,a5,a6,a7,a8,a9⟩=>⟨rs,O,Lo,S',a1,a2,a3,a4,a5,a6,a7,a8,λ _=>a9⟩)
        | false=>exact (hV.run w S1 _ x L gi ((hE.gb.at_ h.hs).sub (λ b hb=>.inl hb)) aZ hK (Ck (Bu hx)) fB nW).mono (λ e w' ⟨rs,O,Lo,S',a1,a2,a3,a4,a5,a6,a7,a8⟩=>⟨rs,O,Lo,S',a1,a2,a3,a4,a5,a6,a7,a8,λ h=>by cases h⟩)
       unfold Oper.wp;have aP:(execOp a.eval o).run E.P w=.ok (.enter g (c.args.toList.map a.eval++us).toArray) w:=by
        have cF:fn.body.isNone=false:=gO;have hq:(fn.name == "runtime.NumGoroutine")=false:=fM
        simp only [execOp,ho,resolve,hf,he,Deferred.ofValue,Sem.run_bind,Sem.run_pure,Result.andThen,invoke,callFunc,program];simp [Sem.run,ju,hq,cF]
       rw [aP];refine Calls.mono iJ ?_;rintro e w' ⟨rs,O,Lo,S',e1,bj,iq,jg,eH,eI,aJ,hO,dF⟩;subst e1;have aW:=bj.size;have hd:=h.w7 (g:=gs) (by simpa using sw);have pz:∀ i∈gs,i∉ms:=λ i hi hm=>(List.nodup_append.1 mo).2.2 i hi i hm rfl;have main:∀ S2:Nat->Prop,(∀ b,S b->S2 b)->(∀ b,S2 b->S b\/((w.heap.size<=b\/b∈L)/\b<w'.heap.size))->(∀ b∈O++Lo,¬ S2 b)->K9 w'.heap S2 ct.rs O rs (ct.fn x)->G0 w'.heap S2 ct.ps (c.args.toList.map a.eval++us) (ct.out x) Lo->next (a.put o.dst (we rs)) w':=by
        intro S2 rb nd nT lT mb;have ri:∀ {L':List Nat},L'.Nodup->(∀ b∈L',b∈L)->(∀ b∈L',∀ i e,i∈ms->look i s.hp=some e->b∉l6 ι i e)->F2 B S ι (St.w7 gs s).hp w L':=by
         intro L' jO bQ kD;refine F2.w7 h.hs jO (λ b hb=>?_);obtain ⟨i,e,q1,q2,q3⟩:=dX b (bQ b hb);rcases List.mem_append.1 q1 with q1|q1
         ·exact ⟨i,e,q1,q2,q3⟩
         ·exact absurd q3 (kD b hb i e q1 q2)
        have fin:∀ {ι2:Ix},RS B S2 ι2 s2 a w'->F2 B S2 ι2 s2.hp w' O->next (a.put o.dst (we rs)) w':=by
         intro ι2 fp nj;obtain ⟨ι',k1,k2,k3⟩:=KV hl fp.hs lT nj;refine hn S2 ι' w' (we rs) ⟨k1,fp.dfr,fp.sz,λ t v hv=>?_⟩ (Yl (JR hl) k2);exact k3 v _ (λ k jr eS=>Ci (ES fX k (by omega)) hv) (fp.fr t v hv)
        have nh:∀ b∈O,¬ S2 b/\(B.w0.heap.size<=b\/B.M b)/\b<w'.heap.size:=by
         intro b hb;obtain ⟨q1,q2,q3⟩:=hO b (List.mem_append_left _ hb);refine ⟨nT b (List.mem_append_left _ hb),?_,q3⟩;rcases q2 with q2|q2
         ·exact .inl (Nat.le_trans h.hs.size q2)
         ·obtain ⟨i,e,_,r2,r3⟩:=dX b q2
          exact (h.hs.bl i e r2 b r3).2.1
        have re:∀ b∈O,∀ j ej,j∉gs->j∉ms->look j s.hp=some ej->b∉l6 ι j ej:=by
         intro b hb j ej pv iU df iW;obtain ⟨q1,q2,q3⟩:=hO b (List.mem_append_left _ hb);rcases q2 with q2|q2
         ·have:=(h.hs.bl j ej df b iW).2.2; omega
         ·obtain ⟨i,e,r1,r2,r3⟩:=dX b q2
          have bO:i≠j:=by rintro rfl; rcases List.mem_append.1 r1 with r1|r1; exact pv r1; exact iU r1
          exact h.hs.dj i j e ej r2 df bO b r3 iW
        rcases zz h.hs hx aH oi mb (List.nodup_append.1 aJ).2.1 with ⟨rfl,rfl,rfl⟩|⟨i,e,e',rfl,hi,eN,rfl,O',aS,lI⟩
        ·
         have hF:=ri fB (λ b hb=>hb) (by simp);have jC:=hd.uO hF bj;have fp:RS B S2 ι (St.w7 gs s) a w':=jC.share rb (λ b hb=>by
          rcases nd b hb with h1|h1
          ·exact .inl h1
          ·rcases h1.1 with h2|h2
           ·refine .inr ⟨.inl (Nat.le_trans h.hs.size h2),h1.2,λ j ej hj iW=>?_⟩
            have:=(hd.hs.bl j ej hj b iW).2.2; omega
           ·exact .inr ⟨(hF.2 b h2).2.1,h1.2,(hF.2 b h2).2.2.2⟩)
         refine fin fp ⟨(List.nodup_append.1 aJ).1,λ b hb=>?_⟩;obtain ⟨q1,q2,q3⟩:=nh b hb;refine ⟨q1,q2,q3,λ j ej hj=>?_⟩;rw [J0] at hj;split at hj
         ·cases hj
         ·rename_i fP; exact re b hb j ej fP (by simp) hj
        ·
         have sE:i∉gs:=λ cR=>pz i cR (by simp);have cR:look i (St.w7 gs s).hp=some e:=by rw [J0,if_neg sE]; exact hi
         have hF:=ri (L':=L.filter (λ b=>!(l6 ι i e).contains b)) (fB.filter _) (λ b hb=>(List.mem_filter.1 hb).1) (λ b hb j ej hj df=>by
          simp only [List.mem_cons,List.not_mem_nil,or_false] at hj;subst hj;rw [hi] at df; cases df;have:=(List.mem_filter.1 hb).2;simpa using this)
         have fp:=hd.renew cR eN hF bj (λ b hb=>by
          by_cases ke:b∈l6 ι i e
          ·exact .inl ke
          ·exact .inr (List.mem_filter.2 ⟨hb,by simpa using ke⟩)) rb nd aS (λ c hc=>by
           rw [<- lI] at hc;obtain ⟨q1,q2,q3⟩:=hO c (List.mem_append_right _ hc);exact ⟨nT c (List.mem_append_right _ hc),q2,q3⟩)
         refine fin fp ⟨(List.nodup_append.1 aJ).1,λ b hb=>?_⟩;obtain ⟨q1,q2,q3⟩:=nh b hb;refine ⟨q1,q2,q3,λ j ej hj=>?_⟩;simp only [St.w6,o6] at hj;by_cases dE:j=i
         ·subst dE
          rw [if_pos rfl] at hj; cases hj;rw [<- lI];exact λ bN=>(List.nodup_append.1 aJ).2.2 b hb b bN rfl
         ·rw [if_neg dE] at hj
          have hj:look j (St.w7 gs s).hp=some ej:=hj;rw [(W2 dE O').l6];rw [J0] at hj;split at hj
          ·cases hj
          ·rename_i fP; exact re b hb j ej fP (by simpa using dE) hj
       rcases sv with ⟨gJ|gJ,mi⟩|hle
       rotate_left
       ·refine main (λ b=>S b\/(S' b/\w.heap.size<=b)) (λ _ h=>.inl h) (λ b hb=>?_) (λ b hb hs=>?_) ?_ (eI.J3 mi)
        ·rcases hb with hb|⟨hb,fo⟩
         ·exact .inl hb
         ·rcases jg b hb with h1|h1
          ·have:=gi b h1; omega
          ·exact .inr ⟨.inl fo,h1.2⟩
        ·rcases hs with hs|hs
         ·exact (hO b hb).1 (iq b (.inl hs))
         ·exact (hO b hb).1 hs.1
        ·exact (dF gJ).mono (λ b hb=>.inr hb)
       rotate_left
       ·exact main S (λ _ h=>h) (λ b hb=>.inl hb) (λ b hb hs=>(hO b hb).1 (iq b (.inl hs))) (eH.J3 gJ) (eI.J3 mi)
       ·have iR:S3.loose ct.ps av=[]:=by
         revert hle;cases S3.loose ct.ps av with
         | nil=>intro _; rfl
         | cons x y=>intro h; cases h
        refine main S' (λ b hb=>iq b (.inl hb)) (λ b hb=>?_) (λ b hb=>(hO b hb).1) eH eI;rcases jg b hb with (h1|⟨i,e,h1,_⟩)|h1
        ·exact .inl h1
        ·rw [iR] at h1; cases h1
        ·exact .inr h1
      ·trivial
theorem E8.xC {P:Program} {o:Oper} {r:OR} {p:Prop} (h:p->E8 P B o a w r):E8 P B o a w (r.xC p):=by
 cases r with
 | fail y=>trivial
 | ok v s'=>exact λ hp=>h hp.1
 | F3 q v s'=>exact λ hp=>h hp.1 hp.2
theorem Hw (h:RS B S ι s a w) {x:Operand} {g:Nat} {b:Bool} (hx:s.ev x=.val (.fn g) b):a.eval x=fnV g b:=by
 obtain ⟨cs,e,_,rfl⟩:=C2 h hx;simpa [p7,Ty.agg] using e
end
end Go.Ex
namespace Go.Ex
section
variable {E:Env} {B:E1} {S S':Nat->Prop} {ι ι':Ix} {s:St} {a:Act} {w w':World} {hp:List (Nat×g9)} {H H':Array Go.Obj}
end
end Go.Ex
namespace Go.Ex
section
variable {E:Env} {B:E1} {S S':Nat->Prop} {ι:Ix} {s:St} {a:Act} {w:World} {hp:List (Nat×g9)} {H H':Array Go.Obj}
theorem b7Y (hE:C8 E B) (h:RS B S ι s a w) {o:Oper} {T:TypeId} {x y:Operand} (ho:o.op=.index T x y):E8 E.P B o a w (l8 E o s):=by
 have he:execOp a.eval o=(do pure (.value (<- Instr.index T (a.eval x) (a.eval y)))):=by simp [execOp,ho]
 unfold l8;rw [ho];simp only
 split
 ·rename_i l k n hx hy
  split
  ·rename_i hc
   intro hn;obtain ⟨fU,_⟩:=VX.yE (C2 h hx);obtain ⟨dD,_⟩:=VX.H4 (C2 h hy);have hu:=W6 (D0 hE hc);exact I1 he h (val:=.int .u8 ((List.getD l (Int.toNat n) 0).toNat:Int)) (by rw [fU,dD]; exact b4e hu hn) (VX.int (by generalize List.getD l (Int.toNat n) 0=c; have:=c.toNat_lt; unfold r7; simp [IntKind.min,IntKind.max,IntKind.signed,IntKind.bits]; omega))
  ·trivial
 ·rename_i m t z k n hx hy
  split
  ·rename_i hc
   intro hn;obtain ⟨cs,e,hR⟩:=C2 h hx;have e:a.eval x=p7 (.arr m t) cs:=by simpa using e
   obtain ⟨dD,_⟩:=VX.H4 (C2 h hy);obtain ⟨et,k',h1,h2,h3⟩:=xo (D0 hE hc);obtain ⟨b1',b2,b3,b4⟩:=D8 (sz:=t.size) hn;obtain ⟨P1,P2,P3,e1,g1,g2,g3⟩:=j5.split (d:=t.s4) (i:=Int.toNat n) (by rw [hR.1]; exact b1') hR.2;have hP:P2=[]:=(List.append_eq_nil_iff.1 (List.append_eq_nil_iff.1 e1.symm).2).1;rw [hP] at g2;refine I1 he h (val:=p7 t ((cs.drop (Int.toNat n*t.size)).take t.size)) ?_ ⟨_,rfl,g2⟩;have hp:=yd (w:=w) h3 g2;rw [e,dD,p7];have jO:0<=(n:Int)/\(n:Int)<m:=hn;simp [Instr.index,asIntOf,u6 h1,Ty.agg,jO,run_sizeOf h3,hp]
  ·trivial
 ·rename_i i p k n hx hy
  split
  ·rename_i m t z cO
   split
   ·rename_i hc
    obtain ⟨e,u',y',cs,q1,q2,q3,q4,q5⟩:=C2 h hx;have dL:=H3 q1 cO;rw [q3] at dL; cases dL;have q5:a.eval x=p7 (.arr m t) cs:=by simpa using q5
    obtain ⟨dD,_⟩:=VX.H4 (C2 h hy);obtain ⟨O2,m1,m2,hR⟩:=G1 h.hs q1 q2 q3 q4;obtain ⟨et,k',h1,h2,h3⟩:=xo (D0 hE hc);have core:(0<=(n:Int)/\(n:Int)<m)->∃ P2,(∀ c∈P2,c∈O2)/\i6 w.heap S t P2 ((cs.drop (Int.toNat n*t.size)).take t.size) (List.getD z (Int.toNat n) t.s4)/\(Instr.index T (a.eval x) (a.eval y)).run E.P w=.ok (p7 t ((cs.drop (Int.toNat n*t.size)).take t.size)) w:=by
     intro hn;obtain ⟨b1',b2,b3,b4⟩:=D8 (sz:=t.size) hn;obtain ⟨P1,P2,P3,e1,g1,g2,g3⟩:=j5.split (d:=t.s4) (i:=Int.toNat n) (by rw [hR.1]; exact b1') hR.2;refine ⟨P2,λ c hc=>by rw [e1]; simp [hc],g2,?_⟩;have hp:=yd (w:=w) h3 g2;rw [q5,dD,p7];have jO:0<=(n:Int)/\(n:Int)<m:=hn;simp [Instr.index,asIntOf,u6 h1,Ty.agg,jO,run_sizeOf h3,hp]
    split
    ·rename_i hs
     intro hn;obtain ⟨P2,k1,k2,k3⟩:=core hn;have:=k2.N1 hs;subst this;exact I1 he h k3 ⟨_,rfl,k2⟩
    ·intro hn
     obtain ⟨P2,k1,k2,k3⟩:=core hn;refine I1 he h k3 ⟨e,t,List.getD z (Int.toNat n) t.s4,_,q1,W3 q3 q2 ⟨hn,N0⟩,SC q3 B9,?_,rfl⟩;obtain ⟨b0,off0,g1,rfl⟩:=q4;obtain ⟨b1',b2,b3,b4⟩:=D8 (sz:=t.size) hn;refine ⟨b0,off0+Int.toNat n*t.size,Ae q3 g1 (by simp only [x8,y6]),?_⟩;rw [o5,n6 _ _ _ _ (by simp only [Ty.size]; omega)]
   ·trivial
  ·trivial
 ·trivial
where
 b4e {P:Program} {w:World} {T:TypeId} {l:yY} {k:IntKind} {n:Int} (hu:P.underlying T=some .string) (hn:0<=n/\n<(l.length:Int)) :
   (Instr.index T (.string ⟨l.toArray⟩) (.int k n)).run P w=.ok (.int .u8 ((l.getD n.toNat 0).toNat:Int)) w:=by
  have h1:n.toNat<l.length:=by omega
  have h2:(ByteArray.mk l.toArray)[n.toNat]?=some (l.getD n.toNat 0):=by
   have:n.toNat<(ByteArray.mk l.toArray).size:=by simpa [ByteArray.size] using h1
   rw [getElem?_pos (ByteArray.mk l.toArray) n.toNat this];simp [ByteArray.getElem_eq_getElem_data,h1]
  simp [Instr.index,asIntOf,u6 hu,hn.1,h2]
theorem JO {P:Program} (h:RS B S ι s a w) {k:IntKind} {f:Int->Int->Int} {m2:Value->Value->Sem Value} (hf:∀ x y,r7 k x->r7 k y->r7 k (f x y)) (hm:∀ x y,(m2 (.int k x) (.int k y)).run P w=.ok (.int k (f x y)) w) :
  ∀ {l:List Operand} {x:Int} {v:AV} {s':St},r7 k x->foldI s k f x l=.ok v s'->∃ n,v=.val (.int k) n/\s'=s/\r7 k n/\((l.map a.eval).foldlM m2 (.int k x)).run P w=.ok (.int k n) w
 | [],x,v,s',hx,fZ=>by
  simp only [foldI,OR.ok.injEq] at fZ;obtain ⟨rfl,rfl⟩:=fZ;exact ⟨x,rfl,rfl,hx,rfl⟩
 | y::l,x,v,s',hx,fZ=>by
  simp only [foldI] at fZ;split at fZ
  ·rename_i k' b hy
   split at fZ
   ·rename_i hk
    subst hk;obtain ⟨dD,hb⟩:=VX.H4 (C2 h hy);obtain ⟨n,k1,k2,k3,k4⟩:=JO h hf hm (hf x b hx hb) fZ;refine ⟨n,k1,k2,k3,?_⟩;simp only [List.map_cons,List.foldlM_cons,Sem.run_bind,dD,hm,Result.andThen];exact k4
   ·cases fZ
  ·cases fZ
theorem Jt {k:IntKind} {f:Int->Int->Int}:∀ {l:List Operand} {x:Int} {p:Prop} {v:AV} {s':St},foldI s k f x l≠.F3 p v s'
 | [],x,p,v,s',h=>by cases h
 | y::l,x,p,v,s',h=>by
  simp only [foldI] at h;split at h
  ·split at h
   ·exact Jt h
   ·cases h
  ·cases h
theorem MX {P:Program} {T ty:TypeId} {k:Nat} {u:Ty} (hT:o8 P k T u=true) {v:Value} {n:Nat}
  (h:(∃ q t b off cap,u=.d0 q t/\v=.slice b n cap/\off=0)\/(∃ l:yY,u=.str/\v=.string ⟨l.toArray⟩/\n=l.length)\/(∃ t,u=.arr n t)) :
  (Builtin.len_ #[T] ty #[v]).run P w=.ok (.int .i64 n) w:=by
 rcases h with ⟨q,t,b,off,cap,rfl,rfl,_⟩|⟨l,rfl,rfl,rfl⟩|⟨t,rfl⟩
 ·obtain ⟨e,k',h1,_⟩:=F8 hT
  simp [Builtin.len_,u6 h1,goInt]
 ·have h1:=W6 hT
  have e:(ByteArray.mk l.toArray).size=l.length:=rfl;simp [Builtin.len_,u6 h1,goInt,e]
 ·obtain ⟨e,k',h1,_⟩:=xo hT
  simp [Builtin.len_,u6 h1,goInt]
theorem yL (hE:C8 E B) (h:RS B S ι s a w) {o:Oper} {c:Call} (ho:o.op=.call c) (hc:c.callee=.builtin .len) {x:Operand} {T:TypeId} (ha:c.args.toList=[x]) (hT:c.argTypes.toList=[T]) {u:Ty} (hk:I6 E T u=true) {n:Nat}
  (hv:(∃ q t b off cap,u=.d0 q t/\a.eval x=.slice b n cap/\off=0)\/(∃ l:yY,u=.str/\a.eval x=.string ⟨l.toArray⟩/\n=l.length)\/(∃ t,u=.arr n t)) (hn:(n:Int)<=9223372036854775807) :
  y7 E.P B o a w (.val (.int .i64) (n:Int)) s:=by
 have aH:c.args=#[x]:=by rw [<- ha]
 have ew:c.argTypes=#[T]:=by rw [<- hT]
 refine y7.value (val:=.int .i64 n) ?_ h (VX.int (by unfold r7; simp [IntKind.min,IntKind.max,IntKind.signed,IntKind.bits]; omega));have:=MX (w:=w) (ty:=o.type) (D0 hE hk) hv;simp [execOp,ho,resolve,hc,invoke,builtin,aH,ew,this]
theorem Bg {q:Bool} {u:Ty} {O:List Nat} {cs:List Value} {z:(Ty.d0 q u).den} (hR:i6 H S (.d0 q u) O cs z):∃ b cap,p7 (.d0 q u) cs=.slice b (List.length z) cap/\((List.length z:Nat):Int)<=9223372036854775807:=by
 rcases hR with ⟨_,⟨a,c,h1,_⟩,h2⟩|⟨b,off,cap,O',c1,c2,c3,_⟩
 ·subst h2; subst h1; exact ⟨a,c,rfl,by simp⟩
 ·rw [c1]; exact ⟨_,cap,rfl,by have:=c3.1; unfold maxLen at this; omega⟩
theorem Nc {u:Ty} {O:List Nat} {cs:List Value} {z:(Ty.y8 u).den} (hR:i6 H S (.y8 u) O cs z):∃ b cap,p7 (.y8 u) cs=.slice b (List.length z.2.1) cap/\((List.length z.2.1:Nat):Int)<=9223372036854775807:=by
 obtain ⟨n,l,m⟩:=z
 match n,hR with
 | 0,hR=>exact Bg (q:=false) hR
 | 1,hR=>exact Bg (q:=true) hR
 | n+2,⟨b,off,O',c1,c2,_⟩ =>
  subst c1;exact ⟨_,_,rfl,by have:=c2.1; unfold maxLen at this; show ((List.length l:Nat):Int)<=_; omega⟩
theorem Qe (off:Nat):∀ (vs:List Value) (k:Nat) (cells:Array Value),off+k+vs.length<=cells.size ->
  ((vs.zipIdx k).foldl (λ cs (q:Value×Nat)=>cs.setIfInBounds (off+q.2) q.1) cells)=(over cells.toList (off+k) vs).toArray
 | [],k,cells,_=>by simp [over]
 | v::vs,k,cells,h=>by
  simp only [List.length_cons] at h;simp only [List.zipIdx_cons,List.foldl_cons];rw [Qe off vs (k+1) _ (by simp; omega)];congr 1;have e:=list_seg_step cells.toList (off+k) v vs (by simp; omega);simpa [over,Array.toList_setIfInBounds,Nat.add_assoc] using e
theorem WY {place:Nat->Option (Nat×Nat)} {cells:List Value} {i off size:Nat} {v:Value} {vs:List Value} {rest:List (Nat×Value)} (hp:place i=some (off,size)) (hv:v.cells=vs.toArray) (hl:vs.length=size) (hb:off+size<=cells.length) :
  Instr.fill place cells.toArray ((i,v)::rest)=Instr.fill place (over cells off vs).toArray rest:=by
 have hz:=Qe off vs 0 cells.toArray (by simp; omega);simp only [Instr.fill,hp,hv];have h1:¬ ((vs.toArray.size≠size)\/(off+vs.toArray.size > cells.toArray.size)):=by simp [hl]; omega
 simp only [Bool.or_eq_true,decide_eq_true_eq];rw [if_neg (by simpa using h1)];congr 1;simp only [Nat.add_zero] at hz;rw [<- hz,<- Array.foldl_toList];simp
theorem Yk {t:Ty} {x:t.den} {O:List Nat} {cs:List Value} (hR:i6 H S t O cs x) (hS:∀ b,S b->b<H.size) (hO:∀ b∈O,¬ S b) (aJ:O.Nodup) {p:List Step} (aM:w9 t x p) {u0:Ty} {y0:u0.den} (hg:j9 t x p=some ⟨u0,y0⟩) {off:Nat}
  (hn:∀ (G:Array Go.Obj) (b o:Nat),x8 G t p b o=some (b,o+off)) {u:Ty} {z:u.den} {O2:List Nat} {cs':List Value} (hz:i6 H S u O2 cs' z) (cW:O2.Nodup) (mO:∀ b∈O2,b∉O) {r:Sigma Ty.den} (aK:s8 t x p u z=some r) :
  ∃ O',i6 H S r.1 O' (over cs off cs') r.2/\O'.Nodup/\(∀ b∈O',b∈O\/b∈O2)/\r.1.sh=t.sh/\off+u0.size<=cs.length/\u.size=u0.size:=by
 have oq:=BZ hg aK;have jc:=F4 oq
 let G:Array Go.Obj:=H.push (.cells cs.toArray 0)
 let G':Array Go.Obj:=H.push (.cells (over cs off cs').toArray 0)
 have hold:∀ {c},c<H.size->G[c]?=H[c]?:=λ h=>BN h;have iy:∀ {c},c<H.size->G'[c]?=H[c]?:=λ h=>BN h;have dJ:w4 G H.size=cs:=by simp [G,w4]
 have kb:w4 G' H.size=over cs off cs':=by simp [G',w4]
 have nR:∀ c∈O,c<H.size:=λ c hc=>hR.wU c hc;have ni:∀ c∈O2,c<H.size:=λ c hc=>hz.wU c hc;have bD:d9 G H.size 0 t.size=cs:=by
  simp only [d9,dJ,List.drop_zero];exact List.take_of_length_le (by rw [hR.length]; exact Nat.le_refl _)
 have tv:i6 G S t O (d9 G H.size 0 t.size) x:=by
  rw [bD]; exact hR.s9 (λ c hc=>hold (hc.elim (nR c) (hS c))) (λ _ h=>h)
 have qV:0+t.size<=(w4 G H.size).length:=by rw [dJ,hR.length]; omega
 obtain ⟨O1,O3,b',ar,e1,e2,e3,e4,e5,e6⟩:=focus (b:=H.size) (off:=0) tv qV aM hg
 rw [hn] at e3; cases e3;rw [dJ] at e5;have hle:off+u0.size<=cs.length:=by simpa using e5
 have cD:cs'.length=u0.size:=by rw [hz.length,jc]
 have nF:(over cs off cs').length=cs.length:=SH (by omega);have gT:¬ S H.size:=λ h=>Nat.lt_irrefl _ (hS _ h);have hc:V6 G G' H.size (0+off) u0.size:=by
  refine ⟨⟨cs.toArray,(over cs off cs').toArray,0,⟨_,⟨Ea,.inl rfl⟩,Ea⟩,by simp [nF],?_⟩,?_⟩
  ·intro j hj
   exact Pp (by omega) (by omega)
  ·intro c dH ic
   have:c<H.size:=by simp [G] at ic; omega
   rw [iy this,hold this]
 have ie:i6 G' S u O2 (d9 G' H.size (0+off) u.size) z:=by
  have:d9 G' H.size (0+off) u.size=cs':=by
   simp only [d9,kb,Nat.zero_add];rw [<- hz.length]; exact NY (by omega)
  rw [this];exact hz.s9 (λ c hc=>iy (hc.elim (ni c) (hS c))) (λ _ h=>h)
 have cp:=(e1.nodup_iff).1 aJ;have jm:∀ c∈O1,c∈O:=λ c hc=>e1.mem_iff.2 (by simp [hc]);obtain ⟨O4,f1,f2,f3⟩:=Bi e2 hg (hn G H.size 0) qV (by simp [G]) (List.nodup_append.1 cp).1 (λ hm=>Nat.lt_irrefl _ (nR _ (jm _ hm))) (λ c hc=>⟨hO c (jm c hc),by have:=nR c (jm c hc); simp [G]; omega⟩) gT
  (λ c hc=>by have:=hS c hc; simp [G]; omega) (λ _ h=>h) hc ie aK
 have bQ:∀ b∈O4,b∈O\/b∈O2:=λ b hb=>(List.mem_append.1 (f1.mem_iff.1 hb)).imp (jm b) id;refine ⟨O4,?_,(f1.nodup_iff).2 (List.nodup_append.2 ⟨(List.nodup_append.1 cp).1,cW,λ c h1 d h2 e=>mO d h2 (e▸jm c h1)⟩),bQ,f3,hle,jc⟩;have:d9 G' H.size 0 r.1.size=over cs off cs':=by
  simp only [d9,kb,List.drop_zero];exact List.take_of_length_le (by rw [nF,hR.length,F4 f3]; omega)
 rw [this] at f2;exact f2.s9 (λ c hc=>(iy (hc.elim (λ h=>(bQ c h).elim (nR c) (ni c)) (hS c))).symm) (λ _ h=>h)
def zj (t:Ty) (i:Nat):Nat :=
 match t with
 | .arr _ t=>i*t.size
 | t=>R3 t i
theorem Yg {t:Ty} {x:t.den} {i:Nat} (hi:wh t i=true) {r:Sigma Ty.den} (hg:j9 t x (W8 t i)=some r):w9 t x (W8 t i)/\∀ (G:Array Go.Obj) (b o:Nat),x8 G t (W8 t i) b o=some (b,o+zj t i):=by
 obtain ⟨u,y⟩:=r;cases t with
 | arr n t =>
  have:i<n:=by simpa [wh,Nat.blt_eq] using hi
  refine ⟨⟨by omega,N0⟩,λ G b o=>?_⟩;simp [W8,x8,zj,y6]
 | _=>exact ⟨xU hg,λ G b o=>xX hg⟩
theorem EF (h:RS B S ι s a w) {place:Nat->Option (Nat×Nat)}:∀ {parts:List (Nat×Operand)} {t:Ty} {x:t.den} {O:List Nat} {cs:List Value} {r:Sigma Ty.den} {G g:List Nat},i6 w.heap S t O cs x->O.Nodup->(∀ b∈O,M5 ι s.hp G b)->(G++g).Nodup->parts.all (λ q=>wh t q.1)=true ->
  (∀ (t':Ty) (x':t'.den) (i:Nat) (u:Ty) (y:u.den),t'.sh=t.sh->j9 t' x' (W8 t' i)=some ⟨u,y⟩->wh t' i=true->place i=some (zj t' i,u.size))->S5 s ⟨t,x⟩ parts=some (r,g) ->
  ∃ cs' O',Instr.fill place cs.toArray (parts.map λ q=>(q.1,a.eval q.2))=some cs'.toArray/\i6 w.heap S r.1 O' cs' r.2/\O'.Nodup/\(∀ b∈O',M5 ι s.hp (G++g) b)/\r.1.sh=t.sh
 | [],t,x,O,cs,r,G,g,hR,aJ,hO,_,_,_,hb=>by
  simp only [S5,Option.some.injEq,Prod.mk.injEq] at hb;obtain ⟨rfl,rfl⟩:=hb;exact ⟨cs,O,rfl,hR,aJ,λ b hb=>(hO b hb).mono (by simp),rfl⟩
 | (i,v)::parts,t,x,O,cs,r,G,g,hR,aJ,hO,hG,bt,hp,hb=>by
  simp only [List.all_cons,Bool.and_eq_true] at bt;simp only [S5] at hb;split at hb
  ·cases hb
  ·rename_i u0 y0 hg
   obtain ⟨aM,jj⟩:=Yg bt.1 hg;have kx:=hp t x i u0 y0 rfl hg bt.1;have nT:∀ b∈O,¬ S b:=λ b hb=>by obtain ⟨j,e,_,q2,q3⟩:=hO b hb; exact (h.hs.bl j e q2 b q3).1
   have one:∀ {u:Ty} {z:u.den} {O2:List Nat} {cs1:List Value} {r1:Sigma Ty.den} {g1 g2:List Nat},i6 w.heap S u O2 cs1 z->O2.Nodup->(∀ b∈O2,M5 ι s.hp g1 b)->a.eval v=p7 u cs1->s8 t x (W8 t i) u z=some r1->S5 s r1 parts=some (r,g2)->g=g1++g2 ->
     ∃ cs' O',Instr.fill place cs.toArray (((i,v)::parts).map λ q=>(q.1,a.eval q.2))=some cs'.toArray/\i6 w.heap S r.1 O' cs' r.2/\O'.Nodup/\(∀ b∈O',M5 ι s.hp (G++g) b)/\r.1.sh=t.sh:=by
    intro u z O2 cs1 r1 g1 g2 hz cW eP da aK hb sK;subst sK;have mO:∀ b∈O2,b∉O:=by
     intro b fo dC;obtain ⟨i1,e1,q1,q2,q3⟩:=eP b fo;obtain ⟨i2,e2,r1',r2,r3⟩:=hO b dC;have bE:i1≠i2:=by rintro rfl; exact (List.nodup_append.1 hG).2.2 i1 r1' i1 (by simp [q1]) rfl
     exact h.hs.dj i1 i2 e1 e2 q2 r2 bE b q3 r3
    obtain ⟨O',k1,TF,TE,k2,k3,k4⟩:=Yk hR h.hs.slt nT aJ aM hg jj hz cW mO aK;obtain ⟨t1,x1⟩:=r1;have bZ:t1.sh=t.sh:=k2;have cZ:∀ j,wh t1 j=wh t j:=by
     intro j;cases t<;>cases t1<;>simp only [Ty.sh] at bZ<;>first|cases bZ|rfl|skip
     all_goals first|rfl|(simp only [Ty.arr.injEq] at bZ; simp only [wh,bZ.1])
    obtain ⟨cs',O4,q1,q2,q3,q4,q5⟩:=EF h (place:=place) (parts:=parts) (G:=G++g1) (g:=g2) k1 TF (λ b hb=>(TE b hb).elim (λ hb=>(hO b hb).mono (by simp; intro i hi; exact .inl hi)) (λ hb=>(eP b hb).mono (by simp; intro i hi; exact .inr hi))) (by rw [List.append_assoc]; exact hG) (by simp only [cZ]; exact bt.2) (λ t' x' j u' y' e1 e2 e3=>hp t' x' j u' y' (e1.trans bZ) e2 e3) hb;refine ⟨cs',O4,?_,q2,q3,by rw [<- List.append_assoc]; exact q4,q5.trans bZ⟩;simp only [List.map_cons];rw [WY (vs:=cs1) kx (by rw [da]; exact hz.cells) (by rw [hz.length,k4]) k3];exact q1
   split at hb
   ·rename_i hv
    have fE:[a.eval v]=[Value.slice none 0 0]:=C2 h hv;split at hb
    ·rename_i o' u' _
     split at hb
     ·rename_i r1 aK
      exact one (u:=.d0 o' u') (z:=([]:List u'.den)) (cs1:=[.slice none 0 0]) (g1:=[]) (.inl ⟨rfl,⟨none,0,rfl,λ _=>rfl⟩,rfl⟩) List.nodup_nil (by simp) (by simpa [p7,Ty.agg] using fE) aK hb rfl
     ·cases hb
    ·cases hb
   ·split at hb
    ·rename_i u z g1 cP
     obtain ⟨O2,cs1,e,hz,cW,eP⟩:=El h.hs cP (h.ev v);split at hb
     ·rename_i r1 aK
      split at hb
      ·rename_i r2 g2 fo
       simp only [Option.some.injEq,Prod.mk.injEq] at hb;obtain ⟨rfl,rfl⟩:=hb;exact one hz cW eP e aK fo rfl
      ·cases hb
     ·cases hb
    ·cases hb
def plc:Ty->Nat->List (Nat×Nat)
 | .pair a b,off=>(off,a.size)::plc b (off+a.size)
 | _,_=>[]
theorem Wk:∀ {t:Ty} {x:t.den} {n:Nat} {u:Ty} {z:u.den} {off:Nat},j9 t x [.l7 n]=some ⟨u,z⟩->(plc t off)[n]?=some (off+R3 t n,u.size):=by
 intro t
 induction t with
 | pair a c _ ihc =>
  intro x n u z off h
  match n,h with
  | 0,h =>
   have h:some (⟨a,x.1⟩:Sigma Ty.den)=some ⟨u,z⟩:=by rw [<- h]; simp only [j9]
   cases h;simp [plc,R3]
  | n+1,h =>
   have:=ihc (x:=x.2) (off:=off+a.size) h;simp only [plc,R3,List.getElem?_cons_succ,this];simp [Nat.add_assoc]
 | d0 o t _=>intro x n u z off h; cases o<;>simp [j9] at h
 | _=>intro x n u z off h; simp [j9] at h
theorem NN {P:Program} {k:Nat}:∀ {fs:List Field} {off:Nat} {t:Ty},m0 (o8 P k) fs off t=true->(fs.mapM λ f=>Prod.mk f.offset <$> sizeOf f.type).run P w=.ok (plc t off) w
 | [],off,t,h=>by
  cases t<;>simp [m0] at h;rfl
 | f::fs,off,t,h=>by
  cases t<;>simp only [m0] at h<;>first|cases h|skip
  simp only [Bool.and_eq_true] at h;obtain ⟨⟨⟨⟨h1,_⟩,h3⟩,_⟩,h4⟩:=h;have ih:=NN h4;simp [List.mapM_cons,run_sizeOf h3,ih,plc,Nat.eq_of_beq_eq_true h1]
theorem Um:∀ {t u:Ty} {off:Nat},u.sh=t.sh->plc u off=plc t off:=by
 intro t
 induction t with
 | pair a c _ ihc =>
  intro u off h;cases u<;>simp only [Ty.sh] at h<;>try cases h
  simp only [Ty.pair.injEq] at h;simp only [plc,F4 h.1,ihc h.2]
 | _ =>
  intro u off h;cases u<;>simp only [Ty.sh] at h<;>try cases h
  all_goals rfl
theorem Lf {P:Program} {k:Nat} {T:TypeId} {t:Ty} (h:o8 P k T t=true) (ht:t.agg=true) (hn:∀ n u,t≠.arr n u):∃ fs k',P.underlying T=some (.struct fs)/\m0 (o8 P k') fs.toList 0 t=true:=by
 cases k with
 | zero=>simp [o8] at h
 | succ k =>
  obtain ⟨d,h1,h2⟩:=P9 h;simp only [o8,Bool.and_eq_true,h1] at h;obtain ⟨_,h⟩:=h;cases t with
  | pair a c=>cases d<;>first|(exact (Bool.false_ne_true h).elim)|(exact ⟨_,k,h1,h⟩)
  | unit=>cases d<;>first|(exact (Bool.false_ne_true h).elim)|(exact ⟨_,k,h1,h⟩)
  | arr n u=>exact absurd rfl (hn n u)
  | _=>cases ht
end
end Go.Ex
namespace Go.Ex
section
variable {E:Env} {B:E1} {S S':Nat->Prop} {ι:Ix} {s:St} {a:Act} {w:World} {hp:List (Nat×g9)} {H H':Array Go.Obj}
theorem RT (z:List Value):∀ n:Nat,(List.range (n*z.length)).map (λ i=>z.getD (i % z.length) default)=(List.replicate n z).flatten
 | 0=>by simp
 | n+1=>by
  rw [Nat.succ_mul,Nat.add_comm,List.range_add,List.map_append,List.replicate_succ,List.flatten_cons,<- RT z n];congr 1
  ·apply List.ext_getElem
   ·simp
   ·intro i h1 h2
    simp only [List.length_map,List.length_range] at h1;simp [Nat.mod_eq_of_lt h1,List.getElem?_eq_getElem h1]
  ·simp [List.map_map,Function.comp_def]
theorem IK (z:List Value) (n:Nat):((Array.range (n*z.length)).map (z.toArray[· % z.toArray.size]!))=(List.replicate n z).flatten.toArray:=by
 rw [<- RT];apply Array.ext';simp [Array.toList_range,List.getD_eq_getElem?_getD]
theorem EU (z:List Value) (n:Nat):Builtin.zeroCells z.toArray n=(List.replicate n z).flatten.toArray:=IK z n
theorem j5.GN {t:Ty}:∀ n:Nat,j5 (i6 H S t) t.size [] (List.replicate n (zc t)).flatten (List.replicate n t.s4)
 | 0=>⟨rfl,rfl⟩
 | n+1=>⟨[],[],rfl,by
   rw [List.replicate_succ,List.flatten_cons,List.take_left' (Q5 t)]; exact i6.s4 t,by
   rw [List.replicate_succ,List.flatten_cons,List.drop_left' (Q5 t)]; exact j5.GN n⟩
theorem y7.lay {P:Program} {o:Oper} {d:Nat} {g:List Nat} {t:Ty} {x:t.den} {v:AV} {s':St} (hl:s.lay d g t x=.ok v s') {w':World} {val:Value} (hr:(execOp a.eval o).run P w=.ok (.value val) w')
  {O:List Nat} {cs:List Value} (hv:val=p7 t cs) (hR:i6 w'.heap S t O cs x) (hs:RS B S ι (St.w7 g s) a w') (hF:F2 B S ι (St.w7 g s).hp w' O):y7 P B o a w v s':=by
 unfold St.lay at hl;split at hl
 ·cases hl
 ·split at hl
  ·rename_i hf
   cases hl;intro next Q hn
   unfold Oper.wp;rw [hr];exact hn S _ w' val (hs.hold hf hR hF) (by rw [hv]; exact zB hR.length)
  ·cases hl
theorem Ic {d:Nat} {g:List Nat} {t:Ty} {x:t.den} {v:AV} {s':St} (hl:s.lay d g t x=.ok v s'):g.Nodup/\(g.all λ i=>!pinned i)=true:=by
 unfold St.lay at hl;split at hl
 ·cases hl
 ·rename_i hc
  simp only [Bool.and_eq_true] at hc;exact ⟨Cj hc.1.1,hc.1.2⟩
theorem wx {d:Nat} {g:List Nat} {t:Ty} {x:t.den} {p:Prop} {v:AV} {s':St}:s.lay d g t x≠.F3 p v s':=by
 unfold St.lay
 split
 ·simp
 ·split<;>simp
theorem E8.Ii {P:Program} {o:Oper} {d:Nat} {g:List Nat} {t:Ty} {x:t.den} {p:Prop} (h:∀ v s',s.lay d g t x=.ok v s'->p->y7 P B o a w v s'):E8 P B o a w ((s.lay d g t x).f7 p):=by
 cases hl:s.lay d g t x with
 | fail y=>trivial
 | ok v s'=>exact λ hp=>h v s' hl hp
 | F3 q v s'=>exact absurd hl wx
theorem E8.lay {P:Program} {o:Oper} {d:Nat} {g:List Nat} {t:Ty} {x:t.den} (h:∀ v s',s.lay d g t x=.ok v s'->y7 P B o a w v s'):E8 P B o a w (s.lay d g t x):=by
 cases hl:s.lay d g t x with
 | fail y=>trivial
 | ok v s'=>exact h v s' hl
 | F3 q v s'=>exact absurd hl wx
theorem Ec {t:Ty} {l:List t.den} {O:List Nat} {cells:List Value} (hS:∀ c,S c->c<w.heap.size) (hR:j5 (i6 w.heap S t) t.size O (cells.take (l.length*t.size)) l) {cap:Nat} (hc:l.length<=cap) (hm:cap<=maxLen)
  (aW:cap*t.size<=cells.length) (T:TypeId) (hO:∀ c∈O,c<w.heap.size) {w':World} {fz:Nat×Nat} (hh:w'.heap=w.heap.push (.cells cells.toArray T fz)) (hz:fz=(0,0)\/(t.isB=true/\cells.length<=fz.1)) :
  ∃ O',i6 w'.heap S (.d0 true t) O' [.slice (some ⟨w.heap.size,0,none⟩) l.length cap] l/\(∀ b∈O',b=w.heap.size\/b∈O)/\(O.Nodup->O'.Nodup):=by
 have dF:w'.heap[w.heap.size]?=some (.cells cells.toArray T fz):=by rw [hh]; exact Ea
 have hold:∀ {b},b<w.heap.size->w'.heap[b]?=w.heap[b]?:=λ hb=>by rw [hh]; exact BN hb
 have dJ:w4 w'.heap w.heap.size=cells:=by simp only [w4,dF]
 have hle:l.length*t.size<=cap*t.size:=Nat.mul_le_mul_right _ hc;by_cases h0:cap=0
 ·have iS:l.length=0:=by omega
  have hl:l=[]:=List.length_eq_zero_iff.1 iS;exact ⟨[],.inl ⟨rfl,⟨some ⟨w.heap.size,0,none⟩,0,by rw [iS,h0],λ _=>rfl⟩,hl⟩,by simp,λ _=>List.nodup_nil⟩
 ·refine ⟨w.heap.size::O,.inr ⟨w.heap.size,0,cap,O,rfl,hc,⟨hm,λ _=>by omega⟩,?_,?_,rfl,cells.toArray,T,⟨fz,dF,by simpa using hz⟩,by simpa using aW⟩,λ b hb=>List.mem_cons.1 hb,λ hn=>List.nodup_cons.2 ⟨λ hb=>Nat.lt_irrefl _ (hO _ hb),hn⟩⟩
  ·rw [dJ,Nat.zero_add]; exact Nat.le_trans hle aW
  ·have:d9 w'.heap w.heap.size 0 (List.length l*t.size)=cells.take (l.length*t.size):=by simp only [d9,dJ,List.drop_zero]
   rw [this];exact j5.mono (L:=O) (λ _ h=>h) (λ O1 cs y hL hr=>hr.s9 (λ b hb=>hold (hb.elim (λ hb=>hO b (hL b hb)) (hS b))) (λ _ h=>h)) hR
theorem Iq {t:Ty} {l:List t.den} {O:List Nat} {cells:List Value} (hS:∀ c,S c->c<w.heap.size) (hR:j5 (i6 w.heap S t) t.size O (cells.take (l.length*t.size)) l) {cap:Nat} (hc:l.length<=cap) (hm:cap<=maxLen)
  (aW:cap*t.size<=cells.length) (T:TypeId) (hO:∀ c∈O,c<w.heap.size) :
  ∃ O',i6 (G6 w (.cells cells.toArray T)).heap S (.d0 true t) O' [.slice (some ⟨w.heap.size,0,none⟩) l.length cap] l/\(∀ b∈O',b=w.heap.size\/b∈O)/\(O.Nodup->O'.Nodup) :=
 Ec hS hR hc hm aW T hO (w':=G6 w (.cells cells.toArray T)) rfl (.inl rfl)
theorem F2.new {O O':List Nat} (h:RS B S ι s a w) (hF:F2 B S ι s.hp w O) {w':World} (k:D3 [] w w') (bc:w.heap.size<w'.heap.size) (hs:∀ b∈O',b=w.heap.size\/b∈O) (hn:O'.Nodup):F2 B S ι s.hp w' O':=by
 refine ⟨hn,λ b hb=>?_⟩;rcases hs b hb with rfl|hb
 ·refine ⟨λ hS=>Nat.lt_irrefl _ (h.hs.slt _ hS),.inl h.hs.size,bc,λ i e hi ke=>Nat.lt_irrefl _ (h.hs.bl i e hi _ ke).2.2⟩
 ·exact (hF.uO k).2 b hb
theorem Tn {n:Nat} {t:Ty} (t':Ty) (x':t'.den) (i:Nat) (u':Ty) (y':u'.den) (e1:t'.sh=(Ty.arr n t).sh) (e2:j9 t' x' (W8 t' i)=some ⟨u',y'⟩) (_:wh t' i=true):some (i*t.size,t.size)=some (zj t' i,u'.size):=by
 cases t'<;>simp only [Ty.sh] at e1<;>first|cases e1|skip
 rename_i n' t'' _;simp only [Ty.arr.injEq] at e1;have:t''=u':=by
  simp only [W8,j9,B9,Option.some.injEq] at e2;exact congrArg Sigma.fst e2
 subst this;simp only [zj,F4 e1.2]
theorem b8x (hE:C8 E B) (h:RS B S ι s a w) {o:Oper} {T:TypeId} {parts:Array (Nat×Operand)} (ho:o.op=.build T parts):E8 E.P B o a w (l8 E o s):=by
 have he:execOp a.eval o=(do pure (.value (<- Instr.build T (parts.map λ q=>(q.1,a.eval q.2))))):=by simp [execOp,ho]
 unfold l8;rw [ho];simp only
 split
 ·rename_i ti hT
  split
  ·rename_i bt
   simp only [Bool.and_eq_true] at bt;have core:∀ {u:Ty} {y:u.den} {g:List Nat},S5 s ⟨ti.ty,ti.ty.s4⟩ parts.toList=some (⟨u,y⟩,g)->g.Nodup->∃ cs' O',(Instr.build T (parts.map λ q=>(q.1,a.eval q.2))).run E.P w=.ok (p7 u cs') w/\i6 w.heap S u O' cs' y/\O'.Nodup/\∀ b∈O',M5 ι s.hp g b:=by
    intro u y g hb hY;have db:=p9 hE hT;have hz:=BK (w:=w) db;have fy:i6 w.heap S ti.ty [] (zc ti.ty) ti.ty.s4:=i6.s4 _;have kj:(p7 ti.ty (zc ti.ty)).cells=(zc ti.ty).toArray:=fy.cells;have lY:(parts.map λ q=>(q.1,a.eval q.2)).toList=parts.toList.map λ q=>(q.1,a.eval q.2):=by simp
    by_cases eM:∃ n t,ti.ty=.arr n t
    ·obtain ⟨n,t,e0⟩:=eM
     rw [e0] at db hb fy bt hz kj;obtain ⟨et,k',h1,h2,h3⟩:=xo db;obtain ⟨cs',O',q1,q2,q3,q4,q5⟩:=EF h (place:=λ i=>some (i*t.size,t.size)) (G:=[]) fy List.nodup_nil (by simp) (by simpa using hY) bt.2 (λ t' x' i u' y' e1 e2 e3=>Tn t' x' i u' y' e1 e2 e3) hb;refine ⟨cs',O',?_,q2,q3,q4⟩;have dn:u.agg=true:=by rw [Dm q5]; rfl
     simp only [Instr.build,Sem.run_bind,hz,Result.andThen,u6 h1,kj,lY,run_sizeOf h3,q1];simp [p7,dn]
    ·have hn:∀ n u,ti.ty≠.arr n u:=λ n u e=>eM ⟨n,u,e⟩
     obtain ⟨fs,k',h1,h2⟩:=Lf db bt.1 hn;have bW:=NN (w:=w) h2;obtain ⟨cs',O',q1,q2,q3,q4,q5⟩:=EF h (place:=λ i=>(plc ti.ty 0)[i]?) (G:=[]) fy List.nodup_nil (by simp) (by simpa using hY) bt.2 (by
      intro t' x' i u' y' e1 e2 e3;have jO:∀ n u,t'≠.arr n u:=by
       rintro n u rfl;cases ht:ti.ty<;>rw [ht] at e1<;>simp only [Ty.sh] at e1<;>first|cases e1|skip
       exact eM ⟨_,_,ht⟩
      have e2':j9 t' x' [.l7 i]=some ⟨u',y'⟩:=by
       cases t'<;>first|exact e2|(exact absurd rfl (jO _ _))
      have:=Wk (off:=0) e2';rw [Um e1] at this;have e4:zj t' i=R3 t' i:=by cases t'<;>first|rfl|(exact absurd rfl (jO _ _))
      rw [e4];simpa using this) hb
     refine ⟨cs',O',?_,q2,q3,q4⟩;have dn:u.agg=true:=by rw [Dm q5]; exact bt.1
     simp only [Instr.build,Sem.run_bind,hz,Result.andThen,u6 h1,kj,lY];simp [Array.mapM_eq_mapM_toList,bW,q1,p7,dn]
   split
   ·rename_i u y hb
    obtain ⟨cs',O',q1,q2,q3,q4⟩:=core hb List.nodup_nil;have:O'=[]:=List.eq_nil_iff_forall_not_mem.2 (λ b hb=>by obtain ⟨i,e,hi,_⟩:=q4 b hb; cases hi);subst this;exact I1 he h q1 ⟨cs',rfl,q2⟩
   ·rename_i u y g d hd hb dA
    refine E8.lay (λ v s' hl=>?_);obtain ⟨g1,g2⟩:=Ic hl;obtain ⟨cs',O',q1,q2,q3,q4⟩:=core hb g1;exact y7.lay hl (N2 he q1) rfl q2 (h.w7 g2) (F2.w7 h.hs q3 q4)
   ·trivial
  ·trivial
 ·trivial
theorem OG {n:Nat} {t:Ty} {parts:List (Nat×Operand)} {r:Sigma Ty.den×List Nat} (h:zh s n t parts=some r):∃ t0:Ty,t0.sh=t.sh/\S5 s ⟨.arr n t0,(Ty.arr n t0).s4⟩ parts=some r:=by
 unfold zh at h;split at h
 ·rename_i r' hr
  cases h;exact ⟨t,rfl,hr⟩
 ·exact ⟨t.sh,Ty.zu t,h⟩
theorem a9O (hE:C8 E B) (h:RS B S ι s a w) {o:Oper} {T:TypeId} {n:Nat} {parts:Array (Nat×Operand)} (ho:o.op=.buildSlice T n parts):E8 E.P B o a w (l8 E o s):=by
 have he:execOp a.eval o=(do pure (.value (<- Instr.buildSlice T n (parts.map λ q=>(q.1,a.eval q.2))))):=by simp [execOp,ho]
 unfold l8;rw [ho];simp only
 split
 ·rename_i t bts d hT hd
  split
  ·rename_i bt
   simp only [Bool.and_eq_true,Nat.ble_eq] at bt;obtain ⟨⟨dR,cZ⟩,aW⟩:=bt
   split
   ·rename_i m t' l g lG
    obtain ⟨t0,kq,hb⟩:=OG lG;refine E8.lay (λ v s' hl=>?_);obtain ⟨gn,gp⟩:=Ic hl;have db:=p9 hE hT;obtain ⟨et,k',h1,h2,h3⟩:=F8 db;have nq:∀ u:Ty,(zc u).length=u.size:=λ u=>(i6.s4 (H:=w.heap) (S:=S) u).length;have fy:i6 w.heap S (.arr n t0) [] (zc (.arr n t)) (Ty.arr n t0).s4:=by
     have:=i6.s4 (H:=w.heap) (S:=S) (.arr n t0)
     rwa [show zc (.arr n t0)=zc (.arr n t) from LM (congrArg (Ty.arr n) kq)] at this
    obtain ⟨cs',O',q1,q2,qn,qb,q3⟩:=EF h (place:=λ i=>some (i*t.size,t.size)) (G:=[]) fy List.nodup_nil (by simp) (by simpa using gn) (by simpa [wh] using cZ) (λ t' x' i u' y' e1 e2 e3=>Tn t' x' i u' y' (e1.trans (congrArg (Ty.arr n) kq)) e2 e3) hb;have lY:(parts.map λ q=>(q.1,a.eval q.2)).toList=parts.toList.map λ q=>(q.1,a.eval q.2):=by simp
    simp only [Ty.sh,Ty.arr.injEq] at q3;obtain ⟨rfl,q3⟩:=q3;have q3:=q3.trans kq;have ew:=F4 q3;obtain ⟨g1,g2⟩:=q2;have hlen:cs'.length=m*t'.size:=by rw [j5.length (λ _ _ _ h=>h.length) g2,g1]
    have fX:m*t'.size<=16777216:=by rw [ew]; exact aW
    have pd:m<=maxLen:=by
     have:m*1<=m*t'.size:=Nat.mul_le_mul_left _ (by omega);unfold maxLen; omega
    have aP:(execOp a.eval o).run E.P w=.ok (.value (.slice (some ⟨w.heap.size,0,none⟩) m m)) (G6 w (.cells cs'.toArray et)):=by
     rw [he];have nr:(zc (.arr m t)).toArray=(List.replicate m (zc t)).flatten.toArray:=rfl;by_cases h0:m*t.size=0
     ·have:m=0:=by rcases Nat.mul_eq_zero.1 h0 with h|h<;>omega
      subst this;simp only [Instr.buildSlice,Sem.run_bind,u6 h1,Result.andThen,run_sizeOf h3];have e0:(zc (.arr 0 t)).toArray=(#[]:Array Value):=rfl;rw [e0] at q1;have r0:Array.range 0=(#[]:Array Nat):=rfl;simp only [Nat.zero_mul,r0,Array.map_empty];rw [lY];simp [q1,newRow,newObj,Sem.run,G6]
     ·have ja:(p7 t (zc t)).cells=(zc t).toArray:=(i6.s4 (H:=w.heap) (S:=S) t).cells
      have hle:¬ (m*t.size > 16777216):=by omega
      have hq:=IK (zc t) m;rw [nq] at hq;rw [nr] at q1;have pj:¬ (m*t.size > 2^24):=by omega
      simp only [Instr.buildSlice,Sem.run_bind,u6 h1,Result.andThen,run_sizeOf h3,pj,h0,if_false,BK h3,ja,lY,Sem.run_pure,hq,q1];simp [newRow,newObj,Sem.run,G6]
    have g1':List.length l=m:=g1;have gE:∀ c∈O',c<w.heap.size:=λ c hc=>by obtain ⟨i,e,_,r2,r3⟩:=qb c hc; exact (h.hs.bl i e r2 c r3).2.2
    have dV:=h.w7 (g:=g) gp;obtain ⟨O2,k1,k2,k3⟩:=Iq (cap:=m) h.hs.slt (O:=O') (l:=l) (cells:=cs') (by rw [g1',List.take_of_length_le (by omega)]; exact g2) (by omega) pd (by omega) et gE;have hp:D3 [] w (G6 w (.cells cs'.toArray et)):=D3.push _;exact y7.lay hl aP (by rw [<- g1']; rfl) k1 (dV.uO F2.nil hp) (F2.new dV (F2.w7 h.hs qn qb) hp (by simp [G6]) k2 (k3 qn))
   ·trivial
  ·trivial
 ·trivial
theorem Qu {P:Program} {k:IntKind} {n:Int}:(asInt (.int k n)).run P w=.ok n w:=by simp [asInt,asIntOf]
theorem b8A (hE:C8 E B) (h:RS B S ι s a w) {o:Oper} {T:TypeId} {x y:Operand} (ho:o.op=.makeSlice T x y):E8 E.P B o a w (LR E T (s.ev x) (s.ev y) o.dst s):=trivial
theorem b0K (hE:C8 E B) (h:RS B S ι s a w) {o:Oper} {T:TypeId} {x y:Operand} (ho:o.op=.makeSlice T x y):E8 E.P B o a w (l8 E o s):=by
 have he:execOp a.eval o=(do pure (.value (<- Instr.makeSlice T (a.eval x) (a.eval y)))):=by simp [execOp,ho]
 unfold l8;rw [ho];simp only
 split
 ·exact b8A hE h ho
 split
 ·rename_i t bts d k n k' m hT hd hx hy
  refine E8.Ii (λ v s' hl hp=>?_);have cY:@LE.le Int Int.instLEInt 0 n:=hp.1;have fX:@LE.le Int Int.instLEInt n m:=hp.2.1;have um:@LE.le Int Int.instLEInt m 140737488355328:=hp.2.2.1;obtain ⟨fU,_⟩:=VX.H4 (C2 h hx);obtain ⟨dD,_⟩:=VX.H4 (C2 h hy);have db:=p9 hE hT;obtain ⟨et,k2,h1,h2,h3⟩:=F8 db;obtain ⟨i,hi,eu,kK⟩:=W0 h3;have lE:=KH h3 hi;obtain ⟨M,rfl⟩:∃ M:Nat,m=((M:Nat):Int):=⟨Int.toNat m,(Int.toNat_of_nonneg (Int.le_trans cY fX)).symm⟩;obtain ⟨N,rfl⟩:∃ N:Nat,n=((N:Nat):Int):=⟨Int.toNat n,(Int.toNat_of_nonneg cY).symm⟩;have pU:((t.wb:Nat):Int)*(M:Int)<=281474976710656:=by
   have:=hp.2.2.2;have e:((M:Nat):Int)*(t.wb:Nat)=(t.wb:Nat)*(M:Nat):=Int.mul_comm _ _;have:@LE.le Int Int.instLEInt (((M:Nat):Int)*(t.wb:Nat)) 140737488355328:=hp.2.2.2;rw [e] at this;omega
  have ja:(p7 t (zc t)).cells=(zc t).toArray:=(i6.s4 (H:=w.heap) (S:=S) t).cells;have jF:IntKind.i64.wrap (M:Int)=(M:Int):=S8 (by unfold r7; simp [IntKind.min,IntKind.max,IntKind.signed,IntKind.bits]; omega);have jE:IntKind.i64.wrap (N:Int)=(N:Int):=S8 (by unfold r7; simp [IntKind.min,IntKind.max,IntKind.signed,IntKind.bits]; omega);have aP:(Instr.makeSlice T (a.eval x) (a.eval y)).run E.P w=.ok (.slice (some ⟨w.heap.size,0,none⟩) N M) (G6 w (.cells (List.replicate M (zc t)).flatten.toArray et)):=by
   rw [fU,dD];have c1:¬ ((M:Int)<0):=by omega
   have c2:¬ ((N:Int)<0):=by omega
   have c3:¬ ((M:Int)<(N:Int)):=by omega
   have c4:¬ (281474976710656<((t.wb:Nat):Int)*(M:Int)):=by omega
   by_cases h0:M*t.size=0
   ·have:M=0:=by rcases Nat.mul_eq_zero.1 h0 with h|h<;>omega
    subst this;have hN:N=0:=by omega
    subst hN;simp only [Instr.makeSlice,Sem.run_bind,u6 h1,Result.andThen,Qu,typeInfo,jF];have r0:Array.range 0=(#[]:Array Nat):=rfl;simp [run_sizeOf h3,newRow,newObj,Sem.run,G6,Result.andThen,hi,r0]
   ·have hq:=IK (zc t) M
    rw [Q5] at hq;simp only [Instr.makeSlice,Sem.run_bind,u6 h1,Result.andThen,Qu,typeInfo,jF,jE];simp [c1,c2,c3,c4,run_sizeOf h3,h0,BK h3,ja,Result.andThen,newRow,newObj,Sem.run,G6,hi,lE];congr 2;rw [<- hq];apply Array.ext';simp [Q5]
  have dV:=h.w7 (g:=[]) rfl;obtain ⟨O2,k1,k2',k3⟩:=Iq (cap:=M) h.hs.slt (O:=[]) (l:=List.replicate N t.s4) (cells:=(List.replicate M (zc t)).flatten) (by
   have e:(List.replicate M (zc t)).flatten=(List.replicate N (zc t)).flatten++(List.replicate (M - N) (zc t)).flatten:=by
    rw [<- List.flatten_append,List.replicate_append_replicate]; congr 2; omega
   rw [e,List.take_left' (by simp [Q5])];exact j5.GN N) (by simp; omega) (by unfold maxLen; omega) (by simp [Q5]) et (by simp)
  have cE:D3 [] w (G6 w (.cells (List.replicate M (zc t)).flatten.toArray et)):=D3.push _;exact y7.lay hl (N2 he aP) (by simp [p7,Ty.agg]) k1 (dV.uO F2.nil cE) (F2.new dV F2.nil cE (by simp [G6]) k2' (k3 List.nodup_nil))
 ·trivial
end
end Go.Ex
namespace Go.Ex
section
variable {E:Env} {B:E1} {S S':Nat->Prop} {ι:Ix} {s:St} {a:Act} {w:World} {hp:List (Nat×g9)} {H H':Array Go.Obj}
theorem Pz:∀ {t:Ty} {x:t.den} {p:List Step} {u:Ty} {y:u.den} {r:Sigma Ty.den},s8 t x p u y=some r->wQ p=false->r.1=t:=by
 intro t
 induction t with
 | pair a c iha ihc =>
  intro x p u y r h hf
  match p,h,hf with
  | [],_,hf=>cases hf
  | .l7 0::p,h,hf =>
   simp only [s8] at h;split at h
   ·rename_i t' w hw; cases h; exact congrArg (Ty.pair · c) (iha (r:=⟨t',w⟩) hw hf)
   ·cases h
  | .l7 (n+1)::p,h,hf =>
   simp only [s8] at h;split at h
   ·rename_i t' w hw; cases h; exact congrArg (Ty.pair a) (ihc (r:=⟨t',w⟩) hw hf)
   ·cases h
  | .idx i::p,h,_=>simp [s8] at h
 | arr n t ih =>
  intro x p u y r h hf
  match p,h,hf with
  | [],_,hf=>cases hf
  | .idx i::p,h,_ =>
   simp only [s8] at h;split at h
   ·split at h
    ·cases h; rfl
    ·cases h
   ·cases h
  | .l7 i::p,h,_=>simp [s8] at h
 | d0 o t ih =>
  intro x p u y r h hf
  match p,h,hf with
  | [],_,hf=>cases hf
  | .idx i::p,h,_ =>
   cases o with
   | false=>simp [s8] at h
   | true =>
    simp only [s8] at h;split at h
    ·split at h
     ·cases h; rfl
     ·cases h
    ·cases h
  | .l7 i::p,h,_=>cases o<;>simp [s8] at h
 | _ =>
  intro x p u y r h hf
  match p,h,hf with
  | [],_,hf=>cases hf
  | .idx i::p,h,_=>simp [s8] at h
  | .l7 i::p,h,_=>simp [s8] at h
theorem OB.yN {i:Nat} {e:g9} (ho:OB H S ι i e) (he:e≠.K6) (hS:∀ c,S c->c<H.size) {p:List Step} (aM:w9 e.ty e.x p) {u:Ty} {y:u.den} (hg:j9 e.ty e.x p=some ⟨u,y⟩) {b off:Nat} (hl:Loc H ι i e p=some (b,off))
  {Op:List Nat} (fp:i6 H S u Op (d9 H b off u.size) y):b∉Op:=by
 obtain ⟨h1,h2⟩:=C4 hl;obtain ⟨O,hO,hR,hb,aJ,bc,fW,dR⟩:=ho.see he hS;obtain ⟨O1,O2,b',ar,e1,e2,e3,e4,e5,e6⟩:=focus hR hb aM hg
 rw [H2 he,e3] at h1; cases h1;have hm:∀ c,c∈O1\/c∈O2->c∈ι.own i:=λ c hc=>hO.mem_iff.1 (e1.mem_iff.2 (by simpa using hc));have kG:∀ c∈O2,c<H.size:=λ c hc=>ho.T4 he (hm c (.inr hc));have k:=(vI (e:=e) (ι:=ι) (i:=i) kG hS).1 e4;rw [l5 (F7 h2)] at k;have hd:=i6.det k fp;subst hd;rcases e6 with ⟨rfl,_⟩|⟨g1,_⟩
 ·intro hb; exact (List.nodup_cons.1 aJ).1 (hm _ (.inr hb))
 ·intro hb
  have:=(e1.nodup_iff).1 ((hO.nodup_iff).2 (List.nodup_cons.1 aJ).2);exact (List.nodup_append.1 this).2.2 _ g1 _ hb rfl
theorem WW {d i:Nat}:∀ {v:AV},v.i8 d=false->(v.drop i).i8 d=false:=by
 intro v
 induction v with
 | cons a b iha ihb=>intro h; simp only [AV.i8,Bool.or_eq_false_iff] at h; simp only [AV.drop,AV.map,AV.i8,Bool.or_eq_false_iff]; exact ⟨iha h.1,ihb h.2⟩
 | K5 l ih=>intro h; exact ih h
 | C3 f l ih=>intro h; exact ih h
 | bx l ih=>intro h; exact ih h
 | rc f l ih=>intro h; exact ih h
 | ptr j p=>intro h; simp only [AV.drop,AV.map]; split<;>first|rfl|exact h
 | at_ j p=>intro h; simp only [AV.drop,AV.map]; split<;>first|rfl|exact h
 | sub j p x y=>intro h; simp only [AV.drop,AV.map]; split<;>first|rfl|exact h
 | _=>intro h; rfl
theorem KU {d:Nat}:∀ {g:List Nat} {s:St},vJ d s.fr=true->vJ d (St.w7 g s).fr=true
 | [],_,h=>h
 | i::g,s,h=>KU (g:=g) (s:=s.drop i) (by
  simp only [St.drop];generalize s.fr=fr at h
  induction fr with
  | nil=>rfl
  | cons q l ih =>
   obtain ⟨n,v⟩:=q;simp only [vJ,Bool.and_eq_true,Bool.not_eq_true'] at h;simp only [mapA,vJ,Bool.and_eq_true,Bool.not_eq_true'];exact ⟨WW h.1,ih h.2⟩)
theorem Xp:∀ {t:Ty} {p:List Step} {b off:Nat} {G:Array Go.Obj} {r:Nat×Nat},wQ p=true->x8 G t p b off=some r->r.1=b:=by
 intro t
 induction t with
 | pair a c iha ihc =>
  intro p b off G r h hn
  match p,h,hn with
  | [],_,hn=>rw [y6] at hn; cases hn; rfl
  | .l7 0::p,h,hn=>exact iha (p:=p) h hn
  | .l7 (n+1)::p,h,hn=>exact ihc (p:=.l7 n::p) h hn
  | .idx i::p,h,_=>cases h
 | d0 o t ih =>
  intro p b off G r h hn
  match p,h,hn with
  | [],_,hn=>rw [y6] at hn; cases hn; rfl
  | .l7 i::p,_,hn=>cases o<;>simp [x8] at hn
  | .idx i::p,h,_=>cases h
 | _ =>
  intro p b off G r h hn
  match p,h,hn with
  | [],_,hn=>rw [y6] at hn; cases hn; rfl
  | .l7 i::p,_,hn=>simp [x8] at hn
  | .idx i::p,h,_=>cases h
theorem NZ {i:Nat} {e:g9} {p:List Step} {r:Nat×Nat} (hl:Loc H ι i e p=some r) (he:e.Y9=true):wQ p=false:=by
 obtain ⟨h1,h2⟩:=C4 (b:=r.1) (off:=r.2) hl;cases hf:wQ p with
 | false=>rfl
 | true =>
  exfalso;cases e with
  | own t x =>
   rw [H2 (by simp)] at h1;have:=Xp hf h1;simp only [VR] at this;omega
  | _=>cases he
theorem Ab (hE:C8 E B) (h:RS B S ι s a w) {o:Oper} {T:TypeId} {x y:Operand} (ho:o.op=.store T x y) {i:Nat} {e:g9} (h1:look i s.hp=some e) {p:List Step} (h2:w9 e.ty e.x p) {b off:Nat} (h3:Loc w.heap ι i e p=some (b,off)) (h4:a.eval x=.pointer (some ⟨b,off,none⟩))
  {u:Ty} {y0:u.den} (hg:j9 e.ty e.x p=some ⟨u,y0⟩) (bB:I6 E T u=true) {u':Ty} {z:u'.den} {O2:List Nat} {cs:List Value} {r:Sigma Ty.den}
  (hz:i6 w.heap S u' O2 cs z) (aJ:O2.Nodup) (sU:a.eval y=p7 u' cs) (aK:s8 e.ty e.x p u' z=some r)
  (eP:∀ c∈O2,(¬ S c/\(B.w0.heap.size<=c\/B.M c)/\c<w.heap.size)/\(∀ j ej,j≠i->look j s.hp=some ej->c∉l6 ι j ej)/\(c∈l6 ι i e->∃ Op,i6 w.heap S u Op (d9 w.heap b off u.size) y0/\c∈Op)) (bM:b∉O2) :
  y7 E.P B o a w (.raw undef) ((s.kill i e.kd p).w6 i (e.D9 r)):=by
 intro next Q hn
 obtain ⟨Op,m1,mn,m2,m3,m4,m5⟩:=M6 (K2 h3) (h.hs.ob i e h1) h.hs.slt h2 hg h3;have bZ:=BZ hg aK;have gT:¬ S b:=(h.hs.bl i e h1 b m4).1;obtain ⟨ι',cm⟩:=h.store h1 h2 hg h3 (u':=u') (z:=z) (cs:=cs) (O2:=O2) (λ H' aW hc=>hz.s9 (λ c dB=>hc.rest c (by
   rintro rfl;rcases dB with dB|dB
   ·exact bM dB
   ·exact gT dB) (by
   rcases dB with dB|dB
   ·exact (eP c dB).1.2.2
   ·exact h.hs.slt c dB)) (λ _ h=>h)) (by rw [hz.length,F4 bZ]) aJ eP aK (λ bu _=>Pz aK (NZ h3 bu))
 unfold Oper.wp;have aP:(execOp a.eval o).run E.P w=.ok .skip (w.setRow b (over (w4 w.heap b) off cs).toArray):=by
  simp [execOp,ho,h4,sU,Instr.storeAt,Instr.sureAddr,Lg (D0 hE bB) bZ m5 hz]
 rw [aP];exact hn S ι' _ undef cm rfl
theorem Jc:∀ t:Ty,t.vx.sh=t.sh:=by
 intro t
 induction t with
 | pair a b iha ihb=>simp only [Ty.vx,Ty.sh,iha,ihb]
 | d0 o t ih=>cases o<;>rfl
 | _=>rfl
theorem i6.vx {H:Array Go.Obj} {S:Nat->Prop}:∀ {u:Ty} {O:List Nat} {cs:List Value} {y:u.den},i6 H S u O cs y->u.vx.shared=true->i6 H S u.vx [] cs (Di u y):=by
 intro u
 induction u with
 | pair a b iha ihb =>
  rintro O cs y ⟨O1,O2,rfl,h1,h2⟩ hs;simp only [Ty.vx,Ty.shared,Bool.and_eq_true] at hs;have ea:a.vx.size=a.size:=F4 (Jc a);have eb:b.vx.size=b.size:=F4 (Jc b);exact ⟨[],[],rfl,by rw [ea]; exact iha h1 hs.1,by rw [ea]; exact ihb h2 hs.2⟩
 | d0 o t ih =>
  intro O cs y h hs;cases o with
  | true =>
   rcases h with ⟨_,⟨a,c,rfl,_⟩,_⟩|⟨b,off,cap,O',rfl,_⟩
   ·exact ⟨rfl,_,rfl,rfl⟩
   ·exact ⟨rfl,_,rfl,rfl⟩
  | false =>
   have hn:=h.N1 hs;subst hn; exact h
 | arr n t ih =>
  intro O cs y h hs;have hn:=h.N1 hs;subst hn; exact h
 | map o k v =>
  intro O cs y h hs;have hn:=h.N1 hs;subst hn; exact h
 | box o g t =>
  intro O cs y h hs;have hn:=h.N1 hs;subst hn; exact h
 | _ =>
  intro O cs y h hs;have hn:=h.N1 hs;subst hn; exact h
theorem Zd {H:Array Go.Obj} {S:Nat->Prop} {u:Ty} {q:Sigma Ty.den} {O:List Nat} {cs:List Value} (h:i6 H S q.1 O cs q.2):i6 H S (xa u q).1 O cs (xa u q).2/\(xa u q).1.agg=q.1.agg/\(xa u q).1.size=q.1.size:=by
 obtain ⟨t,z⟩:=q;cases u with
 | y8 a =>
  cases t with
  | d0 o b =>
   by_cases e:b=a
   ·subst e
    cases o with
    | false=>rw [show xa (.y8 b) ⟨.d0 false b,z⟩=⟨.y8 b,(0,z,[])⟩ from dif_pos rfl]; exact ⟨h,rfl,rfl⟩
    | true=>rw [show xa (.y8 b) ⟨.d0 true b,z⟩=⟨.y8 b,(1,z,[])⟩ from dif_pos rfl]; exact ⟨h,rfl,rfl⟩
   ·cases o with
    | false=>rw [show xa (.y8 a) ⟨.d0 false b,z⟩=⟨.d0 false b,z⟩ from dif_neg e]; exact ⟨h,rfl,rfl⟩
    | true=>rw [show xa (.y8 a) ⟨.d0 true b,z⟩=⟨.d0 true b,z⟩ from dif_neg e]; exact ⟨h,rfl,rfl⟩
  | _=>exact ⟨h,rfl,rfl⟩
 | _=>exact ⟨h,rfl,rfl⟩
theorem Qd {H:Array Go.Obj} {S:Nat->Prop}:∀ {u:Ty} {q:Sigma Ty.den} {O:List Nat} {cs:List Value},i6 H S q.1 O cs q.2->i6 H S (O8 u q).1 O cs (O8 u q).2/\(O8 u q).1.agg=q.1.agg/\(O8 u q).1.size=q.1.size:=by
 intro u
 induction u with
 | y8 a=>intro q O cs h; exact Zd h
 | pair a b iha ihb =>
  rintro ⟨t,z⟩ O cs h;cases hm:a.ze || b.ze with
  | false =>
   have:O8 (.pair a b) ⟨t,z⟩=⟨t,z⟩:=by simp only [O8,hm]
   rw [this]; exact ⟨h,rfl,rfl⟩
  | true =>
   cases t with
   | pair c d =>
    have e:O8 (.pair a b) ⟨.pair c d,z⟩=⟨.pair (O8 a ⟨c,z.1⟩).1 (O8 b ⟨d,z.2⟩).1,((O8 a ⟨c,z.1⟩).2,(O8 b ⟨d,z.2⟩).2)⟩:=by
     simp only [O8,hm]
    rw [e];obtain ⟨O1,O2,rfl,h1,h2⟩:=h;obtain ⟨k1,_,k3⟩:=iha (q:=⟨c,z.1⟩) h1;obtain ⟨m1,_,m3⟩:=ihb (q:=⟨d,z.2⟩) h2;have k3:(O8 a ⟨c,z.1⟩).1.size=c.size:=k3;have m3:(O8 b ⟨d,z.2⟩).1.size=d.size:=m3;refine ⟨⟨O1,O2,rfl,?_,?_⟩,rfl,?_⟩
    ·rw [k3]; exact k1
    ·rw [k3]; exact m1
    ·simp only [Ty.size,k3,m3]
   | _ =>
    have:∀ r:Sigma Ty.den,r=⟨_,z⟩->O8 (.pair a b) r=r:=by
     rintro r rfl;simp only [O8,hm]
    rw [this _ rfl]; exact ⟨h,rfl,rfl⟩
 | _=>intro q O cs h; exact ⟨h,rfl,rfl⟩
theorem PD {H:Array Go.Obj} {S:Nat->Prop} {u:Ty} {q:Sigma Ty.den} {O:List Nat} {cs:List Value} (h:i6 H S q.1 O cs q.2):i6 H S (O8 u q).1 O cs (O8 u q).2/\(O8 u q).1.agg=q.1.agg :=
 ⟨(Qd h).1,(Qd h).2.1⟩
theorem b5b (hE:C8 E B) (h:RS B S ι s a w) {o:Oper} {T:TypeId} {x y:Operand} (ho:o.op=.store T x y) {i:Nat} {p:List Step} (hx:s.ev x=.ptr i p):E8 E.P B o a w (O7 E T i p (s.ev y) s):=by
 obtain ⟨e,b,off,h1,h2,h3,h4⟩:=C2 h hx;have h4:a.eval x=.pointer (some ⟨b,off,none⟩):=by simpa using h4
 unfold O7
 split
 ·trivial
 ·rename_i e' aS
  obtain rfl:=wj h1 aS
  split
  ·trivial
  ·rename_i u y0 hg
   obtain ⟨Op,m1,mn,m2,m3,m4,m5⟩:=M6 (K2 h3) (h.hs.ob i e' h1) h.hs.slt h2 hg h3
   split
   ·trivial
   ·rename_i bB
    split
    ·rename_i hy
     have qx:=C2 h hy
     split
     ·rename_i o' u' _
      split
      ·rename_i r aK
       refine Ab hE h ho h1 h2 h3 h4 hg bB (u':=.d0 o' u') (z:=([]:List u'.den)) (O2:=[]) (cs:=[.slice none 0 0]) (.inl ⟨rfl,⟨none,0,rfl,λ _=>rfl⟩,rfl⟩) List.nodup_nil ?_ aK (by simp) (by simp);have:[a.eval y]=[Value.slice none 0 0]:=qx;simpa [p7,Ty.agg] using this
      ·trivial
     ·rename_i a' _
      split
      ·rename_i r aK
       refine Ab hE h ho h1 h2 h3 h4 hg bB (u':=.y8 a') (z:=(1,([],[]))) (O2:=[]) (cs:=[.slice none 0 0]) (.inl ⟨rfl,⟨none,0,rfl,λ _=>rfl⟩,rfl⟩) List.nodup_nil ?_ aK (by simp) (by simp);have:[a.eval y]=[Value.slice none 0 0]:=qx;simpa [p7,Ty.agg] using this
      ·trivial
     ·trivial
    ·rename_i j q lo hi hy
     split
     ·rename_i u' y1
      split
      ·rename_i r aK
       split
       ·rename_i bO
        have bO:=Nat.eq_of_beq_eq_true bO;subst bO;rintro ⟨rfl,_⟩;obtain ⟨e2,v2,k1,k2,k3,k4,k5,k6⟩:=C2 h hy;rw [h1] at k1; cases k1;rcases k6 with ⟨t',l,A,cap,q1,q2,q3,q4⟩|⟨n,t',l,b2,off2,q1,_⟩
        ·rw [hg] at q1; cases q1
         obtain ⟨b0,off0,r1,r2⟩:=q3;obtain ⟨r3,r4⟩:=C4 h3;rw [r3] at r1; cases r1;rw [l5 (F7 r4)] at r2;have m2':i6 w.heap S (.d0 true u') Op [.slice A (List.length y1) cap] y1:=by rw [r2]; exact m2
         obtain ⟨O,cs,g1,g2,g3,g4⟩:=MN m2' mn k4 k5 q2 q4;have k3:a.eval y=v2:=by simpa using k3
         refine Ab hE h ho h1 h2 h3 h4 hg bB (u':=.d0 true u') (z:=n9 lo hi y1) g2 g3 (by rw [k3,g1]) aK (λ c hc=>?_) ?_
         ·have dW:=m1 c (g4 c hc)
          exact ⟨h.hs.bl i e' h1 c (I0 dW),λ j ej hj df=>h.hs.dj i j e' ej h1 df (Ne.symm hj) c (I0 dW),λ _=>⟨Op,m2,g4 c hc⟩⟩
         ·intro hb
          have:=(h.hs.ob i e' h1).yN (K2 h3) h.hs.slt h2 hg h3 m2;exact this (g4 b hb)
        ·rw [hg] at q1; cases q1
       ·trivial
      ·trivial
     ·trivial
    ·rename_i xv _ _
     split
     ·rename_i q g cP
      split
      ·rename_i r aK
       split
       ·rename_i kO
        simp only [Bool.and_eq_true,Bool.not_eq_true'] at kO;obtain ⟨⟨ee,hY⟩,dL⟩:=kO;have ee:i∉g:=by
         intro hm;simp [hm] at ee
        obtain ⟨O2,cs,k1,k2,k3,k4⟩:=El h.hs (t:=q.1) (x:=q.2) cP (h.ev y);obtain ⟨k2,kf⟩:=PD (u:=u) k2;rw [<- Bh kf] at k1;have hd:=h.w7 (g:=g) dL;have jo:look i (St.w7 g s).hp=some e':=by rw [J0,if_neg ee]; exact h1
        have bE:∀ c∈O2,∀ j ej,j∉g->look j s.hp=some ej->c∉l6 ι j ej:=by
         intro c hc j ej hj df;obtain ⟨j2,e2,q1,q2,q3⟩:=k4 c hc;exact h.hs.dj j2 j e2 ej q2 df (by rintro rfl; exact hj q1) c q3
        refine Ab hE hd ho jo h2 h3 h4 hg bB k2 k3 k1 aK (λ c hc=>?_) (λ hb=>bE b hb i e' ee h1 m4);obtain ⟨j2,e2,q1,q2,q3⟩:=k4 c hc;refine ⟨h.hs.bl j2 e2 q2 c q3,λ j ej hj df=>?_,λ jZ=>absurd jZ (bE c hc i e' ee h1)⟩;rw [J0] at df;split at df
        ·cases df
        ·rename_i fP; exact bE c hc j ej fP df
       ·trivial
      ·trivial
     ·split
      ·rename_i j q hy
       split
       ·rename_i u' y' cO
        split
        ·rename_i r aK
         split
         ·rename_i hc
          simp only [Bool.and_eq_true] at hc;obtain ⟨e2,u2,y2,cs,k1,k2,k3,k4,k5⟩:=C2 h hy;have gx:=H3 k1 cO;rw [k3] at gx; cases gx;obtain ⟨O2,g1,_,g2⟩:=G1 h.hs k1 k2 k3 k4;exact Ab hE h ho h1 h2 h3 h4 hg bB (g2.vx hc.1.1) List.nodup_nil (by rw [Ht (Jc _)]; simpa using k5) aK (by simp) (by simp)
         ·trivial
        ·trivial
       ·trivial
      ·trivial
theorem Zj (_hE:C8 E B) (h:RS B S ι s a w) {o:Oper} {T:TypeId} {x:Operand} (ho:o.op=.box T x):E8 E.P B o a w (l8 E o s):=by
 unfold l8;rw [ho];simp only
 split
 ·rename_i t d ht hd
  split
  ·rename_i hf
   have core:∀ {u:Ty} {y:u.den} {O:List Nat} {cs:List Value} {g:List Nat},i6 w.heap S u O cs y->a.eval x=p7 u cs->(g.all λ i=>!pinned i)=true->d∉g->F2 B S ι (St.w7 g s).hp w O->y7 E.P B o a w (.ptr d []) ((St.w7 g s).w6 d (.var u y)):=by
    intro u y O cs g hR e hg ur hF next Q hn
    unfold Oper.wp;have:(execOp a.eval o).run E.P w=.ok (.value (.pointer (some ⟨w.heap.size,0,none⟩))) (G6 w (.cells cs.toArray T)):=by
     simp [execOp,ho,Instr.box,e,newVar,newRow,newObj,Sem.run,G6,hR.cells]
    rw [this];have sP:(St.w7 g s).fresh d=true:=by
     obtain ⟨f1,f2⟩:=Ek hf;simp only [St.fresh,Bool.and_eq_true,Option.isNone_iff_eq_none];refine ⟨by rw [J0]; split<;>first|rfl|exact f1,?_⟩;exact KU (by simp only [St.fresh,Bool.and_eq_true] at hf; exact hf.2)
    exact hn S _ _ _ ((h.w7 hg).alloc sP hR hF T) (Il (by simp [G6]))
   split
   ·rename_i u y g cP
    split
    ·rename_i hs
     split
     ·rename_i kO
      simp only [Bool.and_eq_true,Bool.not_eq_true'] at kO;obtain ⟨⟨hY,pA⟩,dL⟩:=kO;obtain ⟨O2,cs,k1,k2,k3,k4⟩:=El h.hs cP (h.ev x);exact core k2 k1 dL (by intro hm; simp [hm] at pA) (F2.w7 h.hs k3 k4)
     ·trivial
    ·trivial
   ·split
    ·rename_i o' u hx _
     have hv:[a.eval x]=[Value.slice none 0 0]:=C2 h hx;exact core (g:=[]) (cs:=[.slice none 0 0]) (u:=.d0 o' u) (y:=([]:List u.den)) (O:=[]) (.inl ⟨rfl,⟨none,0,rfl,λ _=>rfl⟩,rfl⟩) (by simpa [p7,Ty.agg] using hv) rfl (by simp) F2.nil
    ·rename_i i p o0 t0 hx _
     intro next Q hn
     obtain ⟨e,b,off,k1,k2,k3,k4⟩:=C2 h hx;have k4:a.eval x=.pointer (some ⟨b,off,none⟩):=by simpa using k4
     unfold Oper.wp;have:(execOp a.eval o).run E.P w=.ok (.value (.pointer (some ⟨w.heap.size,0,none⟩))) (G6 w (.cells #[.pointer (some ⟨b,off,none⟩)] T)):=by
      simp [execOp,ho,Instr.box,k4,newVar,newRow,newObj,Sem.run,G6,Value.cells]
     rw [this];have h1:=h.uO F2.nil (D3.push (.cells #[.pointer (some ⟨b,off,none⟩)] T));have h2:=h1.share (S':=λ c=>S c\/c=w.heap.size) (λ _ h=>.inl h) (λ c hc=>by
      rcases hc with hc|rfl
      ·exact .inl hc
      ·exact .inr ⟨.inl h.hs.size,by simp [G6],λ j ej hj hb=>Nat.lt_irrefl _ (h.hs.bl j ej hj _ hb).2.2⟩)
     have hb:w4 (G6 w (.cells #[.pointer (some ⟨b,off,none⟩)] T)).heap w.heap.size=[.pointer (some ⟨b,off,none⟩)]:=by
      simp only [w4,G6,Array.getElem?_push_size]
     refine hn _ _ _ _ h2 ⟨w.heap.size,0,.pointer (some ⟨b,off,none⟩),rfl,.inr rfl,by rw [hb]; simp,by rw [d9,hb]; rfl,?_⟩;have h3:=h2.ev x;rw [hx,k4] at h3;exact h3
    ·trivial
  ·trivial
 ·trivial
end
end Go.Ex
namespace Go.Ex
section
variable {E:Env} {B:E1} {S S':Nat->Prop} {ι:Ix} {s:St} {a:Act} {w:World} {hp:List (Nat×g9)} {H H':Array Go.Obj}
theorem Sr {P:Program} {k:Nat} {T U:TypeId} {t:Ty} (hT:o8 P k T (.d0 true t)=true) (ty:TypeId) (hS:∀ c,S c->c<w.heap.size)
  {base:Option Addr} {cap:Nat} {l m:List t.den} {O1 Og:List Nat} {x:Value} {olds news:List Value}
  (hold:(Builtin.firstCells t.size l.length (.slice base l.length cap)).run P w.drew=.ok olds.toArray w.drew) (hL:j5 (i6 w.heap S t) t.size O1 olds l)
  (hs:Src P t.size U x m.length news w) (hN:j5 (i6 w.heap S t) t.size Og news m) (aJ:(O1++Og).Nodup) (hO:∀ c∈O1++Og,c<w.heap.size)
  (cM:cap<l.length+m.length) (iN:l.length+m.length<=140737488355328) (gN:(l.length+m.length)*t.wb<=140737488355328) :
  ∃ v' w' O',(Builtin.append_ #[T,U] ty #[.slice base l.length cap,x]).run P w=.ok v' w'/\i6 w'.heap S (.d0 true t) O' [v'] (l++m)/\O'.Nodup/\D3 [] w w'/\w.heap.size<w'.heap.size/\∀ c∈O',(c=w.heap.size\/c∈O1++Og)/\c<w'.heap.size:=by
 obtain ⟨et,k2,h1,h2,h3⟩:=F8 hT;obtain ⟨i,hi,eu,kK⟩:=W0 h3;have lE:=KH h3 hi;have jo:olds.length=l.length*t.size:=j5.length (λ _ _ _ h=>h.length) hL;have lD:news.length=m.length*t.size:=j5.length (λ _ _ _ h=>h.length) hN;have jW:=grownCap_ge w (l.length+m.length) cap et;have fN:=grownCap_le_maxLen w (l.length+m.length) cap et (by unfold maxLen; omega);have ja:(p7 t (zc t)).cells=(zc t).toArray:=(i6.s4 (H:=w.heap) (S:=S) t).cells;have aP:=run_append_grow_src (P:=P) w T U ty et i (p7 t (zc t)) h1 hi kK base l.length cap olds (by rw [eu]; exact hold) x m.length news (by rw [eu]; exact hs) cM (by omega) (by rw [lE]; exact growslice_fits cM gN);generalize kO:grownCap w (l.length+m.length) cap et=gc at aP jW fN;have bj:D3 [] w (w.drew.alloc (.cells ((olds++news).toArray++Builtin.zeroCells (p7 t (zc t)).cells (gc - (l.length+m.length))) et)) :=
  D3.trans D3.drew (D3.push _) (by simp)
 have cC:((olds++news).toArray++Builtin.zeroCells (p7 t (zc t)).cells (gc - (l.length+m.length)))=((olds++news)++(List.replicate (gc - (l.length+m.length)) (zc t)).flatten).toArray:=by
  rw [ja,EU]; simp
 rw [cC] at aP bj;have bc:(l++m).length=l.length+m.length:=List.length_append;obtain ⟨O',q1,q2,q3⟩:=Ec (w:=w) (t:=t) (l:=l++m) (cap:=gc) hS (O:=O1++Og) (cells:=(olds++news)++(List.replicate (gc - (l.length+m.length)) (zc t)).flatten) (by
  rw [bc,List.take_left' (by rw [List.length_append,jo,lD,Nat.add_mul])];exact j5.append (λ _ _ _ h=>h.length) hL hN) (by rw [bc]; exact jW) fN (by
  simp only [List.length_append,jo,lD,List.length_flatten,List.map_replicate,List.sum_replicate_nat,Q5];rw [<- Nat.add_mul,<- Nat.add_mul]; exact Nat.mul_le_mul_right _ (by omega)) et hO (w':=w.drew.alloc (.cells ((olds++news)++(List.replicate (gc - (l.length+m.length)) (zc t)).flatten).toArray et)) rfl (.inl rfl)
 have aW:(w.drew.alloc (.cells ((olds++news)++(List.replicate (gc - (l.length+m.length)) (zc t)).flatten).toArray et)).heap.size=w.heap.size+1:=by
  show (w.heap.push _).size=_;simp
 refine ⟨_,_,O',aP,?_,q3 aJ,bj,by omega,λ c hc=>⟨q2 c hc,?_⟩⟩
 ·rw [bc] at q1; exact q1
 ·rcases q2 c hc with rfl|h
  ·omega
  ·have:=hO c h; omega
theorem b8y {P:Program} {k:Nat} {T U:TypeId} {t:Ty} (hT:o8 P k T (.d0 true t)=true) (ty:TypeId)
  {b off cap:Nat} {l m:List t.den} {O1 Og:List Nat} {x:Value} {news:List Value}
  (hl:l.length<=cap) (dW:cap<=maxLen) (fR:U0 t.isB w.heap b (off+cap*t.size)) (hL:j5 (i6 w.heap S t) t.size O1 (d9 w.heap b off (l.length*t.size)) l)
  (hs:Src P t.size U x m.length news w) (hN:j5 (i6 w.heap S t) t.size Og news m) (aJ:(b::O1++Og).Nodup) (nO:¬ S b)
  (cq:l.length+m.length<=cap) (lk:1<=cap) :
  ∃ w',(Builtin.append_ #[T,U] ty #[.slice (some ⟨b,off,none⟩) l.length cap,x]).run P w=.ok (.slice (some ⟨b,off,none⟩) (l.length+m.length) cap) w' /\
   V6 w.heap w'.heap b (off+l.length*t.size) news.length/\w'.heap.size=w.heap.size/\i6 w'.heap S (.d0 true t) (b::(O1++Og)) [.slice (some ⟨b,off,none⟩) (l.length+m.length) cap] (l++m)/\D3 [b] w w' /\
   i6 w'.heap S (.d0 true t) (b::O1) [.slice (some ⟨b,off,none⟩) l.length cap] l:=by
 obtain ⟨et,k2,h1,h2,h3⟩:=F8 hT;obtain ⟨i,hi,eu,kK⟩:=W0 h3;have lD:news.length=m.length*t.size:=j5.length (λ _ _ _ h=>h.length) hN;have hle:l.length*t.size+m.length*t.size<=cap*t.size:=by rw [<- Nat.add_mul]; exact Nat.mul_le_mul_right _ cq
 have bc:(l++m).length=l.length+m.length:=List.length_append;obtain ⟨arr,T',⟨fz,e,ef⟩,hn⟩:=fR;have bN:w4 w.heap b=arr.toList:=by simp only [w4,e]
 have bL:=EW (P:=P) b (off+l.length*t.size) T' fz news 0 arr w ⟨e,ef.imp id (·.2)⟩ (by omega) hs.one;simp only [Nat.add_zero] at bL;have ix:arr.toList.take (off+l.length*t.size)++news++arr.toList.drop (off+l.length*t.size+news.length)=over (w4 w.heap b) (off+l.length*t.size) news:=by rw [bN]; rfl
 rw [ix] at bL;have aP:(Builtin.append_ #[T,U] ty #[.slice (some ⟨b,off,none⟩) l.length cap,x]).run P w=.ok (.slice (some ⟨b,off,none⟩) (l.length+m.length) cap) (w.setRow b (over (w4 w.heap b) (off+l.length*t.size) news).toArray):=by
  rw [<- eu] at hs bL ⊢;rcases hs.kind with ⟨e',hk⟩|hk<;>simp [Builtin.append_,run_underlying h1,run_underlying hk,sizeOf,typeInfo,hi,hs.len,cq,hs.cells,Addr.add_lit,bL]
 obtain ⟨hc,hcs⟩:=Et (w:=w) (b:=b) (off:=off+l.length*t.size) (cs:=news) ⟨arr,T',⟨fz,e,ef.imp id (·.2)⟩,by omega⟩;have dI:b<w.heap.size:=(Array.getElem?_eq_some_iff.1 e).1;have oY:=(List.nodup_cons.1 (by simpa using aJ:(b::(O1++Og)).Nodup));have hold:d9 (w.setRow b (over (w4 w.heap b) (off+l.length*t.size) news).toArray).heap b off (l.length*t.size)=d9 w.heap b off (l.length*t.size):=hc.cells dI (λ _=>.inl (Nat.le_refl _));have bL:∀ {O:List Nat} {cs:List Value} {y:t.den},(∀ c∈O,c∈O1++Og)->i6 w.heap S t O cs y->i6 (w.setRow b (over (w4 w.heap b) (off+l.length*t.size) news).toArray).heap S t O cs y:=by
  intro O cs y hO hr;refine hr.s9 (λ c cS=>setRow_other ?_) (λ _ h=>h);intro cw;rw [cw] at cS;rcases cS with h|h
  ·exact oY.1 (hO _ h)
  ·exact nO h
 have dR:U0 t.isB (w.setRow b (over (w4 w.heap b) (off+l.length*t.size) news).toArray).heap b (off+cap*t.size):=hc.GA ⟨arr,T',⟨fz,e,ef⟩,hn⟩;refine ⟨_,aP,hc,setRow_size,?_,⟨rfl,.of rfl rfl,rfl,by rw [setRow_size]; exact Nat.le_refl _,λ c cD cw=>setRow_other (by simpa using cw)⟩,?_⟩
 rotate_left
 ·refine .inr ⟨b,off,cap,O1,rfl,hl,⟨dW,λ _=>lk⟩,?_,?_,rfl,dR⟩
  ·have:=dR.free.w4
   have:=Nat.mul_le_mul_right t.size hl;omega
  ·rw [hold]
   exact j5.mono (L:=O1) (λ _ h=>h) (λ O cs y hO hr=>bL (λ c hc=>by simp [hO c hc]) hr) hL
 refine .inr ⟨b,off,cap,O1++Og,by rw [bc],by rw [bc]; exact cq,⟨dW,λ _=>lk⟩,?_,?_,rfl,dR⟩
 ·have:=dR.free.w4
  rw [bc,Nat.add_mul]; omega
 ·rw [bc,Nat.add_mul,KB,hold,<- lD,hcs]
  exact j5.append (λ _ _ _ h=>h.length) (j5.mono (L:=O1) (λ _ h=>h) (λ O cs y hO hr=>bL (λ c hc=>by simp [hO c hc]) hr) hL) (j5.mono (L:=Og) (λ _ h=>h) (λ O cs y hO hr=>bL (λ c hc=>by simp [hO c hc]) hr) hN)
theorem Rx {P:Program} {k:Nat} {T U:TypeId} {t:Ty} (hT:o8 P k T (.d0 true t)=true) (ty:TypeId) (hS:∀ c,S c->c<w.heap.size)
  {v:Value} {l m:List t.den} {Of Og:List Nat} {x:Value} {news:List Value}
  (hR:i6 w.heap S (.d0 true t) Of [v] l) (hs:Src P t.size U x m.length news w) (hN:j5 (i6 w.heap S t) t.size Og news m)
  (aJ:(Of++Og).Nodup) (hO:∀ c∈Of++Og,¬ S c/\c<w.heap.size)
  (iN:l.length+m.length<=140737488355328) (gN:(l.length+m.length)*t.wb<=140737488355328) :
  ∃ v' w' O',(Builtin.append_ #[T,U] ty #[v,x]).run P w=.ok v' w'/\i6 w'.heap S (.d0 true t) O' [v'] (l++m)/\O'.Nodup/\D3 Of w w'/\(∀ c∈O',(w.heap.size<=c\/c∈Of++Og)/\c<w'.heap.size)/\i6 w'.heap S (.d0 true t) Of [v] l /\
   (D3 [] w w'\/∃ b off cap n,v=.slice (some ⟨b,off,none⟩) l.length cap/\l.length<=cap/\1<=cap/\V6 w.heap w'.heap b (off+l.length*t.size) n/\w'.heap.size=w.heap.size):=by
 have fy:=hR;rcases hR with ⟨rfl,⟨A,c,e,hc⟩,rfl⟩|⟨b,off,cap,O1,e,c2,c3,c4,c5,rfl,c7⟩
 ·obtain rfl:=hc rfl
  simp only [List.cons.injEq,and_true] at e;subst e;by_cases h0:m.length=0
  ·obtain rfl:m=[]:=List.length_eq_zero_iff.1 h0
   obtain ⟨rfl,rfl⟩:=hN;obtain ⟨et,k2,h1,h2,h3⟩:=F8 hT;obtain ⟨i,hi,eu,kK⟩:=W0 h3;refine ⟨.slice A 0 0,w,[],?_,.inl ⟨rfl,⟨A,0,rfl,λ _=>rfl⟩,rfl⟩,List.nodup_nil,⟨rfl,.refl _,rfl,Nat.le_refl _,λ _ _ _=>rfl⟩,by simp,fy,.inl ⟨rfl,.refl _,rfl,Nat.le_refl _,λ _ _ _=>rfl⟩⟩;rw [<- eu] at hs;have iS:=hs.len;have eL:=hs.cells;simp only [List.length_nil] at iS eL;rcases hs.kind with ⟨e',hk⟩|hk<;>cases A<;>simp [Builtin.append_,run_underlying h1,run_underlying hk,sizeOf,typeInfo,hi,iS,eL,storeCells]
  ·obtain ⟨v',w',O',q1,q2,q3,q4,q5,q6⟩:=Sr hT ty hS (base:=A) (cap:=0) (l:=([]:List t.den)) (olds:=[]) (O1:=[]) (by
    cases A with
    | none=>exact run_firstCells_none w.drew t.size 0 0 0
    | some A=>exact run_firstCells_some w.drew t.size 0 A 0 0 [] (by simp) (by simp)) ⟨rfl,rfl⟩ hs hN (by simpa using aJ) (λ c hc=>(hO c (by simpa using hc)).2) (by simp; omega) iN gN
   exact ⟨v',w',O',q1,q2,q3,q4,λ c hc=>⟨(q6 c hc).1.imp (λ h=>by omega) (λ h=>by simpa using h),(q6 c hc).2⟩,fy.s9 (λ c hc=>q4.frame c (hc.elim (λ h=>by cases h) (hS c)) (by simp)) (λ _ h=>h),.inl q4⟩
 ·simp only [List.cons.injEq,and_true] at e
  subst e;by_cases cq:l.length+m.length<=cap
  ·obtain ⟨w',q1,q2,q3,q4,q5,q6⟩:=b8y (S:=S) hT ty c2 c3.1 c7 c5 hs hN aJ (hO b (by simp)).1 cq (c3.2 rfl)
   refine ⟨_,w',b::(O1++Og),q1,q4,by simpa using aJ,q5.mono (by simp),λ c hc=>⟨.inr (by simpa using hc),?_⟩,q6,.inr ⟨b,off,cap,news.length,rfl,c2,c3.2 rfl,q2,q3⟩⟩;rw [q3]; exact (hO c (by simpa using hc)).2
  ·have eo:(O1++Og).Nodup:=(List.nodup_cons.1 (by simpa using aJ:(b::(O1++Og)).Nodup)).2
   obtain ⟨v',w',O',q1,q2,q3,q4,q5,q6⟩:=Sr hT ty hS (base:=some ⟨b,off,none⟩) (cap:=cap) (l:=l) (olds:=d9 w.heap b off (l.length*t.size)) (O1:=O1) (by
    refine run_firstCells_some w.drew t.size l.length _ l.length cap _ (Li _ _ _ c4) (λ j u hu=>?_);rw [Addr.G9]; exact M4 hu) c5 hs hN eo (λ c hc=>(hO c (by simp at hc ⊢; exact .inr hc)).2) (by omega) iN gN
   exact ⟨v',w',O',q1,q2,q3,q4.mono (by simp),λ c hc=>⟨(q6 c hc).1.imp (λ h=>by omega) (λ h=>by simp at h ⊢; exact .inr h),(q6 c hc).2⟩,fy.s9 (λ c hc=>q4.frame c (hc.elim (λ h=>(hO c (List.mem_append_left _ h)).2) (hS c)) (by simp)) (λ _ h=>h),.inl q4⟩
theorem IQ {P:Program} (h:RS B S ι s a w) {v:AV} {t0:Ty} {U:TypeId} (hk:(∃ e',P.underlying U=some (.slice e'))\/P.underlying U=some .string) {t:Ty} {m:List t.den} {g:List Nat} {x:Value} (hx:v.uR s t0=some (⟨t,m⟩,g)) (hv:VX w.heap S ι s.hp v [x]) :
  ∃ Og news,Src P t.size U x m.length news w/\j5 (i6 w.heap S t) t.size Og news m/\Og.Nodup/\∀ b∈Og,M5 ι s.hp g b:=by
 have src:∀ {A:Option Addr} {n c:Nat} {news:List Value},news.length=n*t.size->(n≠0->∃ b off,A=some ⟨b,off,none⟩/\news=d9 w.heap b off (n*t.size))->(∀ u∈news,u.oneCell'=true)->Src P t.size U (.slice A n c) n news w:=by
  intro A n c news hl hn h1;by_cases h0:n=0
  ·subst h0
   have:news=[]:=List.length_eq_zero_iff.1 (by omega);subst this;cases A with
   | none=>exact ⟨hk,λ _=>rfl,run_firstCells_none w _ 0 0 c,run_firstCells_none w.drew _ 0 0 c,by simp,λ _ h=>by cases h⟩
   | some A=>exact ⟨hk,λ _=>rfl,run_firstCells_some w _ 0 A 0 c [] (by simp) (by simp),run_firstCells_some w.drew _ 0 A 0 c [] (by simp) (by simp),by simp,λ _ h=>by cases h⟩
  ·obtain ⟨b,off,rfl,e⟩:=hn h0
   have bJ:∀ j u,news[j]?=some u->w.cell? ((⟨b,off,none⟩:Addr).add j)=some u:=by
    intro j u hu;rw [Addr.G9]; rw [e] at hu; exact M4 hu
   exact ⟨hk,λ _=>rfl,run_firstCells_some w _ n _ n c news hl bJ,run_firstCells_some w.drew _ n _ n c news hl (by simpa using bJ),hl,h1⟩
 unfold AV.uR at hx;split at hx
 ·cases hx
  have fE:[x]=[Value.slice none 0 0]:=hv;obtain rfl:x=.slice none 0 0:=by simpa using fE
  exact ⟨[],[],src (by simp) (by simp) (by simp),⟨rfl,rfl⟩,List.nodup_nil,by simp⟩
 ·rename_i y
  cases hx;obtain ⟨rfl,hm⟩:=VX.yE hv;refine ⟨[],byteCells ⟨y.toArray⟩,?_,?_,List.nodup_nil,by simp⟩
  ·have hl:(List.map (λ b:UInt8=>(b.toNat:Int)) y).length=(⟨y.toArray⟩:ByteArray).size:=by simp [ByteArray.size]
   have e:∀ w':World,(Builtin.firstCells 1 (⟨y.toArray⟩:ByteArray).size (.string ⟨y.toArray⟩)).run P w'=.ok (byteCells ⟨y.toArray⟩).toArray w':=firstCells_string _;show Src P 1 U (.string ⟨y.toArray⟩) (List.map (λ b:UInt8=>(b.toNat:Int)) y).length (byteCells ⟨y.toArray⟩) w;rw [hl];exact ⟨hk,λ _=>rfl,e w,e w.drew,by rw [byteCells_length,Nat.mul_one],λ u hu=>by
    obtain ⟨_,_,rfl⟩:=List.mem_map.1 hu;rfl⟩
  ·simp only [byteCells]
   clear src hv hm
   induction y with
   | nil=>exact ⟨rfl,rfl⟩
   | cons c y ih=>exact ⟨[],[],rfl,⟨rfl,rfl,by simp only [r7,IntKind.min,IntKind.max,IntKind.signed,IntKind.bits]; have:=c.toNat_lt; simp; omega⟩,by simpa [Ty.size] using ih⟩
 ·split at hx
  ·cases hx
  ·rename_i t' l fj
   split at hx
   ·rename_i bZ
    cases hx;obtain ⟨A,c,e,k⟩:=DD h.hs hv fj;subst e;rcases k with rfl|⟨b,off,O',rfl,k1,k2,k3,k4⟩
    ·exact ⟨[],[],src (by simp) (by simp) (by simp),⟨rfl,rfl⟩,List.nodup_nil,by simp⟩
    ·have hO:O'=[]:=j5.N1 (λ _ _ _ hr=>i6.N1 bZ hr) k3
     subst hO;exact ⟨[],_,src (j5.length (λ _ _ _ h=>h.length) k3) (λ _=>⟨b,off,rfl,rfl⟩) (j5.plain (λ _ _ _ hr=>hr.plain) k3 · · |>.1),k3,List.nodup_nil,by simp⟩
   ·split at hx
    ·rename_i u m' g' cP
     cases hx;obtain ⟨O,cs,k1,k2,k3,k4⟩:=zQ h.hs cP hv;rcases k2 with ⟨rfl,⟨A,c,rfl,hc⟩,rfl⟩|⟨b,off,cap,O',rfl,c2,c3,c4,c5,rfl,c7⟩
     ·have e:x=.slice A 0 c:=k1
      subst e;exact ⟨[],[],src (by simp) (by simp) (by simp),⟨rfl,rfl⟩,List.nodup_nil,by simp⟩
     ·have e:x=.slice (some ⟨b,off,none⟩) (List.length m) cap:=k1
      subst e;exact ⟨O',_,src (j5.length (λ _ _ _ h=>h.length) c5) (λ _=>⟨b,off,rfl,rfl⟩) (j5.plain (λ _ _ _ hr=>hr.plain) c5 · · |>.1),c5,(List.nodup_cons.1 k3).2,λ c hc=>k4 c (by simp [hc])⟩
    ·cases hx
theorem c1R (hE:C8 E B) (h:RS B S ι s a w) {o:Oper} {c:Call} (ho:o.op=.call c) (hc:c.callee=.builtin .append) {x y:Operand} {T U:TypeId} (ha:c.args.toList=[x,y]) (eV:c.argTypes.toList=[T,U])
  {q:Bool} {t0:Ty} {bts d:Nat} (hT:look T E.tt=some ⟨.d0 q t0,bts⟩) {l m:List t0.den} {f g Of Og:List Nat} {v1:Value} {news:List Value} (eX:a.eval x=v1) (hR:i6 w.heap S (.d0 true t0) Of [v1] l) (nh:Of.Nodup) (qU:∀ b∈Of,M5 ι s.hp f b)
  (hs:Src E.P t0.size U (a.eval y) m.length news w) (hN:j5 (i6 w.heap S t0) t0.size Og news m) (lH:Og.Nodup) (kY:∀ b∈Og,M5 ι s.hp g b) {p:Prop} (hp:p->l.length+m.length<=140737488355328/\(l.length+m.length)*t0.wb<=140737488355328) :
  E8 E.P B o a w ((s.lay d (f++g) (.d0 true t0) (l++m)).f7 p):=by
 refine E8.Ii (λ v s' hl oO=>?_);obtain ⟨iN,gN⟩:=hp oO;obtain ⟨gn,gp⟩:=Ic hl;have db:o8 E.P 100 T (.d0 true t0)=true:=DJ (t:=.d0 q t0) (u:=.d0 true t0) rfl (p9 hE hT);have aJ:(Of++Og).Nodup:=List.nodup_append.2 ⟨nh,lH,by
  rintro c h1 c' h2 rfl;obtain ⟨i,e,i1,i2,i3⟩:=qU c h1;obtain ⟨j,e',j1,j2,j3⟩:=kY c h2;exact h.hs.dj i j e e' i2 j2 (λ e=>(List.nodup_append.1 gn).2.2 i i1 j j1 e) c i3 j3⟩
 have dJ:∀ b∈Of++Og,M5 ι s.hp (f++g) b:=λ b hb=>(List.mem_append.1 hb).elim (λ hb=>(qU b hb).mono (by simp +contextual)) (λ hb=>(kY b hb).mono (by simp +contextual));have hF:=F2.w7 h.hs aJ dJ;have hd:=h.w7 (g:=f++g) gp;obtain ⟨v',w',O',q1,q2,q3,q4,q5,_⟩:=Rx db o.type h.hs.slt hR hs hN aJ (λ c hc=>⟨(hF.2 c hc).1,(hF.2 c hc).2.2.1⟩) iN gN;have aH:c.args=#[x,y]:=by rw [<- ha]
 have ew:c.argTypes=#[T,U]:=by rw [<- eV]
 have aP:(execOp a.eval o).run E.P w=.ok (.value v') w':=by
  subst eX;simp [execOp,ho,resolve,hc,invoke,builtin,aH,ew,q1]
 have nm:F2 B S ι (St.w7 (f++g) s).hp w Of:=hF.sub nh (by simp +contextual);refine y7.lay hl aP (cs:=[v']) rfl q2 (hd.uO nm q4) ⟨q3,λ c hc=>?_⟩;obtain ⟨k1,k2⟩:=q5 c hc;rcases k1 with k1|k1
 ·exact ⟨λ hS=>by have:=h.hs.slt c hS; omega,.inl (by have:=h.hs.size; omega),k2,λ i e hi hb=>by have:=(hd.hs.bl i e hi c hb).2.2; omega⟩
 ·exact ⟨(hF.2 c k1).1,(hF.2 c k1).2.1,k2,(hF.2 c k1).2.2.2⟩
theorem SZ (hE:C8 E B) (h:RS B S ι s a w) {o:Oper} {c:Call} (ho:o.op=.call c) (hc:c.callee=.builtin .append) {x y:Operand} {T U:TypeId} (ha:c.args.toList=[x,y]) (eV:c.argTypes.toList=[T,U])
  (hk:(∃ e',E.P.underlying U=some (.slice e'))\/E.P.underlying U=some .string):E8 E.P B o a w (wq E T (s.ev x) (s.ev y) o.dst s):=by
 unfold wq
 split
 ·rename_i q t0 bts d hT hd
  split
  ·trivial
  ·rename_i t m g cn
   obtain ⟨Og,news,k1,k2,k3,k4⟩:=IQ (P:=E.P) h hk cn (h.ev y);simp only;have own:∀ {l:List t0.den} {f Of:List Nat} {v1:Value},a.eval x=v1->i6 w.heap S (.d0 true t0) Of [v1] l->Of.Nodup->(∀ b∈Of,M5 ι s.hp f b) ->
     E8 E.P B o a w (if h:t=t0 then (s.lay d (f++g) (.d0 true t0) (l++N9 h m)).f7 ((l.length+m.length:Nat)<=140737488355328/\(l.length+m.length:Nat)*(t0.wb:Nat)<=140737488355328) else .fail "append: type"):=by
    intro l f Of v1 e1 e2 e3 e4
    split
    ·rename_i ht
     subst ht;exact c1R hE h ho hc ha eV hT e1 e2 e3 e4 k1 k2 k3 k4 (λ hp=>hp)
    ·trivial
   split
   ·rename_i hx
    have ed:[a.eval x]=[Value.slice none 0 0]:=C2 h hx;exact own (f:=[]) (Of:=[]) (v1:=.slice none 0 0) (by simpa using ed) (.inl ⟨rfl,⟨none,0,rfl,λ _=>rfl⟩,rfl⟩) List.nodup_nil (by simp)
   ·rename_i u lx hx
    split
    ·obtain ⟨cs,e,hR⟩:=C2 h hx
     rcases hR with ⟨_,⟨A,c,rfl,eL⟩,rfl⟩|⟨b,off,cap,O',rfl,c2,c3,c4,c5,c6,c7⟩
     ·exact own (f:=[]) (Of:=[]) (v1:=.slice A 0 c) (by simpa [p7,Ty.agg] using e) (.inl ⟨rfl,⟨A,c,rfl,eL⟩,rfl⟩) List.nodup_nil (by simp)
     ·cases c6
    ·trivial
   ·rename_i xv _ _
    split
    ·rename_i u l f cP
     split
     ·rename_i hu
      subst hu;obtain ⟨O2,cs,r1,r2,r3,r4⟩:=zQ h.hs cP (h.ev x);have r1':a.eval x=cs.headD undef:=r1;have hcs:cs=[cs.headD undef]:=by
       have:=r2.length
       match cs,this with
       | [c],_=>rfl
      rw [hcs] at r2;exact own r1' r2 r3 r4
     ·trivial
    ·trivial
 ·trivial
end
end Go.Ex
namespace Go.Ex
section
variable {E:Env} {B:E1} {S S':Nat->Prop} {ι:Ix} {s:St} {a:Act} {w:World} {hp:List (Nat×g9)} {H H':Array Go.Obj}
def xw (a:Act) (d n:Int):Option Operand->Prop
 | none=>n=d
 | some x=>∃ k,a.eval x=.int k n
theorem Y4 (h:RS B S ι s a w) {d n:Int} {x:Option Operand} (hb:bnd s d x=some n):xw a d n x:=by
 unfold bnd at hb;split at hb
 ·cases hb; rfl
 ·rename_i x
  split at hb
  ·rename_i k m hx
   cases hb;exact ⟨k,(VX.H4 (C2 h hx)).1⟩
  ·cases hb
theorem yS {P:Program} {k:IntKind} {n:Int} {y:Nat} {c:BoundsCode} (h0:0<=n) (h1:n<=y):(Instr.sliceBound (.int k n) y c).run P w=.ok n.toNat w:=by
 simp [Instr.sliceBound,asIntOf,h0,h1]
theorem KI {P:Program} {isS:Bool} {len cap:Nat} {lo hi:Option Operand} {x y:Int} (h1:xw a 0 x lo) (h2:xw a (len:Int) y hi) (h0:0<=x) (lL:x<=y) (hy:y<=(cap:Int)) :
  (Instr.sliceBounds isS len cap (lo.map a.eval) (hi.map a.eval) none).run P w=.ok (x.toNat,y.toNat,cap) w:=by
 cases hi with
 | none =>
  have h2:y=len:=h2;cases lo with
  | none =>
   have h1:x=0:=h1;subst h1 h2;simp [Instr.sliceBounds,Sem.run_pure]
  | some z =>
   obtain ⟨k,e⟩:=h1;subst h2;simp only [Instr.sliceBounds,Option.map_some,Option.map_none,e,Sem.run_bind,Sem.run_pure,Result.andThen_ok,yS h0 lL,Int.toNat_natCast]
 | some z2 =>
  obtain ⟨k2,e2⟩:=h2;have hb:∀ c,(Instr.sliceBound (.int k2 y) cap c).run P w=.ok y.toNat w:=λ c=>yS (by omega) (by omega);cases lo with
  | none =>
   have h1:x=0:=h1;subst h1;simp [Instr.sliceBounds,e2,hb]
  | some z =>
   obtain ⟨k,e⟩:=h1;have fo:∀ c,(Instr.sliceBound (.int k x) y.toNat c).run P w=.ok x.toNat w:=λ c=>yS h0 (by omega);simp only [Instr.sliceBounds,Option.map_some,e,e2,Sem.run_bind,Sem.run_pure,Result.andThen_ok,hb,fo]
theorem b7K {P:Program} {len cap:Nat} {lo:Option Operand} {x y:Operand} {k k':IntKind} (h1:xw a 0 0 lo) (h2:a.eval x=.int k 0) (h3:a.eval y=.int k' 0) :
  (Instr.sliceBounds true len cap (lo.map a.eval) (some (a.eval x)) (some (a.eval y))).run P w=.ok (0,0,0) w:=by
 have hb:∀ (k:IntKind) (n:Nat) c,(Instr.sliceBound (.int k 0) n c).run P w=.ok 0 w:=λ k n c=>yS (n:=0) (by omega) (by omega);cases lo with
 | none=>simp only [Instr.sliceBounds,Option.map_none,h2,h3,Sem.run_bind,hb,Sem.run_pure,Result.andThen_ok,if_true]
 | some z =>
  obtain ⟨k,e⟩:=h1;simp only [Instr.sliceBounds,Option.map_some,e,h2,h3,Sem.run_bind,hb,Sem.run_pure,Result.andThen_ok,if_true]
theorem Ww {y:yY} {x z:Int} (h:0<=x):(⟨y.toArray⟩:ByteArray).extract x.toNat z.toNat=⟨(n9 x z y).toArray⟩:=by
 have:((⟨y.toArray⟩:ByteArray).extract x.toNat z.toNat).data=(n9 x z y).toArray:=by
  rw [ByteArray.data_extract];simp only [List.extract_toArray,List.extract_eq_take_drop,n9];congr 2;omega
 exact congrArg ByteArray.mk this
theorem Ve {α:Type} {x z:Int} {l:List α}:(n9 x z l).length<=l.length:=by simp only [n9,List.length_take,List.length_drop]; omega
theorem KJ {P:Program} {T:TypeId} {k:Nat} {q:Bool} {t:Ty} (hT:o8 P k T (.d0 q t)=true) {A:Option Addr} {len cap:Nat} {lo hi:Option Operand} {x y:Int} (h1:xw a 0 x lo) (h2:xw a (len:Int) y hi) (h0:0<=x) (lL:x<=y) (hy:y<=(cap:Int)) :
  (Instr.sliceAt T (.slice A len cap) (lo.map a.eval) (hi.map a.eval) none).run P w=.ok (.slice (if cap=x.toNat then A else A.map (·.add (x.toNat*t.size))) (y.toNat - x.toNat) (cap - x.toNat)) w:=by
 obtain ⟨et,k',e1,e2,e3⟩:=F8 hT;simp only [Instr.sliceAt,Instr.slice,Sem.run_bind,u6 e1,Result.andThen_ok,KI h1 h2 h0 lL hy,run_sizeOf e3,Sem.run_pure]
theorem JA {P:Program} {T:TypeId} {k:Nat} {q:Bool} {t:Ty} (hT:o8 P k T (.d0 q t)=true) {A:Option Addr} {len cap:Nat} {lo hi:Option Operand} {x y:Int} (h1:xw a 0 x lo) (h2:xw a (len:Int) y hi) (h0:0<=x) (lL:x<=y) (hy:y<=(len:Int)) (hc:len<=cap) :
  (Instr.sliceAt T (.slice A len cap) (lo.map a.eval) (hi.map a.eval) none).run P w=.ok (.slice (if cap=x.toNat then A else A.map (·.add (x.toNat*t.size))) (y.toNat - x.toNat) (cap - x.toNat)) w:=KJ hT h1 h2 h0 lL (by omega)
theorem b5c (hE:C8 E B) (h:RS B S ι s a w) {o:Oper} {T:TypeId} {x:Operand} {lo hi mx:Option Operand} (ho:o.op=.slice T x lo hi mx):E8 E.P B o a w (xQ E T (s.ev x) lo hi mx s):=by
 have he:execOp a.eval o=(do pure (.value (<- Instr.sliceAt T (a.eval x) (lo.map a.eval) (hi.map a.eval) (mx.map a.eval)))):=by simp [execOp,ho]
 unfold xQ
 split
 ·trivial
 ·rename_i m iR
  have h1:=Y4 h iR;have nil3:∀ {q:Bool} {t:Ty} {A:Option Addr} {len cap:Nat} {c n:Int},I6 E T (.d0 q t)=true->hi.isSome=true->(∃ z,mx=some z)->bnd s 0 mx=some c->(bnd s (len:Int) hi=some n)->a.eval x=.slice A len cap->m=0/\n=0/\c=0 ->
    y7 E.P B o a w (.val (.d0 true t) ([]:List t.den)) s:=by
   rintro q t A len cap c n bB hh ⟨z,rfl⟩ hm hb hv ⟨rfl,rfl,rfl⟩;cases hi with
   | none=>cases hh
   | some y =>
    obtain ⟨k1,e1⟩:=Y4 h hb;obtain ⟨k2,e2⟩:=Y4 h hm;obtain ⟨et,k',f1,f2,f3⟩:=F8 (D0 hE bB);refine y7.value (val:=.slice A 0 0) ?_ h ⟨[.slice A 0 0],rfl,.inl ⟨rfl,⟨A,0,rfl,λ _=>rfl⟩,rfl⟩⟩;rw [he];simp only [Option.map_some,hv,Instr.sliceAt,Instr.slice,Sem.run_bind,u6 f1,Result.andThen_ok,b7K h1 e1 e2,run_sizeOf f3,Sem.run_pure];simp
  have any3:∀ {q:Bool} {t:Ty} {A:Option Addr} {len cap:Nat} {c n:Int},I6 E T (.d0 q t)=true->hi.isSome=true->lo.isSome=true->(∃ z,mx=some z)->bnd s 0 mx=some c->(bnd s (len:Int) hi=some n)->a.eval x=.slice A len cap->len<=cap->(0<=m/\m<=n/\n<=c/\c<=(len:Int)) ->
    y7 E.P B o a w .any s:=by
   rintro q t A len cap c n bB hh lD ⟨z,rfl⟩ hm hb hv cM ⟨g1,g2,g3,g4⟩;cases hi with
   | none=>cases hh
   | some y =>
    cases lo with
    | none=>cases lD
    | some z0 =>
     obtain ⟨k1,e1⟩:=Y4 h hb;obtain ⟨k2,e2⟩:=Y4 h hm;obtain ⟨k0,e0⟩:=h1;obtain ⟨et,k',f1,f2,f3⟩:=F8 (D0 hE bB);have dC:∀ d,(Instr.sliceBound (.int k2 c) cap d).run E.P w=.ok c.toNat w:=λ d=>yS (by omega) (by omega);have fo:∀ d,(Instr.sliceBound (.int k1 n) c.toNat d).run E.P w=.ok n.toNat w:=λ d=>yS (by omega) (by omega);have pX:∀ d,(Instr.sliceBound (.int k0 m) n.toNat d).run E.P w=.ok m.toNat w:=λ d=>yS g1 (by omega);refine y7.value (val:=.slice (if c.toNat=m.toNat then A else A.map (·.add (m.toNat*t.size))) (n.toNat - m.toNat) (c.toNat - m.toNat)) ?_ h ⟨_,rfl⟩;rw [he];simp only [Option.map_some,hv,Instr.sliceAt,Instr.slice,Instr.sliceBounds,e0,e1,e2,dC,fo,pX,Sem.run_bind,u6 f1,Result.andThen_ok,run_sizeOf f3,Sem.run_pure,if_true]
  split
  ·rename_i y hx
   split
   ·rename_i n hb
    split
    ·rename_i bB
     rintro ⟨g1,g2,g3⟩;obtain ⟨hv,hl⟩:=VX.yE (C2 h hx);have hu:=W6 (D0 hE bB);refine y7.value (val:=.string ⟨(n9 m n y).toArray⟩) ?_ h (VX.str (Nat.le_trans Ve hl));rw [he];have aW:(⟨y.toArray⟩:ByteArray).size=List.length y:=rfl;simp only [hv,Option.map_none,Instr.sliceAt,Instr.slice,Sem.run_bind,u6 hu,Result.andThen_ok,aW];simp only [Option.isSome_none,Bool.false_eq_true,if_false,KI (isS:=false) h1 (Y4 h hb) g1 g2 g3,Sem.run_pure,Result.andThen_ok,Sem.run_bind,Ww g1]
    ·trivial
   ·trivial
  ·rename_i t y hx
   obtain ⟨cs,e,hR⟩:=C2 h hx
   split
   ·rename_i n hb
    split
    ·rename_i bB
     rintro ⟨g1,g2,g3⟩;have key:∀ {A:Option Addr} {cap:Nat},a.eval x=.slice A (List.length y) cap->List.length y<=cap->(∃ cs',Value.slice (if cap=m.toNat then A else A.map (·.add (m.toNat*t.size))) (n.toNat - m.toNat) (cap - m.toNat)=p7 (.d0 false t) cs'/\i6 w.heap S (.d0 false t) [] cs' (n9 m n y)) ->
       y7 E.P B o a w (.val (.d0 false t) (n9 m n y)) s:=by
      rintro A cap hv hc ⟨cs',e1,e2⟩;refine y7.value (val:=p7 (.d0 false t) cs') ?_ h ⟨cs',rfl,e2⟩;rw [he,hv,<- e1];simp only [Option.map_none,Sem.run_bind,JA (D0 hE bB) h1 (Y4 h hb) g1 g2 g3 hc,Result.andThen_ok,Sem.run_pure]
     have hlen:(n9 m n y).length=(n - m).toNat:=Z9 g1 g3;rcases hR with ⟨_,⟨A,c,rfl,_⟩,rfl⟩|⟨b1,o1,cap,O',rfl,c2,c3,c4,c5,c6,rfl,c7⟩
     ·have hn:n=0:=by have:n<=((([]:List t.den).length:Nat):Int):=g3; simp at this; omega
      have gZ:m=0:=by omega
      subst hn gZ;exact key (A:=A) (cap:=c) (by simpa [p7,Ty.agg] using e) (by simp) ⟨[_],rfl,.inl ⟨rfl,⟨_,_,rfl,by simp⟩,by simp [n9]⟩⟩
     ·refine key (A:=some ⟨b1,o1,none⟩) (cap:=cap) (by simpa [p7,Ty.agg] using e) c2 ⟨[_],rfl,?_⟩
      by_cases hz:n9 m n y=[]
      ·have:n.toNat - m.toNat=0:=by rw [hz] at hlen; simp at hlen; omega
       rw [this];exact .inl ⟨rfl,⟨_,_,rfl,by simp⟩,hz⟩
      ·have gk:0<(n - m).toNat:=by rw [<- hlen]; exact List.length_pos_iff.2 hz
       obtain ⟨P1,P2,P3,e1,g⟩:=c5.cut m.toNat (n - m).toNat;have hP:P2=[]:=by have:=e1.symm; simp at this; exact this.2.1
       subst hP;have hle:m.toNat*t.size+(n - m).toNat*t.size<=List.length y*t.size:=by rw [<- Nat.add_mul]; exact Nat.mul_le_mul_right _ (by omega)
       rw [o5,n6 _ _ _ _ (by omega)] at g;refine .inr ⟨b1,o1+m.toNat*t.size,cap - m.toNat,[],?_,by rw [hlen]; omega,⟨by have:=c3.1; omega,by simp⟩,by rw [hlen]; omega,by rw [hlen]; exact g,rfl,rfl,c7⟩;rw [if_neg (by omega),Option.map_some,Addr.G9,hlen,show n.toNat - m.toNat=(n - m).toNat from by omega]
    ·trivial
   ·rename_i z hb
    split
    ·rename_i c bB hc
     simp only [Bool.and_eq_true] at bB;intro hp;obtain ⟨A,c,e1,_⟩:=Bg hR;exact nil3 bB.1 bB.2 ⟨_,rfl⟩ hc hb (by rw [show a.eval x=p7 (.d0 false t) cs by simpa using e]; exact e1) hp
    ·trivial
   ·trivial
  ·rename_i t y hx
   obtain ⟨cs,e,hR⟩:=C2 h hx
   split
   ·rename_i n hb
    split
    ·rename_i bB
     obtain ⟨fl,l,m'⟩:=y;rintro ⟨rfl,g1,g2,g3⟩;obtain ⟨b1,o1,O',rfl,c2,c4,c5,_,rfl,c7⟩:=hR;have hv:a.eval x=.slice (some ⟨b1,o1,none⟩) l.length (l.length+m'.length):=by simpa [p7,Ty.agg] using e
     have g3:n<=((l++m').length:Int):=by rw [List.length_append]; exact g3
     have hlen:(n9 m n (l++m')).length=(n - m).toNat:=Z9 g1 g3;have c4':=c4;rw [List.length_append] at g3;refine y7.value (val:=.slice (if l.length+m'.length=m.toNat then some ⟨b1,o1,none⟩ else (some ⟨b1,o1,none⟩:Option Addr).map (·.add (m.toNat*t.size))) (n.toNat - m.toNat) (l.length+m'.length - m.toNat)) ?_ h ⟨[_],rfl,?_⟩
     ·rw [he,hv]
      simp only [Option.map_none,Sem.run_bind,KJ (D0 hE bB) h1 (Y4 h hb) g1 g2 g3,Result.andThen_ok,Sem.run_pure]
     by_cases hz:n9 m n (l++m')=[]
     ·have:n.toNat - m.toNat=0:=by rw [hz] at hlen; simp at hlen; omega
      rw [this];exact .inl ⟨rfl,⟨_,_,rfl,by simp⟩,hz⟩
     ·have gk:0<(n - m).toNat:=by rw [<- hlen]; exact List.length_pos_iff.2 hz
      obtain ⟨P1,P2,P3,e1,g⟩:=c5.cut m.toNat (n - m).toNat;have hP:P2=[]:=by have:=e1.symm; simp at this; exact this.2.1
      subst hP;have hle:m.toNat*t.size+(n - m).toNat*t.size<=List.length (l++m')*t.size:=by rw [<- Nat.add_mul,List.length_append]; exact Nat.mul_le_mul_right _ (by omega)
      rw [o5,n6 _ _ _ _ (by omega)] at g;refine .inr ⟨b1,o1+m.toNat*t.size,l.length+m'.length - m.toNat,[],?_,by rw [hlen]; omega,⟨by have:=c2.1; omega,by simp⟩,by rw [hlen]; omega,by rw [hlen]; exact g,rfl,rfl,c7⟩;rw [if_neg (by omega),Option.map_some,Addr.G9,hlen,show n.toNat - m.toNat=(n - m).toNat from by omega]
    ·trivial
   ·trivial
  ·rename_i hx
   split
   ·rename_i n q t bts hb hT
    rintro ⟨rfl,rfl⟩;have hv:a.eval x=.slice none 0 0:=by simpa using (show [a.eval x]=[Value.slice none 0 0] from C2 h hx)
    refine y7.value (val:=.slice none 0 0) ?_ h rfl;rw [he,hv];have:=JA (w:=w) (A:=none) (len:=0) (cap:=0) (p9 hE hT) h1 (Y4 h hb) (Int.le_refl _) (Int.le_refl _) (Int.le_refl _) (Nat.le_refl _);simp only [Option.map_none,Sem.run_bind,this,Result.andThen_ok,Sem.run_pure];simp
   ·trivial
  ·rename_i i p hx
   obtain ⟨e,u,y0,cs,k1,k2,k3,k4,k5⟩:=C2 h hx;have k5:a.eval x=p7 u cs:=by simpa using k5
   split
   ·rename_i t y cO
    have hg:=H3 k1 cO;rw [k3] at hg; cases hg;obtain ⟨O2,m1,m2,m3⟩:=G1 h.hs k1 k2 k3 k4;have mM:∃ A cap,cs=[.slice A (List.length y) cap]/\List.length y<=cap:=by
     rcases m3 with ⟨_,⟨A,c,rfl,_⟩,rfl⟩|⟨b1,o1,cap,O',rfl,c2,_⟩
     ·exact ⟨A,c,rfl,by simp⟩
     ·exact ⟨_,cap,rfl,c2⟩
    obtain ⟨A,cap,rfl,hc⟩:=mM;have k5:a.eval x=.slice A (List.length y) cap:=k5
    split
    ·rename_i n hb
     split
     ·rename_i bB
      rintro ⟨g1,g2,g3⟩;refine y7.value (val:=.slice (if cap=m.toNat then A else A.map (·.add (m.toNat*t.size))) (n.toNat - m.toNat) (cap - m.toNat)) ?_ h ⟨e,_,k1,k2,rfl,g1,g2,.inl ⟨t,y,A,cap,k3,g3,k4,_,_,by rw [show (n - m).toNat=n.toNat - m.toNat from by omega],λ bE=>by rw [if_neg (by omega)],by omega,by omega⟩⟩;rw [he,k5];simp only [Option.map_none,Sem.run_bind,JA (D0 hE bB) h1 (Y4 h hb) g1 g2 g3 hc,Result.andThen_ok,Sem.run_pure]
     ·trivial
    ·rename_i z hb
     split
     ·rename_i c bB dB
      simp only [Bool.and_eq_true] at bB
      split
      ·intro hp
       exact nil3 bB.1 bB.2 ⟨_,rfl⟩ dB hb k5 hp
      ·rename_i ph
       rintro ⟨g1,g2,g3,g4⟩;exact any3 bB.1 bB.2 ph ⟨_,rfl⟩ dB hb k5 hc ⟨g1,g2,g3,g4⟩
     ·trivial
    ·trivial
   ·trivial
  ·rename_i i p a0 b0 hx
   obtain ⟨e,v,k1,k2,k3,k4,k5,k6⟩:=C2 h hx;have k3:a.eval x=v:=by simpa using k3
   have core:∀ {t:Ty} {n:Int} {A0:Option Addr} {cap:Nat},I6 E T (.d0 true t)=true->bnd s (b0 - a0) hi=some n->mx=none->0<=m->m<=n->a0+n<=(cap:Int)->Ak t.size A0 cap a0 b0 v->∃ val,(execOp a.eval o).run E.P w=.ok (.value val) w/\Ak t.size A0 cap (a0+m) (a0+n) val:=by
    rintro t n A0 cap bB hb rfl g1 g2 g3 ⟨c,A,e1,e2,e3,e4⟩;refine ⟨.slice (if c=m.toNat then A else A.map (·.add (m.toNat*t.size))) (n.toNat - m.toNat) (c - m.toNat),?_,_,_,by rw [show (a0+n - (a0+m)).toNat=n.toNat - m.toNat from by omega],?_,by omega,by omega⟩
    ·rw [he,k3,e1]
     have cQ:bnd s (((b0 - a0).toNat:Nat):Int) hi=some n:=by rw [Int.toNat_of_nonneg (by omega)]; exact hb
     simp only [Option.map_none,Sem.run_bind,KJ (A:=A) (cap:=c) (D0 hE bB) h1 (Y4 h cQ) g1 g2 (show n<=(c:Int) by omega),Result.andThen_ok,Sem.run_pure]
    ·intro bE
     rw [if_neg (by omega),e2 (by omega),Option.map_map,show (a0+m).toNat=a0.toNat+m.toNat from by omega];congr 1
     funext ad
     have la:∀ x y:Nat,(ad.add x).add y=ad.add (x+y):=by
      intro x y;unfold Addr.add;by_cases hx:x=0<;>by_cases hy:y=0<;>simp [hx,hy,Nat.add_assoc]
     simp only [Function.comp,Nat.add_mul,la]
   split
   ·rename_i t y dU
    split
    ·rename_i n hb
     split
     ·rename_i bB
      rintro ⟨g1,g2,g3⟩;have hg:=H3 k1 dU;rcases k6 with ⟨t',l,A,cap,q1,q2,q3,q4⟩|⟨n',t',l,b2,off2,q1,q2,q3,q4⟩
      ·rw [q1] at hg; cases hg
       obtain ⟨O2,m1,m2,m3⟩:=G1 h.hs k1 k2 q1 q3;have hc:List.length y<=cap:=by
        rcases m3 with ⟨_,⟨A,c,_,_⟩,rfl⟩|⟨b1,o1,gF,O',c1,c2,_⟩
        ·simp
        ·cases c1; exact c2
       obtain ⟨val,r1,r2⟩:=core bB hb rfl g1 g2 (by omega) q4;exact y7.value r1 h ⟨e,val,k1,k2,rfl,by omega,by omega,.inl ⟨_,_,A,cap,q1,by omega,q3,r2⟩⟩
      ·rw [q1] at hg; cases hg
     ·trivial
    ·trivial
   ·rename_i n0 t y dU
    split
    ·rename_i n hb
     split
     ·rename_i bB
      rintro ⟨g1,g2,g3⟩;have hg:=H3 k1 dU;rcases k6 with ⟨t',l,A,cap,q1,q2,q3,q4⟩|⟨n',t',l,b2,off2,q1,q2,q3,q4⟩
      ·rw [q1] at hg; cases hg
      ·rw [q1] at hg; cases hg
       obtain ⟨val,r1,r2⟩:=core bB hb rfl g1 g2 (by omega) q4;exact y7.value r1 h ⟨e,val,k1,k2,rfl,by omega,by omega,.inr ⟨_,_,_,b2,off2,q1,⟨by omega,q2.2⟩,q3,r2⟩⟩
     ·trivial
    ·trivial
   ·trivial
  ·rename_i i p hx
   obtain ⟨e,b,off,k1,k2,k3,k4⟩:=C2 h hx;have k4:a.eval x=.pointer (some ⟨b,off,none⟩):=by simpa using k4
   split
   ·rename_i N t y cO
    have hg:=H3 k1 cO
    split
    ·rename_i n hb
     split
     ·rename_i bB
      simp only [Bool.and_eq_true,Nat.ble_eq] at bB;rintro ⟨g1,g2,g3⟩;have fo:=KI (P:=E.P) (w:=w) (isS:=false) h1 (Y4 h hb) g1 g2 g3;refine y7.value (val:=.slice (some (if N=m.toNat then ⟨b,off,none⟩ else (⟨b,off,none⟩:Addr).add (m.toNat*t.size))) (n.toNat - m.toNat) (N - m.toNat)) ?_ h ⟨e,_,k1,k2,rfl,g1,g2,.inr ⟨N,t,y,b,off,hg,⟨g3,by have:=bB.2; unfold maxLen; omega⟩,k3,_,_,by rw [show (n - m).toNat=n.toNat - m.toNat from by omega],λ bE=>by rw [if_neg (by omega)]; rfl,by omega,by omega⟩⟩;rw [he,k4];have hc:=bB.1;unfold xQ.Lv at hc;split at hc
      ·rename_i A hT
       obtain ⟨et,k',f1,f2,f3⟩:=xo (D0 hE hc);simp only [Option.map_none,Instr.sliceAt,Instr.slice,Sem.run_bind,u6 hT,u6 f1,asAddr,fo,Result.andThen_ok,Sem.run_pure,run_sizeOf f3]
      ·obtain ⟨et,k',f1,f2,f3⟩:=xo (D0 hE hc)
       simp only [Option.map_none,Instr.sliceAt,Sem.run_bind,u6 f1,Instr.sureAddr,fo,Result.andThen_ok,Sem.run_pure,run_sizeOf f3]
      ·cases hc
     ·trivial
    ·trivial
   ·trivial
  ·trivial
end
end Go.Ex
namespace Go.Ex
section
variable {E:Env} {B:E1} {S S':Nat->Prop} {ι:Ix} {s:St} {a:Act} {w:World} {hp:List (Nat×g9)} {H H':Array Go.Obj}
theorem j5.two {α:Type} {R:List Nat->List Value->α->Prop} {sz:Nat} (hR:∀ O cs x,R O cs x->cs.length=sz) (h0:∀ O cs x,R O cs x->O=[]) {l m:List α} {O:List Nat} {cs:List Value} (h:j5 R sz O cs (l++m)):j5 R sz [] (cs.take (l.length*sz)) l/\j5 R sz [] (cs.drop (l.length*sz)) m:=by
 induction l generalizing O cs with
 | nil =>
  have:=j5.N1 h0 h;subst this;exact ⟨⟨rfl,by simp⟩,by simpa using h⟩
 | cons x l ih =>
  obtain ⟨O1,O2,e,h1,h2⟩:=h;obtain ⟨k1,k2⟩:=ih h2;have e1:=h0 _ _ _ h1;subst e1;refine ⟨⟨[],[],rfl,?_,?_⟩,?_⟩
  ·rw [List.take_take,List.length_cons,Nat.succ_mul,Nat.min_eq_left (by omega)]; exact h1
  ·rw [List.length_cons,Nat.succ_mul,List.drop_take,show l.length*sz+sz - sz=l.length*sz by omega]; exact k1
  ·rw [List.length_cons,Nat.succ_mul,Nat.add_comm,<- List.drop_drop]; exact k2
theorem b8B (hE:C8 E B) (h:RS B S ι s a w) {o:Oper} {c:Call} (ho:o.op=.call c) (hc:c.callee=.builtin .append) {x y:Operand} {T U:TypeId} (ha:c.args.toList=[x,y]) (eV:c.argTypes.toList=[T,U])
  (hk:∃ e',E.P.underlying U=some (.slice e')):E8 E.P B o a w (CZ E T (s.ev x) (s.ev y) o.dst s):=trivial
theorem c1T (hE:C8 E B) (h:RS B S ι s a w) {o:Oper} {c:Call} (ho:o.op=.call c) (hc:c.callee=.builtin .append) {x y:Operand} {T U:TypeId} (ha:c.args.toList=[x,y]) (eV:c.argTypes.toList=[T,U])
  (hk:∃ e',E.P.underlying U=some (.slice e')):E8 E.P B o a w (wV E T (s.ev x) (s.ev y) o.dst s):=by
 unfold wV
 split
 ·exact b8B hE h ho hc ha eV hk
 ·exact SZ hE h ho hc ha eV (.inl hk)
end
end Go.Ex
namespace Go.Ex
section
variable {E:Env} {B:E1} {S S':Nat->Prop} {ι:Ix} {s:St} {a:Act} {w:World} {hp:List (Nat×g9)} {H H':Array Go.Obj}
theorem NP {q:Bool} {u:Ty} {O:List Nat} {cs:List Value} {z:List u.den} (hR:i6 H S (.d0 q u) O cs z):z.length<=maxLen:=by
 rcases hR with ⟨_,_,h2⟩|⟨b,off,cap,O',c1,c2,c3,_⟩
 ·rw [h2]; exact Nat.zero_le _
 ·have:=c3.1
  have c2:z.length<=cap:=c2;omega
theorem HL (h:HS B S ι s.hp w) {v:AV} {val:Value} (hv:VX w.heap S ι s.hp v [val]) {t:Ty} {l:List t.den} (hw:v.els s=some ⟨t,l⟩):l.length<=maxLen:=by
 unfold AV.els at hw;split at hw
 ·cases hw
  obtain ⟨cs,_,hR⟩:=hv;exact NP hR
 ·rename_i i p
  split at hw
  ·rename_i q t' l' hp
   cases hw;obtain ⟨e,u,y,cs,h1,h2,h3,h4,h5⟩:=hv;have hg:=H3 h1 hp;rw [h3] at hg; cases hg;obtain ⟨O2,m1,m2,m3⟩:=G1 h h1 h2 h3 h4;exact NP m3
  ·cases hw
 ·obtain ⟨A,c,_,k⟩:=NQ h hv hw
  rcases k with rfl|⟨b,off,O,_,_,_,_,_,k1,k2⟩
  ·exact Nat.zero_le _
  ·omega
 ·cases hw
theorem Vc (c:UInt8):r7 .u8 (c.toNat:Int):=by
 simp only [r7,IntKind.min,IntKind.max,IntKind.signed,IntKind.bits]; have:=c.toNat_lt; simp; omega
theorem YS (y:yY):j5 (i6 H S (.int .u8)) 1 [] (byteCells ⟨y.toArray⟩) (List.map (λ b:UInt8=>(b.toNat:Int)) y:List Int):=by
 simp only [byteCells]
 induction y with
 | nil=>exact ⟨rfl,rfl⟩
 | cons c y ih=>exact ⟨[],[],rfl,⟨rfl,rfl,Vc c⟩,by simpa [Ty.size] using ih⟩
theorem RV {k:IntKind}:∀ {l:List Int} {O:List Nat} {cs:List Value},j5 (i6 H S (.int k)) 1 O cs l->cs=l.map (Value.int k)
 | [],_,_,⟨_,h⟩=>h
 | n::l,O,cs,⟨O1,O2,_,h1,h2⟩=>by
  have e1:cs.take 1=[.int k n]:=h1.2.1;have e2:=RV h2;rw [<- List.take_append_drop 1 cs,e1,e2]; rfl
theorem Ps:∀ (l:List Int) (r:ByteArray),l.foldl (λ r n=>r.push (UInt8.ofNat n.toNat)) r=⟨r.data++(l.map λ n=>UInt8.ofNat n.toNat).toArray⟩
 | [],r=>by simp
 | n::l,r=>by
  rw [List.foldl_cons,Ps l];simp [ByteArray.push]
theorem b4p (hE:C8 E B) (h:RS B S ι s a w) {o:Oper} {T T':TypeId} {x:Operand} (ho:o.op=.convert T' T x):E8 E.P B o a w (l8 E o s):=by
 have he:execOp a.eval o=(do pure (.value (<- convert T' T (a.eval x)))):=by simp [execOp,ho]
 unfold l8;rw [ho];simp only
 split
 ·rename_i k n k0 by0 k' by_ hx lf hT
  obtain ⟨hv,_⟩:=VX.H4 (C2 h hx);have hu:=ye (p9 hE hT);have ov:=ye (p9 hE lf);refine I1 he h (val:=.int k' (k'.wrap n)) ?_ (VX.int (T6 _ _));rw [hv];simp [convert,u6 hu,u6 ov,Conv.intToInt]
 ·rename_i y b0 b1 hx lf hT
  split
  ·rename_i d hd
   refine E8.lay (λ v s' hl=>?_);obtain ⟨hv,hlen⟩:=VX.yE (C2 h hx);have ov:=W6 (p9 hE lf);obtain ⟨et,k',f1,f2,f3⟩:=F8 (p9 hE hT);have f4:=ye f3;have aP:=run_bytes_of_string (P:=E.P) w T' T et ⟨y.toArray⟩ ov f1 f4;have aW:(⟨y.toArray⟩:ByteArray).size=List.length y:=rfl;rw [aW] at aP;have jW:=grownCap_ge w (List.length y) 0 et;have fN:=grownCap_le_maxLen w (List.length y) 0 et hlen;generalize grownCap w (List.length y) 0 et=gc at aP jW fN;have cC:(bytesRow ⟨y.toArray⟩ gc)=(byteCells ⟨y.toArray⟩++List.replicate (gc - List.length y) (Value.int .u8 0)).toArray:=by
    apply Array.ext';simp [bytesRow,byteCells,aW]
   rw [cC] at aP;have bN:(byteCells ⟨y.toArray⟩).length=List.length y:=by rw [byteCells_length]; rfl
   have gY:(List.map (λ b:UInt8=>(b.toNat:Int)) y).length=List.length y:=List.length_map ..;have hp:D3 [] w (w.drew.alloc (.cells (byteCells ⟨y.toArray⟩++List.replicate (gc - List.length y) (Value.int .u8 0)).toArray et ((byteCells ⟨y.toArray⟩++List.replicate (gc - List.length y) (Value.int .u8 0)).toArray.size,(byteCells ⟨y.toArray⟩++List.replicate (gc - List.length y) (Value.int .u8 0)).toArray.size+1))) :=
    D3.trans D3.drew (D3.push _) (by simp)
   obtain ⟨O2,k1,k2,k3⟩:=Ec (w:=w) (S:=S) (t:=.int .u8) (l:=(List.map (λ b:UInt8=>(b.toNat:Int)) y:List Int)) (cap:=gc) h.hs.slt (O:=[]) (cells:=byteCells ⟨y.toArray⟩++List.replicate (gc - List.length y) (Value.int .u8 0)) (by
    show j5 _ 1 [] (List.take ((List.map (λ b:UInt8=>(b.toNat:Int)) y).length*1) _) _;rw [gY,Nat.mul_one,List.take_left' bN];exact YS y) (by show (List.map (λ b:UInt8=>(b.toNat:Int)) y).length<=gc; rw [gY]; exact jW) fN (by simp only [List.length_append,List.length_replicate,bN,Ty.size]; omega) et (by simp)
    (w':=w.drew.alloc (.cells (byteCells ⟨y.toArray⟩++List.replicate (gc - List.length y) (Value.int .u8 0)).toArray et ((byteCells ⟨y.toArray⟩++List.replicate (gc - List.length y) (Value.int .u8 0)).toArray.size,(byteCells ⟨y.toArray⟩++List.replicate (gc - List.length y) (Value.int .u8 0)).toArray.size+1))) rfl (.inr ⟨rfl,by simp⟩)
   have dV:=h.w7 (g:=[]) rfl;refine y7.lay hl (val:=.slice (some ⟨w.heap.size,0,none⟩) (List.length y) gc) (by rw [he,hv]; simp only [Sem.run_bind,aP,Result.andThen_ok,Sem.run_pure]) (by rw [<- gY]; rfl) k1 (dV.uO F2.nil hp) (F2.new dV F2.nil hp (by show w.heap.size<(w.heap.push _).size; simp) k2 (k3 List.nodup_nil))
  ·trivial
 ·rename_i b0 b1 _ lf hT
  obtain ⟨et,k',f1,f2,f3⟩:=F8 (p9 hE lf);have f4:=ye f3;have f5:=W6 (p9 hE hT)
  split
  ·rename_i l fj
   obtain ⟨A,c,e,k⟩:=DD h.hs (h.ev x) fj;have hlen:=HL h.hs (h.ev x) fj;refine I1 he h (val:=.string ⟨(List.map (λ n:Int=>UInt8.ofNat n.toNat) l).toArray⟩) ?_ (VX.str (by rw [List.length_map]; exact hlen));rw [e];simp only [convert,Sem.run_bind,u6 f1,u6 f5,Result.andThen_ok,u6 f4];have cj:∀ a0:Addr,(loadCells a0 l.length).run E.P w=.ok (l.map (Value.int .u8)).toArray w->(Conv.bytesToString (.slice (some a0) l.length c)).run E.P w=.ok (.string ⟨(List.map (λ n:Int=>UInt8.ofNat n.toNat) l).toArray⟩) w:=by
    intro a0 hl;rw [run_bytesToString w a0 l.length c l hl,Ps];simp
   rcases k with rfl|⟨b,off,O',rfl,k1,k2,k3,k4⟩
   ·cases A with
    | none=>simp [Conv.bytesToString,Sem.run_pure]; rfl
    | some A=>exact cj A (run_firstCells_some w 1 0 A 0 c [] (by simp) (by simp))
   ·refine cj _ ?_
    have hc:=RV k3;have:=run_firstCells_some (P:=E.P) w 1 l.length ⟨b,off,none⟩ l.length c (l.map (Value.int .u8)) (by simp) (λ j u hu=>by
     rw [Addr.G9]; rw [<- hc] at hu; exact M4 hu)
    simpa [Builtin.firstCells] using this
  ·split
   ·rename_i hx
    have ed:[a.eval x]=[Value.slice none 0 0]:=C2 h hx;have ed:a.eval x=Value.slice none 0 0:=by simpa using ed
    refine I1 he h (val:=.string ⟨([]:yY).toArray⟩) ?_ (VX.str (by simp));rw [ed];simp [convert,Sem.run_bind,u6 f1,u6 f5,Result.andThen_ok,u6 f4,Conv.bytesToString,Sem.run_pure];rfl
   ·trivial
 ·trivial
end
end Go.Ex
