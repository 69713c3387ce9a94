import Derived.Test.YtijlnmgondibnaaGreatDoorExK3
import Derived.Laws.AppendOwn
import Derived.Laws.BytesString
import Derived.Laws.IdiomStrings
import Derived.Deep.AppendSrc
set_option linter.unusedVariables false
set_option linter.unusedSimpArgs false
set_option linter.unusedSectionVars false
namespace Go.Ex
section
variable {E:Env} {B:D4} {S S':Nat->Prop} {ι:Ix} {s:St} {a:Act} {w:World} {hp:List (Nat×g8)} {H H':Array Go.Obj}
def bxV (g:Option Nat) (i:Nat):AV:=match g with|none=>.ptr i []|some f=>.B8 f (.cons (.ptr i []) .nil)
theorem a8L (t:Ty) (x:t.den) (i:Nat):a1E t x i=(.own t x,.at_ i [])\/∃ g u y,(⟨t,x⟩:Sigma Ty.den)=⟨.box true g u,some y⟩/\a1E t x i=(.var u y,bxV g i):=by
 unfold a1E
 split
 ·exact .inr ⟨none,_,_,rfl,rfl⟩
 ·exact .inr ⟨some _,_,_,rfl,rfl⟩
 ·exact .inl rfl
theorem c1z {t:Ty} {x:t.den} {i k:Nat} (h:k≠i):(a1E t x i).2.i6 k=false:=by
 rcases a8L t x i with e|⟨g,u,y,_,e⟩
 ·rw [e]; exact a2H h
 ·rw [e]
  cases g with
  | none=>exact a2H h
  | some f=>show (AV.i6 k (.ptr i []) || false)=false; rw [Bool.or_false]; exact a2H h
theorem b87 {t:Ty} {x:t.den} {i:Nat} {O:List Nat} {cs:List Value} (hR:f8 H S t O cs x) (aI:O.Nodup):∃ ι1,(∀ j,j≠i->E0 ι ι1 j)/\OB H S ι1 i (a1E t x i).1/\(∀ b∈l6 ι1 i (a1E t x i).1,b∈O) /\
  VX H S ι1 (Ex.put i (a1E t x i).1 hp) (a1E t x i).2 [j9 t cs]:=by
 rcases a8L t x i with e|⟨g,u,y,e0,e⟩
 ·rw [e]
  exact ⟨ι.R6 i cs O,λ j hj=>a2f hj _ _,⟨⟨O,by simp [Ix.R6],by simpa [Ix.R6] using hR⟩,by simpa [Ix.R6] using aI⟩,by intro b hb; simpa [l6,Ix.R6] using hb,a4X hR.length⟩
 ·cases e0
  rw [e];rcases hR with ⟨h0,_⟩|⟨z,b,off,O',h0,rfl,h2,h3,rfl,h5⟩
  ·cases h0
  cases h0;have bo:b<H.size:=by obtain ⟨_,_,⟨_,e,_⟩,_⟩:=h5; exact (Array.getElem?_eq_some_iff.1 e).1
  refine ⟨ι.Q6 i (b,off) O',λ j hj=>a4i hj _ _,⟨⟨O',by simp [Ix.Q6],by simpa [Ix.Q6] using h3⟩,by simpa [Ix.Q6] using h5,by simpa [Ix.Q6] using aI⟩,by intro c hc; simpa [l6,Ix.Q6] using hc,?_⟩;have hp:VX H S (ι.Q6 i (b,off) O') (Ex.put i (.var u y) hp) (.ptr i []) [.pointer (some ⟨b,off,none⟩)]:=by
   refine ⟨.var u y,b,off,by simp [o7],K9,?_,rfl⟩;simp only [Loc,Place,VR,VH,x6,Ix.Q6,if_true,bo]
  cases g with
  | none=>exact hp
  | some f=>exact ⟨[.pointer (some ⟨b,off,none⟩)],rfl,_,_,rfl,hp,rfl⟩
theorem a3B:∀ {ts:List Ty} {x:DL ts} {d j:Nat} {ι:Ix} {hp:List (Nat×g8)} {l:AV} {cn:List (Nat×g8)} {O:List Nat} {us:List Value},V6 ts x d j hp=some (l,cn)->HS B S ι hp w->J1 w.heap S ts O us x ->
  C9 B S ι hp w O->∃ ι',HS B S ι' cn w/\VX w.heap S ι' cn l us/\(∀ v vs,(∀ k,j<=k->k<j+ts.length->v.i6 (L9 d k)=false)->VX w.heap S ι hp v vs->VX w.heap S ι' cn v vs)
 | [],x,d,j,ι,hp,l,cn,O,us,hl,h,hR,_=>by
  simp only [V6,Option.some.injEq,Prod.mk.injEq] at hl;obtain ⟨rfl,rfl⟩:=hl;exact ⟨ι,h,hR.2,λ v vs _ hv=>hv⟩
 | t::ts,x,d,j,ι,hp,l,cn,O,us,hl,h,⟨v1,us1,O1,O2,cs,e1,e2,e3,h1,h2⟩,hF=>by
  subst e2;have dN:=List.nodup_append.1 hF.1;simp only [V6] at hl;split at hl
  ·rename_i hs
   split at hl
   ·rename_i l' eO eR
    cases hl;have bX:=h1.J7 hs;subst bX;obtain ⟨ι',k1,k2,k3⟩:=a3B eR h h2 (hF.sub dN.2.1 (λ b hb=>by simp [hb]));refine ⟨ι',k1,⟨v1,us1,e1,⟨cs,by rw [e3],h1⟩,k2⟩,λ v vs hm hv=>k3 v vs (λ k iK eo=>hm k (by omega) (by simp; omega)) hv⟩
   ·cases hl
  ·split at hl
   ·cases hl
   ·rename_i eQ
    split at hl
    ·rename_i l' eO eR
     cases hl;have hd:look (L9 d j) hp=none:=eQ;obtain ⟨ι1,hs,nJ,dh,iQ⟩:=b87 (hp:=hp) (ι:=ι) (i:=L9 d j) h1 dN.1;have hH:HS B S ι1 (Ex.put (L9 d j) (a1E t x.1 (L9 d j)).1 hp) w:=h.add hd hs nJ (O:=O1) dh (hF.sub dN.1 (λ b hb=>by simp [hb]));have mo:C9 B S ι1 (Ex.put (L9 d j) (a1E t x.1 (L9 d j)).1 hp) w O2:=by
      refine ⟨dN.2.1,λ b hb=>?_⟩;obtain ⟨q1,q2,q3,q4⟩:=hF.2 b (by simp [hb]);refine ⟨q1,q2,q3,λ i e hi=>?_⟩;rw [o7] at hi;by_cases ei:i=L9 d j
      ·subst ei; rw [if_pos rfl] at hi; cases hi
       exact λ dL=>dN.2.2 b (dh b dL) b hb rfl
      ·rw [if_neg ei] at hi
       rw [(hs i ei).l6];exact q4 i e hi
     obtain ⟨ι',k1,k2,k3⟩:=a3B eR hH h2 mo;rw [<- e3] at iQ;refine ⟨ι',k1,⟨v1,us1,e1,k3 _ _ (λ k iK eo=>?_) iQ,k2⟩,λ v vs hm hv=>?_⟩
     ·exact c1z (by simp only [L9]; omega)
     ·exact k3 v vs (λ k iK eo=>hm k (by omega) (by simp; omega)) (VX.add hs (hm j (Nat.le_refl _) (by simp)) hv)
    ·cases hl
theorem a2h {d:Nat}:∀ {n:Nat} {fr:List (Nat×AV)},a0T d n fr=true->∀ k,k<n->Y8 (L9 d k) fr=true
 | 0,_,_,k,hk=>by omega
 | n+1,fr,h,k,hk=>by
  simp only [a0T,Bool.and_eq_true] at h;by_cases e:k=n
  ·subst e; exact h.1
  ·exact a2h h.2 k (by omega)
theorem a5s:∀ {ts:List Ty} {x:DL ts} {d j:Nat} {hp:List (Nat×g8)} {l:AV} {cn:List (Nat×g8)},V6 ts x d j hp=some (l,cn)->l.lst=true
 | [],x,d,j,hp,l,cn,h=>by
  simp only [V6,Option.some.injEq,Prod.mk.injEq] at h;rw [<- h.1]; rfl
 | t::ts,x,d,j,hp,l,cn,h=>by
  simp only [V6] at h;split at h
  ·split at h
   ·rename_i l' eO eR
    cases h;show l'.lst=true;exact a5s eR
   ·cases h
  ·split at h
   ·cases h
   ·split at h
    ·rename_i l' eO eR
     cases h;show l'.lst=true;exact a5s eR
    ·cases h
theorem c3f {l:AV} {us:List Value} (hl:l.lst=true) (h:VX H S ι hp l us):VX H S ι hp l.one [a3t us]:=by
 cases l<;>simp only [AV.lst] at hl<;>first|cases hl|skip
 ·have:us=[]:=h
  subst this;exact ⟨[],rfl,rfl⟩
 ·rename_i a b
  obtain ⟨v,us',rfl,ha,hb⟩:=h;cases b<;>simp only [AV.lst] at hl<;>first|cases hl|skip
  ·have:us'=[]:=hb
   subst this; exact ha
  ·obtain ⟨v2,us2,rfl,dh,eL⟩:=hb
   exact ⟨v::v2::us2,rfl,v,_,rfl,ha,v2,us2,rfl,dh,eL⟩
theorem VX.app {l m:AV}:∀ {us vs:List Value},l.lst=true->VX H S ι hp l us->VX H S ι hp m vs->VX H S ι hp (l.app m) (us++vs):=by
 induction l<;>intro us vs hl h hm<;>simp only [AV.lst] at hl<;>first|cases hl|skip
 ·have:us=[]:=h
  subst this; exact hm
 ·rename_i a b _ ihb
  obtain ⟨v,us',rfl,ha,hb⟩:=h;exact ⟨v,us'++vs,rfl,ha,ihb hl hb hm⟩
theorem b7C (s:St):∀ l:List Operand,(s.I1 l).lst=true
 | []=>rfl
 | _::l=>b7C s l
theorem V3:∀ {ks:List PK} {vs:List Value} {y:DL (F4 ks)} {L:List Nat},F4 ks=[]->F0 H S ks vs y L->L=[]
 | [],_,_,_,_,h=>h.2
 | .rw t::ks,_,_,_,e,_=>by cases e
 | .mu t::ks,_,_,_,e,_=>by cases e
 | .v _::ks,_,_,_,e,⟨_,us,_,h⟩=>V3 (ks:=ks) e h
 | .rd _::ks,_,_,_,e,⟨_,us,_,h⟩=>V3 (ks:=ks) e h
 | .B8 _ _::ks,_,_,_,e,⟨_,us,_,h⟩=>V3 (ks:=ks) e h
 | .T3::ks,_,_,_,e,⟨_,us,_,h⟩=>V3 (ks:=ks) e h
 | .Y6 _ _::ks,_,_,_,e,⟨_,us,_,h⟩=>V3 (ks:=ks) e h
 | .el _::ks,_,_,_,e,⟨_,us,_,h⟩=>V3 (ks:=ks) e h
 | .own _::ks,_,_,_,e,⟨_,us,_,h⟩=>V3 (ks:=ks) e h
theorem b0f {k:PK} {v:AV} {x:k.den} {g m:List Nat} (h:v.M9 s k=some (x,g,m)) (hk:(match k with|.rw _|.mu _=>false|_=>true)=true):m=[]:=by
 cases k with
 | v t=>simp only [AV.M9] at h; split at h<;>cases h; rfl
 | rd t=>simp only [AV.M9] at h; split at h<;>cases h; rfl
 | B8 f ts =>
  cases v<;>simp only [AV.M9] at h<;>first|cases h|skip
  split at h
  ·split at h<;>cases h; rfl
  ·cases h
 | T3=>simp only [AV.M9] at h; split at h<;>cases h; rfl
 | Y6 f n=>simp only [AV.M9] at h; cases h
 | el q=>simp only [AV.M9] at h; cases h
 | own t =>
  simp only [AV.M9] at h;split at h
  ·split at h<;>cases h; rfl
  ·split at h
   ·split at h<;>cases h; rfl
   ·cases h
 | rw t=>cases hk
 | mu t=>cases hk
def c7W (H':Array Go.Obj) (S':Nat->Prop) (ι:Ix) (i:Nat) (e':g8) (L:List Nat):Prop :=
 ∃ O',OB H' S' (ι.y8 i O') i e'/\L=l6 (ι.y8 i O') i e'
theorem a4A (h:HS B S ι s.hp w):∀ {ks:List PK} {v:AV} {x:DK ks} {vs:List Value} {g m:List Nat} {y:DL (F4 ks)} {s1 s2:St} {L:List Nat},AV.a0f s ks v=some (x,g,m)->VX w.heap S ι s.hp v vs->wr ks y m s1=some s2->F0 H' S' ks vs y L->L.Nodup ->
  (m=[]/\s2=s1/\L=[])\/(∃ i e e',m=[i]/\look i s.hp=some e/\a7r e e'/\s2=(s1.U1 i e.X0).u5 i e'/\c7W H' S' ι i e' L)
 | [],v,x,vs,g,m,y,s1,s2,L,hx,hv,hw,ho,aI=>by
  cases v<;>simp only [AV.a0f] at hx<;>first|cases hx|skip
  simp only [wr,Option.some.injEq] at hw;exact .inl ⟨rfl,hw.symm,ho.2⟩
 | k::ks,v,x,vs,g,m,y,s1,s2,L,hx,hv,hw,ho,aI=>by
  cases v<;>simp only [AV.a0f] at hx<;>first|cases hx|skip
  rename_i a b;split at hx
  ·rename_i x1 g1 m1 x2 g2 m2 h1 h2
   cases hx;obtain ⟨v,us,rfl,ha,hb⟩:=hv;cases k with
   | v t =>
    have:=b0f h1 rfl; subst this;obtain ⟨v',us',e,gl⟩:=ho;cases e;exact a4A h h2 hb hw gl aI
   | rd t =>
    have:=b0f h1 rfl; subst this;obtain ⟨v',us',e,gl⟩:=ho;cases e;exact a4A h h2 hb hw gl aI
   | B8 f ts =>
    have:=b0f h1 rfl; subst this;obtain ⟨v',us',e,gl⟩:=ho;cases e;exact a4A h h2 hb hw gl aI
   | T3 =>
    have:=b0f h1 rfl; subst this;obtain ⟨v',us',e,gl⟩:=ho;cases e;exact a4A h h2 hb hw gl aI
   | own t =>
    have:=b0f h1 rfl; subst this;obtain ⟨v',us',e,gl⟩:=ho;cases e;exact a4A h h2 hb hw gl aI
   | Y6 f n=>simp only [AV.M9] at h1; cases h1
   | el q=>simp only [AV.M9] at h1; cases h1
   | rw t =>
    simp only [AV.M9] at h1;split at h1
    ·rename_i i
     split at h1
     ·rename_i u z aX
      split at h1
      ·rename_i hu; subst hu; cases h1
       obtain ⟨e,b0,off,q1,q2,q3,q4⟩:=ha;obtain rfl:=a0o q1 aX;have hl:(ι.root i).1=b0/\(ι.root i).2=off:=by
        have:=(B0 q3).1;simp only [Place,x6,VR,Option.some.injEq,Prod.mk.injEq] at this;exact this
       obtain ⟨rfl,rfl⟩:=hl;obtain ⟨b1,off1,O,us',L',r1,r2,r3,r4,r5⟩:=ho;have q4:v=.pointer (some ⟨(ι.root i).1,(ι.root i).2,none⟩):=by simpa using q4
       rw [q4] at r1;simp only [List.cons.injEq,Value.pointer.injEq,Option.some.injEq,Addr.mk.injEq,and_true] at r1;obtain ⟨⟨rfl,rfl⟩,rfl⟩:=r1;cases m2 with
       | cons j m2=>simp [wr] at hw
       | nil =>
        simp only [List.append_nil,wr] at hw;split at hw
        ·rename_i ju
         cases hw;have:=V3 ju r5;subst this;rw [List.append_nil] at r4;subst r4;exact .inr ⟨i,_,.var u y.1,rfl,q1,.inl ⟨u,z,y.1,rfl,rfl⟩,rfl,O,⟨⟨O,by simp [Ix.y8],r2⟩,r3,by simpa [Ix.y8] using aI⟩,by simp [l6,Ix.y8]⟩
        ·cases hw
      ·cases h1
     ·cases h1
    ·cases h1
   | mu t =>
    simp only [AV.M9] at h1;split at h1
    ·rename_i i
     split at h1
     ·rename_i u z aX
      split at h1
      ·rename_i hu; subst hu; cases h1
       obtain ⟨e,u',y',cs,q1,q2,q3,q4,q5⟩:=ha;obtain rfl:=a0o q1 aX;have q3:j8 (.d0 true t) z []=some ⟨u',y'⟩:=q3;rw [x7] at q3; cases q3;obtain ⟨⟨O0,_,eT⟩,_⟩:=h.ob i _ q1;have hcs:=P9 q4 eT.length;obtain ⟨cs1,O,us',L',r1,r1',r2,r4,r5⟩:=ho;have q5:v=j9 (.d0 true t) cs:=by simpa using q5
       rw [q5] at r1;have df:cs.length=1:=by rw [hcs]; exact eT.length
       have cI:cs1=cs:=by
        match cs,cs1,df,r1' with
        | [c],[c'],_,_ =>
         simp only [List.cons.injEq,j9,Ty.agg] at r1;have:=r1.1;simp at this;rw [this]
       subst cI;cases m2 with
       | cons j m2=>simp [wr] at hw
       | nil =>
        simp only [List.append_nil,wr] at hw;split at hw
        ·rename_i ju
         cases hw;have:=V3 ju r5;subst this;rw [List.append_nil] at r4;subst r4;exact .inr ⟨i,_,.own (.d0 true t) y.1,rfl,q1,.inr (.inl ⟨t,z,y.1,rfl,rfl⟩),rfl,L,⟨⟨L,by simp [Ix.y8],by rw [show (ι.y8 i L).cells i=cs1 from hcs.symm]; exact r2⟩,by simpa [Ix.y8] using aI⟩,by simp [l6,Ix.y8]⟩
        ·cases hw
      ·cases h1
     ·cases h1
    ·cases h1
  ·cases hx
end
end Go.Ex
namespace Go.Ex
section
variable {E:Env} {B:D4} {S S':Nat->Prop} {ι:Ix} {s:St} {a:Act} {w:World} {hp:List (Nat×g8)} {H H':Array Go.Obj}
theorem RS.share (h:RS B S ι s a w) (hS:∀ b,S b->S' b) (gV:∀ b,S' b->S b\/((B.w0.heap.size<=b\/B.M b)/\b<w.heap.size/\∀ i e,look i s.hp=some e->b∉l6 ι i e)):RS B S' ι s a w:=by
 refine ⟨⟨h.hs.os,h.hs.tape,h.hs.out,h.hs.size,h.hs.frame,?_,λ b hb=>hS b (h.hs.s0 b hb),?_,?_,?_,h.hs.dj,h.hs.pin⟩,h.dfr,h.sz,λ t v hv=>?_⟩
 ·intro b hb; rcases gV b hb with h1|h1; exact h.hs.slt b h1; exact h1.2.1
 ·intro b hb; rcases gV b hb with h1|h1; exact h.hs.s1 b h1; exact .inr h1.1
 ·intro i e hi; exact (h.hs.ob i e hi).r8 (λ _ _=>rfl) hS
 ·intro i e hi b hb
  obtain ⟨q1,q2,q3⟩:=h.hs.bl i e hi b hb;exact ⟨λ hs=>by rcases gV b hs with h1|h1; exact q1 h1; exact h1.2.2 i e hi hb,q2,q3⟩
 ·exact VX.grow (λ _ _=>rfl) hS h.hs.slt h.hs.ob (h.fr t v hv)
theorem a4q (hE:C2 E B) (h:RS B S ι s a w) {o:Oper} {c:Call} (ho:o.op=.call c) {f:Operand} (hf:c.callee=.value f) {g:FuncId} {caps:AV} {us:List Value} (he:a.eval f=.func (.func g) #[] us.toArray) (cD:VX w.heap S ι s.hp caps us) :
  D3 E.P B o a w (P0 E g ((s.I1 c.args.toList).app caps) o.dst s):=by
 have aF:=VX.app (b7C s _) (h.I1 c.args.toList) cD;generalize pT:(s.I1 c.args.toList).app caps=av at *
 unfold P0
 split
 ·trivial
 ·rename_i ct mL
  have hV:=hE.C0 g ct mL
  split
  ·trivial
  ·rename_i x gs ms hx
   split
   ·trivial
   ·rename_i bE
    split
    ·trivial
    ·rename_i s2 nc
     split
     ·trivial
     ·rename_i gm
      split
      ·rename_i l cn hl
       intro bm next Q hn
       simp only [Bool.and_eq_true,Bool.or_eq_true] at bE;obtain ⟨⟨⟨⟨iK,eo⟩,ra⟩,qZ⟩,_⟩:=bE;obtain ⟨fn,iP,fh,fP⟩:=hV.ent;have lA:=a2i iK
       let S1:Nat->Prop:=λ b=>S b\/K2 ι s.hp (P0.loose ct.ps av) b
       obtain ⟨L,hK,eW,dD,mS⟩:=a82 (S1:=S1) h.hs (λ b hb=>.inl hb) hx aF lA (λ b hb=>.inr hb);have fA:∀ b,S1 b->b<w.heap.size:=by
        rintro b (hb|⟨i,e,h1,h2,h3⟩)
        ·exact h.hs.slt b hb
        ·exact (h.hs.bl i e h2 b h3).2.2
       have mT:∀ b∈L,¬ S1 b/\b<w.heap.size:=by
        intro b hb;obtain ⟨i,e,h1,h2,h3⟩:=dD b hb;obtain ⟨q1,q2,q3⟩:=h.hs.bl i e h2 b h3;refine ⟨?_,q3⟩;rintro (hs|⟨j,ej,r1,r2,r3⟩)
        ·exact q1 hs
        ·have cd:i≠j:=by rintro rfl; exact b2b eo i h1 r1
         exact h.hs.dj i j e ej h2 r2 cd b h3 r3
       have gT:Calls E.P g (c.args.toList.map a.eval++us).toArray w (λ e w'=>∃ rs O Lo S',e=.returned (a3t rs)/\y9 L w w'/\(∀ b,S1 b->S' b)/\(∀ b,S' b->S1 b\/((w.heap.size<=b\/b∈L)/\b<w'.heap.size)) /\
         J1 w'.heap S' ct.rs O rs (ct.fn x)/\F0 w'.heap S' ct.ps (c.args.toList.map a.eval++us) (ct.out x) Lo/\(O++Lo).Nodup/\(∀ b∈O++Lo,¬ S' b/\(w.heap.size<=b\/b∈L)/\b<w'.heap.size) /\
         (ct.new=true->J1 w'.heap (λ b=>S' b/\w.heap.size<=b) ct.rs O rs (ct.fn x))):=by
        cases qF:ct.new with
        | true=>exact (hV.fresh qF w S1 _ x L fA ((hE.gb.at_ h.hs).sub (λ b hb=>.inl hb)) bm hK (a1F (a3K hx)) eW mT).mono (λ e w' ⟨rs,O,Lo,S',a1,a2,a3,a4,a5,a6,a7,a8,a9⟩=>⟨rs,O,Lo,S',a1,a2,a3,a4,a5,a6,a7,a8,λ _=>a9⟩)
        | false=>exact (hV.run w S1 _ x L fA ((hE.gb.at_ h.hs).sub (λ b hb=>.inl hb)) bm hK (a1F (a3K hx)) eW mT).mono (λ e w' ⟨rs,O,Lo,S',a1,a2,a3,a4,a5,a6,a7,a8⟩=>⟨rs,O,Lo,S',a1,a2,a3,a4,a5,a6,a7,a8,λ h=>by cases h⟩)
       unfold Oper.wp;have aW:(execOp a.eval o).run E.P w=.ok (.enter g (c.args.toList.map a.eval++us).toArray) w:=by
        have cE:fn.body.isNone=false:=fP;have hq:(fn.name == "runtime.NumGoroutine")=false:=fh
        simp only [execOp,ho,resolve,hf,he,Deferred.ofValue,Sem.run_bind,Sem.run_pure,Result.andThen,invoke,callFunc,program];simp [Sem.run,iP,hq,cE]
       rw [aW];refine Calls.mono gT ?_;rintro e w' ⟨rs,O,Lo,S',e1,bj,eE,iA,dY,dZ,aI,hO,di⟩;subst e1;have bn:=bj.size;have hd:=h.u4 (g:=gs) (by simpa using ra);have oq:∀ i∈gs,i∉ms:=λ i hi hm=>(List.nodup_append.1 lA).2.2 i hi i hm rfl;have main:∀ S2:Nat->Prop,(∀ b,S b->S2 b)->(∀ b,S2 b->S b\/((w.heap.size<=b\/b∈L)/\b<w'.heap.size))->(∀ b∈O++Lo,¬ S2 b)->J1 w'.heap S2 ct.rs O rs (ct.fn x)->F0 w'.heap S2 ct.ps (c.args.toList.map a.eval++us) (ct.out x) Lo->next (a.put o.dst (a3t rs)) w':=by
        intro S2 pX mh mR lf lq;have qd:∀ {L':List Nat},L'.Nodup->(∀ b∈L',b∈L)->(∀ b∈L',∀ i e,i∈ms->look i s.hp=some e->b∉l6 ι i e)->C9 B S ι (St.u4 gs s).hp w L':=by
         intro L' jc bV jI;refine C9.u4 h.hs jc (λ b hb=>?_);obtain ⟨i,e,q1,q2,q3⟩:=dD b (bV b hb);rcases List.mem_append.1 q1 with q1|q1
         ·exact ⟨i,e,q1,q2,q3⟩
         ·exact absurd q3 (jI b hb i e q1 q2)
        have fin:∀ {ι2:Ix},RS B S2 ι2 s2 a w'->C9 B S2 ι2 s2.hp w' O->next (a.put o.dst (a3t rs)) w':=by
         intro ι2 eM mo;obtain ⟨ι',k1,k2,k3⟩:=a3B hl eM.hs lf mo;refine hn S2 ι' w' (a3t rs) ⟨k1,eM.dfr,eM.sz,λ t v hv=>?_⟩ (c3f (a5s hl) k2);exact k3 v _ (λ k iK eo=>a05 (a2h gm k (by omega)) hv) (eM.fr t v hv)
        have mj:∀ b∈O,¬ S2 b/\(B.w0.heap.size<=b\/B.M b)/\b<w'.heap.size:=by
         intro b hb;obtain ⟨q1,q2,q3⟩:=hO b (List.mem_append_left _ hb);refine ⟨mR b (List.mem_append_left _ hb),?_,q3⟩;rcases q2 with q2|q2
         ·exact .inl (Nat.le_trans h.hs.size q2)
         ·obtain ⟨i,e,_,r2,r3⟩:=dD b q2
          exact (h.hs.bl i e r2 b r3).2.1
        have pY:∀ b∈O,∀ j ej,j∉gs->j∉ms->look j s.hp=some ej->b∉l6 ι j ej:=by
         intro b hb j ej rf ji cZ ik;obtain ⟨q1,q2,q3⟩:=hO b (List.mem_append_left _ hb);rcases q2 with q2|q2
         ·have:=(h.hs.bl j ej cZ b ik).2.2; omega
         ·obtain ⟨i,e,r1,r2,r3⟩:=dD b q2
          have cd:i≠j:=by rintro rfl; rcases List.mem_append.1 r1 with r1|r1; exact rf r1; exact ji r1
          exact h.hs.dj i j e ej r2 cZ cd b r3 ik
        rcases a4A h.hs hx aF nc lq (List.nodup_append.1 aI).2.1 with ⟨rfl,rfl,rfl⟩|⟨i,e,e',rfl,hi,ee,rfl,O',aX,kS⟩
        ·
         have hF:=qd eW (λ b hb=>hb) (by simp);have iS:=hd.W5 hF bj;have eM:RS B S2 ι (St.u4 gs s) a w':=iS.share pX (λ b hb=>by
          rcases mh b hb with h1|h1
          ·exact .inl h1
          ·rcases h1.1 with h2|h2
           ·refine .inr ⟨.inl (Nat.le_trans h.hs.size h2),h1.2,λ j ej hj ik=>?_⟩
            have:=(hd.hs.bl j ej hj b ik).2.2; omega
           ·exact .inr ⟨(hF.2 b h2).2.1,h1.2,(hF.2 b h2).2.2.2⟩)
         refine fin eM ⟨(List.nodup_append.1 aI).1,λ b hb=>?_⟩;obtain ⟨q1,q2,q3⟩:=mj b hb;refine ⟨q1,q2,q3,λ j ej hj=>?_⟩;rw [H8] at hj;split at hj
         ·cases hj
         ·rename_i gN; exact pY b hb j ej gN (by simp) hj
        ·
         have ri:i∉gs:=λ cB=>oq i cB (by simp);have cB:look i (St.u4 gs s).hp=some e:=by rw [H8,if_neg ri]; exact hi
         have hF:=qd (L':=L.filter (λ b=>!(l6 ι i e).contains b)) (eW.filter _) (λ b hb=>(List.mem_filter.1 hb).1) (λ b hb j ej hj cZ=>by
          simp only [List.mem_cons,List.not_mem_nil,or_false] at hj;subst hj;rw [hi] at cZ; cases cZ;have:=(List.mem_filter.1 hb).2;simpa using this)
         have eM:=hd.renew cB ee hF bj (λ b hb=>by
          by_cases kP:b∈l6 ι i e
          ·exact .inl kP
          ·exact .inr (List.mem_filter.2 ⟨hb,by simpa using kP⟩)) pX mh aX (λ c hc=>by
           rw [<- kS] at hc;obtain ⟨q1,q2,q3⟩:=hO c (List.mem_append_right _ hc);exact ⟨mR c (List.mem_append_right _ hc),q2,q3⟩)
         refine fin eM ⟨(List.nodup_append.1 aI).1,λ b hb=>?_⟩;obtain ⟨q1,q2,q3⟩:=mj b hb;refine ⟨q1,q2,q3,λ j ej hj=>?_⟩;simp only [St.u5,o7] at hj;by_cases dJ:j=i
         ·subst dJ
          rw [if_pos rfl] at hj; cases hj;rw [<- kS];exact λ bI=>(List.nodup_append.1 aI).2.2 b hb b bI rfl
         ·rw [if_neg dJ] at hj
          have hj:look j (St.u4 gs s).hp=some ej:=hj;rw [(a0p dJ O').l6];rw [H8] at hj;split at hj
          ·cases hj
          ·rename_i gN; exact pY b hb j ej gN (by simpa using dJ) hj
       rcases qZ with ⟨fN|fN,ly⟩|hle
       rotate_left
       ·refine main (λ b=>S b\/(S' b/\w.heap.size<=b)) (λ _ h=>.inl h) (λ b hb=>?_) (λ b hb hs=>?_) ?_ (dZ.H9 ly)
        ·rcases hb with hb|⟨hb,eL⟩
         ·exact .inl hb
         ·rcases iA b hb with h1|h1
          ·have:=fA b h1; omega
          ·exact .inr ⟨.inl eL,h1.2⟩
        ·rcases hs with hs|hs
         ·exact (hO b hb).1 (eE b (.inl hs))
         ·exact (hO b hb).1 hs.1
        ·exact (di fN).mono (λ b hb=>.inr hb)
       rotate_left
       ·exact main S (λ _ h=>h) (λ b hb=>.inl hb) (λ b hb hs=>(hO b hb).1 (eE b (.inl hs))) (dY.H9 fN) (dZ.H9 ly)
       ·have ic:P0.loose ct.ps av=[]:=by
         revert hle;cases P0.loose ct.ps av with
         | nil=>intro _; rfl
         | cons x y=>intro h; cases h
        refine main S' (λ b hb=>eE b (.inl hb)) (λ b hb=>?_) (λ b hb=>(hO b hb).1) dY dZ;rcases iA b hb with (h1|⟨i,e,h1,_⟩)|h1
        ·exact .inl h1
        ·rw [ic] at h1; cases h1
        ·exact .inr h1
      ·trivial
theorem D3.a69 {P:Program} {o:Oper} {r:OR} {p:Prop} (h:p->D3 P B o a w r):D3 P B o a w (r.a69 p):=by
 cases r with
 | fail y=>trivial
 | ok v s'=>exact λ hp=>h hp.1
 | E5 q v s'=>exact λ hp=>h hp.1 hp.2
theorem b4l (h:RS B S ι s a w) {x:Operand} {g:Nat} {b:Bool} (hx:s.ev x=.val (.fn g) b):a.eval x=fnV g b:=by
 obtain ⟨cs,e,_,rfl⟩:=x8 h hx;simpa [j9,Ty.agg] using e
end
end Go.Ex
namespace Go.Ex
section
variable {E:Env} {B:D4} {S S':Nat->Prop} {ι ι':Ix} {s:St} {a:Act} {w w':World} {hp:List (Nat×g8)} {H H':Array Go.Obj}
end
end Go.Ex
namespace Go.Ex
section
variable {E:Env} {B:D4} {S S':Nat->Prop} {ι:Ix} {s:St} {a:Act} {w:World} {hp:List (Nat×g8)} {H H':Array Go.Obj}
theorem b6p (hE:C2 E B) (h:RS B S ι s a w) {o:Oper} {T:TypeId} {x y:Operand} (ho:o.op=.index T x y):D3 E.P B o a w (n7 E o s):=by
 have he:execOp a.eval o=(do pure (.value (<- Instr.index T (a.eval x) (a.eval y)))):=by simp [execOp,ho]
 unfold n7;rw [ho];simp only
 split
 ·rename_i l k n hx hy
  split
  ·rename_i hc
   intro hn;obtain ⟨eN,_⟩:=VX.a10 (x8 h hx);obtain ⟨de,_⟩:=VX.G0 (x8 h hy);have hu:=S9 (C1 hE hc);exact G5 he h (val:=.int .u8 ((List.getD l (Int.toNat n) 0).toNat:Int)) (by rw [eN,de]; exact b2R hu hn) (VX.int (by generalize List.getD l (Int.toNat n) 0=c; have:=c.toNat_lt; unfold r7; simp [IntKind.min,IntKind.max,IntKind.signed,IntKind.bits]; omega))
  ·trivial
 ·rename_i m t z k n hx hy
  split
  ·rename_i hc
   intro hn;obtain ⟨cs,e,hR⟩:=x8 h hx;have e:a.eval x=j9 (.arr m t) cs:=by simpa using e
   obtain ⟨de,_⟩:=VX.G0 (x8 h hy);obtain ⟨et,k',h1,h2,h3⟩:=U9 (C1 hE hc);obtain ⟨b1',b2,b3,b4⟩:=C4 (sz:=t.size) hn;obtain ⟨P1,P2,P3,e1,g1,g2,g3⟩:=i7.split (d:=t.o8) (i:=Int.toNat n) (by rw [hR.1]; exact b1') hR.2;have hP:P2=[]:=(List.append_eq_nil_iff.1 (List.append_eq_nil_iff.1 e1.symm).2).1;rw [hP] at g2;refine G5 he h (val:=j9 t ((cs.drop (Int.toNat n*t.size)).take t.size)) ?_ ⟨_,rfl,g2⟩;have hp:=a0c (w:=w) h3 g2;rw [e,de,j9];have jc:0<=(n:Int)/\(n:Int)<m:=hn;simp [Instr.index,asIntOf,o6 h1,Ty.agg,jc,run_sizeOf h3,hp]
  ·trivial
 ·rename_i i p k n hx hy
  split
  ·rename_i m t z cM
   split
   ·rename_i hc
    obtain ⟨e,u',y',cs,q1,q2,q3,q4,q5⟩:=x8 h hx;have eA:=G6 q1 cM;rw [q3] at eA; cases eA;have q5:a.eval x=j9 (.arr m t) cs:=by simpa using q5
    obtain ⟨de,_⟩:=VX.G0 (x8 h hy);obtain ⟨O2,m1,m2,hR⟩:=F1 h.hs q1 q2 q3 q4;obtain ⟨et,k',h1,h2,h3⟩:=U9 (C1 hE hc);have core:(0<=(n:Int)/\(n:Int)<m)->∃ P2,(∀ c∈P2,c∈O2)/\f8 w.heap S t P2 ((cs.drop (Int.toNat n*t.size)).take t.size) (List.getD z (Int.toNat n) t.o8)/\(Instr.index T (a.eval x) (a.eval y)).run E.P w=.ok (j9 t ((cs.drop (Int.toNat n*t.size)).take t.size)) w:=by
     intro hn;obtain ⟨b1',b2,b3,b4⟩:=C4 (sz:=t.size) hn;obtain ⟨P1,P2,P3,e1,g1,g2,g3⟩:=i7.split (d:=t.o8) (i:=Int.toNat n) (by rw [hR.1]; exact b1') hR.2;refine ⟨P2,λ c hc=>by rw [e1]; simp [hc],g2,?_⟩;have hp:=a0c (w:=w) h3 g2;rw [q5,de,j9];have jc:0<=(n:Int)/\(n:Int)<m:=hn;simp [Instr.index,asIntOf,o6 h1,Ty.agg,jc,run_sizeOf h3,hp]
    split
    ·rename_i hs
     intro hn;obtain ⟨P2,k1,k2,k3⟩:=core hn;have:=k2.J7 hs;subst this;exact G5 he h k3 ⟨_,rfl,k2⟩
    ·intro hn
     obtain ⟨P2,k1,k2,k3⟩:=core hn;refine G5 he h k3 ⟨e,t,List.getD z (Int.toNat n) t.o8,_,q1,U4 q3 q2 ⟨hn,K9⟩,a72 q3 x7,?_,rfl⟩;obtain ⟨b0,off0,g1,rfl⟩:=q4;obtain ⟨b1',b2,b3,b4⟩:=C4 (sz:=t.size) hn;refine ⟨b0,off0+Int.toNat n*t.size,Z6 q3 g1 (by simp only [w8,x6]),?_⟩;rw [n6,m0 _ _ _ _ (by simp only [Ty.size]; omega)]
   ·trivial
  ·trivial
 ·trivial
where
 b2R {P:Program} {w:World} {T:TypeId} {l:List UInt8} {k:IntKind} {n:Int} (hu:P.underlying T=some .string) (hn:0<=n/\n<(l.length:Int)) :
   (Instr.index T (.string ⟨l.toArray⟩) (.int k n)).run P w=.ok (.int .u8 ((l.getD n.toNat 0).toNat:Int)) w:=by
  have h1:n.toNat<l.length:=by omega
  have h2:(ByteArray.mk l.toArray)[n.toNat]?=some (l.getD n.toNat 0):=by
   have:n.toNat<(ByteArray.mk l.toArray).size:=by simpa [ByteArray.size] using h1
   rw [getElem?_pos (ByteArray.mk l.toArray) n.toNat this];simp [ByteArray.getElem_eq_getElem_data,h1]
  simp [Instr.index,asIntOf,o6 hu,hn.1,h2]
theorem a5A {P:Program} (h:RS B S ι s a w) {k:IntKind} {f:Int->Int->Int} {m2:Value->Value->Sem Value} (hf:∀ x y,r7 k x->r7 k y->r7 k (f x y)) (hm:∀ x y,(m2 (.int k x) (.int k y)).run P w=.ok (.int k (f x y)) w) :
  ∀ {l:List Operand} {x:Int} {v:AV} {s':St},r7 k x->foldI s k f x l=.ok v s'->∃ n,v=.val (.int k) n/\s'=s/\r7 k n/\((l.map a.eval).foldlM m2 (.int k x)).run P w=.ok (.int k n) w
 | [],x,v,s',hx,ft=>by
  simp only [foldI,OR.ok.injEq] at ft;obtain ⟨rfl,rfl⟩:=ft;exact ⟨x,rfl,rfl,hx,rfl⟩
 | y::l,x,v,s',hx,ft=>by
  simp only [foldI] at ft;split at ft
  ·rename_i k' b hy
   split at ft
   ·rename_i hk
    subst hk;obtain ⟨de,hb⟩:=VX.G0 (x8 h hy);obtain ⟨n,k1,k2,k3,k4⟩:=a5A h hf hm (hf x b hx hb) ft;refine ⟨n,k1,k2,k3,?_⟩;simp only [List.map_cons,List.foldlM_cons,Sem.run_bind,de,hm,Result.andThen];exact k4
   ·cases ft
  ·cases ft
theorem a6I {k:IntKind} {f:Int->Int->Int}:∀ {l:List Operand} {x:Int} {p:Prop} {v:AV} {s':St},foldI s k f x l≠.E5 p v s'
 | [],x,p,v,s',h=>by cases h
 | y::l,x,p,v,s',h=>by
  simp only [foldI] at h;split at h
  ·split at h
   ·exact a6I h
   ·cases h
  ·cases h
theorem b7y {P:Program} {T ty:TypeId} {k:Nat} {u:Ty} (hT:n8 P k T u=true) {v:Value} {n:Nat}
  (h:(∃ q t b off cap,u=.d0 q t/\v=.slice b n cap/\off=0)\/(∃ l:List UInt8,u=.str/\v=.string ⟨l.toArray⟩/\n=l.length)\/(∃ t,u=.arr n t)) :
  (Builtin.len_ #[T] ty #[v]).run P w=.ok (.int .i64 n) w:=by
 rcases h with ⟨q,t,b,off,cap,rfl,rfl,_⟩|⟨l,rfl,rfl,rfl⟩|⟨t,rfl⟩
 ·obtain ⟨e,k',h1,_⟩:=E6 hT
  simp [Builtin.len_,o6 h1,goInt]
 ·have h1:=S9 hT
  have e:(ByteArray.mk l.toArray).size=l.length:=rfl;simp [Builtin.len_,o6 h1,goInt,e]
 ·obtain ⟨e,k',h1,_⟩:=U9 hT
  simp [Builtin.len_,o6 h1,goInt]
theorem a0N (hE:C2 E B) (h:RS B S ι s a w) {o:Oper} {c:Call} (ho:o.op=.call c) (hc:c.callee=.builtin .len) {x:Operand} {T:TypeId} (ha:c.args.toList=[x]) (hT:c.argTypes.toList=[T]) {u:Ty} (hk:I2 E T u=true) {n:Nat}
  (hv:(∃ q t b off cap,u=.d0 q t/\a.eval x=.slice b n cap/\off=0)\/(∃ l:List UInt8,u=.str/\a.eval x=.string ⟨l.toArray⟩/\n=l.length)\/(∃ t,u=.arr n t)) (hn:(n:Int)<=9223372036854775807) :
  w4 E.P B o a w (.val (.int .i64) (n:Int)) s:=by
 have aF:c.args=#[x]:=by rw [<- ha]
 have dI:c.argTypes=#[T]:=by rw [<- hT]
 refine w4.value (val:=.int .i64 n) ?_ h (VX.int (by unfold r7; simp [IntKind.min,IntKind.max,IntKind.signed,IntKind.bits]; omega));have:=b7y (w:=w) (ty:=o.type) (C1 hE hk) hv;simp [execOp,ho,resolve,hc,invoke,builtin,aF,dI,this]
theorem a4E {q:Bool} {u:Ty} {O:List Nat} {cs:List Value} {z:(Ty.d0 q u).den} (hR:f8 H S (.d0 q u) O cs z):∃ b cap,j9 (.d0 q u) cs=.slice b (List.length z) cap/\((List.length z:Nat):Int)<=9223372036854775807:=by
 rcases hR with ⟨_,⟨a,c,h1,_⟩,h2⟩|⟨b,off,cap,O',c1,c2,c3,_⟩
 ·subst h2; subst h1; exact ⟨a,c,rfl,by simp⟩
 ·rw [c1]; exact ⟨_,cap,rfl,by have:=c3.1; unfold maxLen at this; omega⟩
theorem b7t {u:Ty} {O:List Nat} {cs:List Value} {z:(Ty.w6 u).den} (hR:f8 H S (.w6 u) O cs z):∃ b cap,j9 (.w6 u) cs=.slice b (List.length z.2.1) cap/\((List.length z.2.1:Nat):Int)<=9223372036854775807:=by
 obtain ⟨n,l,m⟩:=z
 match n,hR with
 | 0,hR=>exact a4E (q:=false) hR
 | 1,hR=>exact a4E (q:=true) hR
 | n+2,⟨b,off,O',c1,c2,_⟩ =>
  subst c1;exact ⟨_,_,rfl,by have:=c2.1; unfold maxLen at this; show ((List.length l:Nat):Int)<=_; omega⟩
theorem b1V (off:Nat):∀ (vs:List Value) (k:Nat) (cells:Array Value),off+k+vs.length<=cells.size ->
  ((vs.zipIdx k).foldl (λ cs (q:Value×Nat)=>cs.setIfInBounds (off+q.2) q.1) cells)=(over cells.toList (off+k) vs).toArray
 | [],k,cells,_=>by simp [over]
 | v::vs,k,cells,h=>by
  simp only [List.length_cons] at h;simp only [List.zipIdx_cons,List.foldl_cons];rw [b1V off vs (k+1) _ (by simp; omega)];congr 1;have e:=list_seg_step cells.toList (off+k) v vs (by simp; omega);simpa [over,Array.toList_setIfInBounds,Nat.add_assoc] using e
theorem c3J {place:Nat->Option (Nat×Nat)} {cells:List Value} {i off size:Nat} {v:Value} {vs:List Value} {rest:List (Nat×Value)} (hp:place i=some (off,size)) (hv:v.cells=vs.toArray) (hl:vs.length=size) (hb:off+size<=cells.length) :
  Instr.fill place cells.toArray ((i,v)::rest)=Instr.fill place (over cells off vs).toArray rest:=by
 have hz:=b1V off vs 0 cells.toArray (by simp; omega);simp only [Instr.fill,hp,hv];have h1:¬ ((vs.toArray.size≠size)\/(off+vs.toArray.size > cells.toArray.size)):=by simp [hl]; omega
 simp only [Bool.or_eq_true,decide_eq_true_eq];rw [if_neg (by simpa using h1)];congr 1;simp only [Nat.add_zero] at hz;rw [<- hz,<- Array.foldl_toList];simp
theorem c3g {t:Ty} {x:t.den} {O:List Nat} {cs:List Value} (hR:f8 H S t O cs x) (hS:∀ b,S b->b<H.size) (hO:∀ b∈O,¬ S b) (aI:O.Nodup) {p:List Step} (aP:w5 t x p) {u0:Ty} {y0:u0.den} (hg:j8 t x p=some ⟨u0,y0⟩) {off:Nat}
  (hn:∀ (G:Array Go.Obj) (b o:Nat),w8 G t p b o=some (b,o+off)) {u:Ty} {z:u.den} {O2:List Nat} {cs':List Value} (hz:f8 H S u O2 cs' z) (cN:O2.Nodup) (lU:∀ b∈O2,b∉O) {r:Sigma Ty.den} (aO:s6 t x p u z=some r) :
  ∃ O',f8 H S r.1 O' (over cs off cs') r.2/\O'.Nodup/\(∀ b∈O',b∈O\/b∈O2)/\r.1.sh=t.sh/\off+u0.size<=cs.length/\u.size=u0.size:=by
 have nd:=a39 hg aO;have iw:=E4 nd
 let G:Array Go.Obj:=H.push (.cells cs.toArray 0)
 let G':Array Go.Obj:=H.push (.cells (over cs off cs').toArray 0)
 have hold:∀ {c},c<H.size->G[c]?=H[c]?:=λ h=>a3w h;have gJ:∀ {c},c<H.size->G'[c]?=H[c]?:=λ h=>a3w h;have dn:s9 G H.size=cs:=by simp [G,s9]
 have jo:s9 G' H.size=over cs off cs':=by simp [G',s9]
 have mP:∀ c∈O,c<H.size:=λ c hc=>hR.a5o c hc;have ml:∀ c∈O2,c<H.size:=λ c hc=>hz.a5o c hc;have bD:d9 G H.size 0 t.size=cs:=by
  simp only [d9,dn,List.drop_zero];exact List.take_of_length_le (by rw [hR.length]; exact Nat.le_refl _)
 have rR:f8 G S t O (d9 G H.size 0 t.size) x:=by
  rw [bD]; exact hR.r8 (λ c hc=>hold (hc.elim (mP c) (hS c))) (λ _ h=>h)
 have pS:0+t.size<=(s9 G H.size).length:=by rw [dn,hR.length]; omega
 obtain ⟨O1,O3,b',aq,e1,e2,e3,e4,e5,e6⟩:=focus (b:=H.size) (off:=0) rR pS aP hg
 rw [hn] at e3; cases e3;rw [dn] at e5;have hle:off+u0.size<=cs.length:=by simpa using e5
 have df:cs'.length=u0.size:=by rw [hz.length,iw]
 have mE:(over cs off cs').length=cs.length:=a7W (by omega);have iG:¬ S H.size:=λ h=>Nat.lt_irrefl _ (hS _ h);have hc:T9 G G' H.size (0+off) u0.size:=by
  refine ⟨⟨cs.toArray,(over cs off cs').toArray,0,⟨_,⟨a3x,.inl rfl⟩,a3x⟩,by simp [mE],?_⟩,?_⟩
  ·intro j hj
   exact b3Z (by omega) (by omega)
  ·intro c dm gy
   have:c<H.size:=by simp [G] at gy; omega
   rw [gJ this,hold this]
 have gC:f8 G' S u O2 (d9 G' H.size (0+off) u.size) z:=by
  have:d9 G' H.size (0+off) u.size=cs':=by
   simp only [d9,jo,Nat.zero_add];rw [<- hz.length]; exact b7p (by omega)
  rw [this];exact hz.r8 (λ c hc=>gJ (hc.elim (ml c) (hS c))) (λ _ h=>h)
 have cf:=(e1.nodup_iff).1 aI;have ib:∀ c∈O1,c∈O:=λ c hc=>e1.mem_iff.2 (by simp [hc]);obtain ⟨O4,f1,f2,f3⟩:=a4B e2 hg (hn G H.size 0) pS (by simp [G]) (List.nodup_append.1 cf).1 (λ hm=>Nat.lt_irrefl _ (mP _ (ib _ hm))) (λ c hc=>⟨hO c (ib c hc),by have:=mP c (ib c hc); simp [G]; omega⟩) iG
  (λ c hc=>by have:=hS c hc; simp [G]; omega) (λ _ h=>h) hc gC aO
 have bV:∀ b∈O4,b∈O\/b∈O2:=λ b hb=>(List.mem_append.1 (f1.mem_iff.1 hb)).imp (ib b) id;refine ⟨O4,?_,(f1.nodup_iff).2 (List.nodup_append.2 ⟨(List.nodup_append.1 cf).1,cN,λ c h1 d h2 e=>lU d h2 (e▸ib c h1)⟩),bV,f3,hle,iw⟩;have:d9 G' H.size 0 r.1.size=over cs off cs':=by
  simp only [d9,jo,List.drop_zero];exact List.take_of_length_le (by rw [mE,hR.length,E4 f3]; omega)
 rw [this] at f2;exact f2.r8 (λ c hc=>(gJ (hc.elim (λ h=>(bV c h).elim (mP c) (ml c)) (hS c))).symm) (λ _ h=>h)
def b0O (t:Ty) (i:Nat):Nat :=
 match t with
 | .arr _ t=>i*t.size
 | t=>N9 t i
theorem c3j {t:Ty} {x:t.den} {i:Nat} (hi:a1I t i=true) {r:Sigma Ty.den} (hg:j8 t x (V2 t i)=some r):w5 t x (V2 t i)/\∀ (G:Array Go.Obj) (b o:Nat),w8 G t (V2 t i) b o=some (b,o+b0O t i):=by
 obtain ⟨u,y⟩:=r;cases t with
 | arr n t =>
  have:i<n:=by simpa [a1I,Nat.blt_eq] using hi
  refine ⟨⟨by omega,K9⟩,λ G b o=>?_⟩;simp [V2,w8,b0O,x6]
 | _=>exact ⟨a2B hg,λ G b o=>a1u hg⟩
theorem a29 (h:RS B S ι s a w) {place:Nat->Option (Nat×Nat)}:∀ {parts:List (Nat×Operand)} {t:Ty} {x:t.den} {O:List Nat} {cs:List Value} {r:Sigma Ty.den} {G g:List Nat},f8 w.heap S t O cs x->O.Nodup->(∀ b∈O,K2 ι s.hp G b)->(G++g).Nodup->parts.all (λ q=>a1I t q.1)=true ->
  (∀ (t':Ty) (x':t'.den) (i:Nat) (u:Ty) (y:u.den),t'.sh=t.sh->j8 t' x' (V2 t' i)=some ⟨u,y⟩->a1I t' i=true->place i=some (b0O t' i,u.size))->P5 s ⟨t,x⟩ parts=some (r,g) ->
  ∃ cs' O',Instr.fill place cs.toArray (parts.map λ q=>(q.1,a.eval q.2))=some cs'.toArray/\f8 w.heap S r.1 O' cs' r.2/\O'.Nodup/\(∀ b∈O',K2 ι s.hp (G++g) b)/\r.1.sh=t.sh
 | [],t,x,O,cs,r,G,g,hR,aI,hO,_,_,_,hb=>by
  simp only [P5,Option.some.injEq,Prod.mk.injEq] at hb;obtain ⟨rfl,rfl⟩:=hb;exact ⟨cs,O,rfl,hR,aI,λ b hb=>(hO b hb).mono (by simp),rfl⟩
 | (i,v)::parts,t,x,O,cs,r,G,g,hR,aI,hO,hG,bL,hp,hb=>by
  simp only [List.all_cons,Bool.and_eq_true] at bL;simp only [P5] at hb;split at hb
  ·cases hb
  ·rename_i u0 y0 hg
   obtain ⟨aP,iF⟩:=c3j bL.1 hg;have jF:=hp t x i u0 y0 rfl hg bL.1;have mR:∀ b∈O,¬ S b:=λ b hb=>by obtain ⟨j,e,_,q2,q3⟩:=hO b hb; exact (h.hs.bl j e q2 b q3).1
   have one:∀ {u:Ty} {z:u.den} {O2:List Nat} {cs1:List Value} {r1:Sigma Ty.den} {g1 g2:List Nat},f8 w.heap S u O2 cs1 z->O2.Nodup->(∀ b∈O2,K2 ι s.hp g1 b)->a.eval v=j9 u cs1->s6 t x (V2 t i) u z=some r1->P5 s r1 parts=some (r,g2)->g=g1++g2 ->
     ∃ cs' O',Instr.fill place cs.toArray (((i,v)::parts).map λ q=>(q.1,a.eval q.2))=some cs'.toArray/\f8 w.heap S r.1 O' cs' r.2/\O'.Nodup/\(∀ b∈O',K2 ι s.hp (G++g) b)/\r.1.sh=t.sh:=by
    intro u z O2 cs1 r1 g1 g2 hz cN eg eS aO hb rl;subst rl;have lU:∀ b∈O2,b∉O:=by
     intro b eL dh;obtain ⟨i1,e1,q1,q2,q3⟩:=eg b eL;obtain ⟨i2,e2,r1',r2,r3⟩:=hO b dh;have bK:i1≠i2:=by rintro rfl; exact (List.nodup_append.1 hG).2.2 i1 r1' i1 (by simp [q1]) rfl
     exact h.hs.dj i1 i2 e1 e2 q2 r2 bK b q3 r3
    obtain ⟨O',k1,k1n,k1s,k2,k3,k4⟩:=c3g hR h.hs.slt mR aI aP hg iF hz cN lU aO;obtain ⟨t1,x1⟩:=r1;have bT:t1.sh=t.sh:=k2;have dQ:∀ j,a1I t1 j=a1I t j:=by
     intro j;cases t<;>cases t1<;>simp only [Ty.sh] at bT<;>first|cases bT|rfl|skip
     all_goals first|rfl|(simp only [Ty.arr.injEq] at bT; simp only [a1I,bT.1])
    obtain ⟨cs',O4,q1,q2,q3,q4,q5⟩:=a29 h (place:=place) (parts:=parts) (G:=G++g1) (g:=g2) k1 k1n (λ b hb=>(k1s b hb).elim (λ hb=>(hO b hb).mono (by simp; intro i hi; exact .inl hi)) (λ hb=>(eg b hb).mono (by simp; intro i hi; exact .inr hi))) (by rw [List.append_assoc]; exact hG) (by simp only [dQ]; exact bL.2) (λ t' x' j u' y' e1 e2 e3=>hp t' x' j u' y' (e1.trans bT) e2 e3) hb;refine ⟨cs',O4,?_,q2,q3,by rw [<- List.append_assoc]; exact q4,q5.trans bT⟩;simp only [List.map_cons];rw [c3J (vs:=cs1) jF (by rw [eS]; exact hz.cells) (by rw [hz.length,k4]) k3];exact q1
   split at hb
   ·rename_i hv
    have fa:[a.eval v]=[Value.slice none 0 0]:=x8 h hv;split at hb
    ·rename_i o' u' _
     split at hb
     ·rename_i r1 aO
      exact one (u:=.d0 o' u') (z:=([]:List u'.den)) (cs1:=[.slice none 0 0]) (g1:=[]) (.inl ⟨rfl,⟨none,0,rfl,λ _=>rfl⟩,rfl⟩) List.nodup_nil (by simp) (by simpa [j9,Ty.agg] using fa) aO hb rfl
     ·cases hb
    ·cases hb
   ·split at hb
    ·rename_i u z g1 cC
     obtain ⟨O2,cs1,e,hz,cN,eg⟩:=a38 h.hs cC (h.ev v);split at hb
     ·rename_i r1 aO
      split at hb
      ·rename_i r2 g2 eL
       simp only [Option.some.injEq,Prod.mk.injEq] at hb;obtain ⟨rfl,rfl⟩:=hb;exact one hz cN eg e aO eL rfl
      ·cases hb
     ·cases hb
    ·cases hb
def plc:Ty->Nat->List (Nat×Nat)
 | .pair a b,off=>(off,a.size)::plc b (off+a.size)
 | _,_=>[]
theorem c5u:∀ {t:Ty} {x:t.den} {n:Nat} {u:Ty} {z:u.den} {off:Nat},j8 t x [.l7 n]=some ⟨u,z⟩->(plc t off)[n]?=some (off+N9 t n,u.size):=by
 intro t
 induction t with
 | pair a c _ ihc =>
  intro x n u z off h
  match n,h with
  | 0,h =>
   have h:some (⟨a,x.1⟩:Sigma Ty.den)=some ⟨u,z⟩:=by rw [<- h]; simp only [j8]
   cases h;simp [plc,N9]
  | n+1,h =>
   have:=ihc (x:=x.2) (off:=off+a.size) h;simp only [plc,N9,List.getElem?_cons_succ,this];simp [Nat.add_assoc]
 | d0 o t _=>intro x n u z off h; cases o<;>simp [j8] at h
 | _=>intro x n u z off h; simp [j8] at h
theorem b7g {P:Program} {k:Nat}:∀ {fs:List Field} {off:Nat} {t:Ty},l8 (n8 P k) fs off t=true->(fs.mapM λ f=>Prod.mk f.offset <$> sizeOf f.type).run P w=.ok (plc t off) w
 | [],off,t,h=>by
  cases t<;>simp [l8] at h;rfl
 | f::fs,off,t,h=>by
  cases t<;>simp only [l8] at h<;>first|cases h|skip
  simp only [Bool.and_eq_true] at h;obtain ⟨⟨⟨⟨h1,_⟩,h3⟩,_⟩,h4⟩:=h;have ih:=b7g h4;simp [List.mapM_cons,run_sizeOf h3,ih,plc,Nat.eq_of_beq_eq_true h1]
theorem c6V:∀ {t u:Ty} {off:Nat},u.sh=t.sh->plc u off=plc t off:=by
 intro t
 induction t with
 | pair a c _ ihc =>
  intro u off h;cases u<;>simp only [Ty.sh] at h<;>try cases h
  simp only [Ty.pair.injEq] at h;simp only [plc,E4 h.1,ihc h.2]
 | _ =>
  intro u off h;cases u<;>simp only [Ty.sh] at h<;>try cases h
  all_goals rfl
theorem a4g {P:Program} {k:Nat} {T:TypeId} {t:Ty} (h:n8 P k T t=true) (ht:t.agg=true) (hn:∀ n u,t≠.arr n u):∃ fs k',P.underlying T=some (.struct fs)/\l8 (n8 P k') fs.toList 0 t=true:=by
 cases k with
 | zero=>simp [n8] at h
 | succ k =>
  obtain ⟨d,h1,h2⟩:=N0 h;simp only [n8,Bool.and_eq_true,h1] at h;obtain ⟨_,h⟩:=h;cases t with
  | pair a c=>cases d<;>first|(exact (Bool.false_ne_true h).elim)|(exact ⟨_,k,h1,h⟩)
  | unit=>cases d<;>first|(exact (Bool.false_ne_true h).elim)|(exact ⟨_,k,h1,h⟩)
  | arr n u=>exact absurd rfl (hn n u)
  | _=>cases ht
end
end Go.Ex
namespace Go.Ex
section
variable {E:Env} {B:D4} {S S':Nat->Prop} {ι:Ix} {s:St} {a:Act} {w:World} {hp:List (Nat×g8)} {H H':Array Go.Obj}
theorem a9j (z:List Value):∀ n:Nat,(List.range (n*z.length)).map (λ i=>z.getD (i % z.length) default)=(List.replicate n z).flatten
 | 0=>by simp
 | n+1=>by
  rw [Nat.succ_mul,Nat.add_comm,List.range_add,List.map_append,List.replicate_succ,List.flatten_cons,<- a9j z n];congr 1
  ·apply List.ext_getElem
   ·simp
   ·intro i h1 h2
    simp only [List.length_map,List.length_range] at h1;simp [Nat.mod_eq_of_lt h1,List.getElem?_eq_getElem h1]
  ·simp [List.map_map,Function.comp_def]
theorem a42 (z:List Value) (n:Nat):((Array.range (n*z.length)).map (z.toArray[· % z.toArray.size]!))=(List.replicate n z).flatten.toArray:=by
 rw [<- a9j];apply Array.ext';simp [Array.toList_range,List.getD_eq_getElem?_getD]
theorem a1w (z:List Value) (n:Nat):Builtin.zeroCells z.toArray n=(List.replicate n z).flatten.toArray:=a42 z n
theorem i7.b3e {t:Ty}:∀ n:Nat,i7 (f8 H S t) t.size [] (List.replicate n (zc t)).flatten (List.replicate n t.o8)
 | 0=>⟨rfl,rfl⟩
 | n+1=>⟨[],[],rfl,by
   rw [List.replicate_succ,List.flatten_cons,List.take_left' (I6 t)]; exact f8.o8 t,by
   rw [List.replicate_succ,List.flatten_cons,List.drop_left' (I6 t)]; exact i7.b3e n⟩
theorem w4.lay {P:Program} {o:Oper} {d:Nat} {g:List Nat} {t:Ty} {x:t.den} {v:AV} {s':St} (hl:s.lay d g t x=.ok v s') {w':World} {val:Value} (hr:(execOp a.eval o).run P w=.ok (.value val) w')
  {O:List Nat} {cs:List Value} (hv:val=j9 t cs) (hR:f8 w'.heap S t O cs x) (hs:RS B S ι (St.u4 g s) a w') (hF:C9 B S ι (St.u4 g s).hp w' O):w4 P B o a w v s':=by
 unfold St.lay at hl;split at hl
 ·cases hl
 ·split at hl
  ·rename_i hf
   cases hl;intro next Q hn
   unfold Oper.wp;rw [hr];exact hn S _ w' val (hs.hold hf hR hF) (by rw [hv]; exact a4X hR.length)
  ·cases hl
theorem a7D {d:Nat} {g:List Nat} {t:Ty} {x:t.den} {v:AV} {s':St} (hl:s.lay d g t x=.ok v s'):g.Nodup/\(g.all λ i=>!pinned i)=true:=by
 unfold St.lay at hl;split at hl
 ·cases hl
 ·rename_i hc
  simp only [Bool.and_eq_true] at hc;exact ⟨a2i hc.1.1,hc.1.2⟩
theorem S6 {d:Nat} {g:List Nat} {t:Ty} {x:t.den} {p:Prop} {v:AV} {s':St}:s.lay d g t x≠.E5 p v s':=by
 unfold St.lay
 split
 ·simp
 ·split<;>simp
theorem D3.a4I {P:Program} {o:Oper} {d:Nat} {g:List Nat} {t:Ty} {x:t.den} {p:Prop} (h:∀ v s',s.lay d g t x=.ok v s'->p->w4 P B o a w v s'):D3 P B o a w ((s.lay d g t x).f6 p):=by
 cases hl:s.lay d g t x with
 | fail y=>trivial
 | ok v s'=>exact λ hp=>h v s' hl hp
 | E5 q v s'=>exact absurd hl S6
theorem D3.lay {P:Program} {o:Oper} {d:Nat} {g:List Nat} {t:Ty} {x:t.den} (h:∀ v s',s.lay d g t x=.ok v s'->w4 P B o a w v s'):D3 P B o a w (s.lay d g t x):=by
 cases hl:s.lay d g t x with
 | fail y=>trivial
 | ok v s'=>exact h v s' hl
 | E5 q v s'=>exact absurd hl S6
theorem a5h {t:Ty} {l:List t.den} {O:List Nat} {cells:List Value} (hS:∀ c,S c->c<w.heap.size) (hR:i7 (f8 w.heap S t) t.size O (cells.take (l.length*t.size)) l) {cap:Nat} (hc:l.length<=cap) (hm:cap<=maxLen)
  (bn:cap*t.size<=cells.length) (T:TypeId) (hO:∀ c∈O,c<w.heap.size) {w':World} {fz:Nat×Nat} (hh:w'.heap=w.heap.push (.cells cells.toArray T fz)) (hz:fz=(0,0)\/(t.isB=true/\cells.length<=fz.1)) :
  ∃ O',f8 w'.heap S (.d0 true t) O' [.slice (some ⟨w.heap.size,0,none⟩) l.length cap] l/\(∀ b∈O',b=w.heap.size\/b∈O)/\(O.Nodup->O'.Nodup):=by
 have di:w'.heap[w.heap.size]?=some (.cells cells.toArray T fz):=by rw [hh]; exact a3x
 have hold:∀ {b},b<w.heap.size->w'.heap[b]?=w.heap[b]?:=λ hb=>by rw [hh]; exact a3w hb
 have dn:s9 w'.heap w.heap.size=cells:=by simp only [s9,di]
 have hle:l.length*t.size<=cap*t.size:=Nat.mul_le_mul_right _ hc;by_cases h0:cap=0
 ·have ie:l.length=0:=by omega
  have hl:l=[]:=List.length_eq_zero_iff.1 ie;exact ⟨[],.inl ⟨rfl,⟨some ⟨w.heap.size,0,none⟩,0,by rw [ie,h0],λ _=>rfl⟩,hl⟩,by simp,λ _=>List.nodup_nil⟩
 ·refine ⟨w.heap.size::O,.inr ⟨w.heap.size,0,cap,O,rfl,hc,⟨hm,λ _=>by omega⟩,?_,?_,rfl,cells.toArray,T,⟨fz,di,by simpa using hz⟩,by simpa using bn⟩,λ b hb=>List.mem_cons.1 hb,λ hn=>List.nodup_cons.2 ⟨λ hb=>Nat.lt_irrefl _ (hO _ hb),hn⟩⟩
  ·rw [dn,Nat.zero_add]; exact Nat.le_trans hle bn
  ·have:d9 w'.heap w.heap.size 0 (List.length l*t.size)=cells.take (l.length*t.size):=by simp only [d9,dn,List.drop_zero]
   rw [this];exact i7.mono (L:=O) (λ _ h=>h) (λ O1 cs y hL hr=>hr.r8 (λ b hb=>hold (hb.elim (λ hb=>hO b (hL b hb)) (hS b))) (λ _ h=>h)) hR
theorem a7z {t:Ty} {l:List t.den} {O:List Nat} {cells:List Value} (hS:∀ c,S c->c<w.heap.size) (hR:i7 (f8 w.heap S t) t.size O (cells.take (l.length*t.size)) l) {cap:Nat} (hc:l.length<=cap) (hm:cap<=maxLen)
  (bn:cap*t.size<=cells.length) (T:TypeId) (hO:∀ c∈O,c<w.heap.size) :
  ∃ O',f8 (C6 w (.cells cells.toArray T)).heap S (.d0 true t) O' [.slice (some ⟨w.heap.size,0,none⟩) l.length cap] l/\(∀ b∈O',b=w.heap.size\/b∈O)/\(O.Nodup->O'.Nodup) :=
 a5h hS hR hc hm bn T hO (w':=C6 w (.cells cells.toArray T)) rfl (.inl rfl)
theorem C9.new {O O':List Nat} (h:RS B S ι s a w) (hF:C9 B S ι s.hp w O) {w':World} (k:y9 [] w w') (bo:w.heap.size<w'.heap.size) (hs:∀ b∈O',b=w.heap.size\/b∈O) (hn:O'.Nodup):C9 B S ι s.hp w' O':=by
 refine ⟨hn,λ b hb=>?_⟩;rcases hs b hb with rfl|hb
 ·refine ⟨λ hS=>Nat.lt_irrefl _ (h.hs.slt _ hS),.inl h.hs.size,bo,λ i e hi kP=>Nat.lt_irrefl _ (h.hs.bl i e hi _ kP).2.2⟩
 ·exact (hF.W5 k).2 b hb
theorem a56 {n:Nat} {t:Ty} (t':Ty) (x':t'.den) (i:Nat) (u':Ty) (y':u'.den) (e1:t'.sh=(Ty.arr n t).sh) (e2:j8 t' x' (V2 t' i)=some ⟨u',y'⟩) (_:a1I t' i=true):some (i*t.size,t.size)=some (b0O t' i,u'.size):=by
 cases t'<;>simp only [Ty.sh] at e1<;>first|cases e1|skip
 rename_i n' t'' _;simp only [Ty.arr.injEq] at e1;have:t''=u':=by
  simp only [V2,j8,x7,Option.some.injEq] at e2;exact congrArg Sigma.fst e2
 subst this;simp only [b0O,E4 e1.2]
theorem b6U (hE:C2 E B) (h:RS B S ι s a w) {o:Oper} {T:TypeId} {parts:Array (Nat×Operand)} (ho:o.op=.build T parts):D3 E.P B o a w (n7 E o s):=by
 have he:execOp a.eval o=(do pure (.value (<- Instr.build T (parts.map λ q=>(q.1,a.eval q.2))))):=by simp [execOp,ho]
 unfold n7;rw [ho];simp only
 split
 ·rename_i ti hT
  split
  ·rename_i bL
   simp only [Bool.and_eq_true] at bL;have core:∀ {u:Ty} {y:u.den} {g:List Nat},P5 s ⟨ti.ty,ti.ty.o8⟩ parts.toList=some (⟨u,y⟩,g)->g.Nodup->∃ cs' O',(Instr.build T (parts.map λ q=>(q.1,a.eval q.2))).run E.P w=.ok (j9 u cs') w/\f8 w.heap S u O' cs' y/\O'.Nodup/\∀ b∈O',K2 ι s.hp g b:=by
    intro u y g hb ig;have cF:=q9 hE hT;have hz:=a1c (w:=w) cF;have eT:f8 w.heap S ti.ty [] (zc ti.ty) ti.ty.o8:=f8.o8 _;have jt:(j9 ti.ty (zc ti.ty)).cells=(zc ti.ty).toArray:=eT.cells;have ll:(parts.map λ q=>(q.1,a.eval q.2)).toList=parts.toList.map λ q=>(q.1,a.eval q.2):=by simp
    by_cases ed:∃ n t,ti.ty=.arr n t
    ·obtain ⟨n,t,e0⟩:=ed
     rw [e0] at cF hb eT bL hz jt;obtain ⟨et,k',h1,h2,h3⟩:=U9 cF;obtain ⟨cs',O',q1,q2,q3,q4,q5⟩:=a29 h (place:=λ i=>some (i*t.size,t.size)) (G:=[]) eT List.nodup_nil (by simp) (by simpa using ig) bL.2 (λ t' x' i u' y' e1 e2 e3=>a56 t' x' i u' y' e1 e2 e3) hb;refine ⟨cs',O',?_,q2,q3,q4⟩;have cV:u.agg=true:=by rw [b0j q5]; rfl
     simp only [Instr.build,Sem.run_bind,hz,Result.andThen,o6 h1,jt,ll,run_sizeOf h3,q1];simp [j9,cV]
    ·have hn:∀ n u,ti.ty≠.arr n u:=λ n u e=>ed ⟨n,u,e⟩
     obtain ⟨fs,k',h1,h2⟩:=a4g cF bL.1 hn;have bW:=b7g (w:=w) h2;obtain ⟨cs',O',q1,q2,q3,q4,q5⟩:=a29 h (place:=λ i=>(plc ti.ty 0)[i]?) (G:=[]) eT List.nodup_nil (by simp) (by simpa using ig) bL.2 (by
      intro t' x' i u' y' e1 e2 e3;have jc:∀ n u,t'≠.arr n u:=by
       rintro n u rfl;cases ht:ti.ty<;>rw [ht] at e1<;>simp only [Ty.sh] at e1<;>first|cases e1|skip
       exact ed ⟨_,_,ht⟩
      have e2':j8 t' x' [.l7 i]=some ⟨u',y'⟩:=by
       cases t'<;>first|exact e2|(exact absurd rfl (jc _ _))
      have:=c5u (off:=0) e2';rw [c6V e1] at this;have e4:b0O t' i=N9 t' i:=by cases t'<;>first|rfl|(exact absurd rfl (jc _ _))
      rw [e4];simpa using this) hb
     refine ⟨cs',O',?_,q2,q3,q4⟩;have cV:u.agg=true:=by rw [b0j q5]; exact bL.1
     simp only [Instr.build,Sem.run_bind,hz,Result.andThen,o6 h1,jt,ll];simp [Array.mapM_eq_mapM_toList,bW,q1,j9,cV]
   split
   ·rename_i u y hb
    obtain ⟨cs',O',q1,q2,q3,q4⟩:=core hb List.nodup_nil;have:O'=[]:=List.eq_nil_iff_forall_not_mem.2 (λ b hb=>by obtain ⟨i,e,hi,_⟩:=q4 b hb; cases hi);subst this;exact G5 he h q1 ⟨cs',rfl,q2⟩
   ·rename_i u y g d hd hb dy
    refine D3.lay (λ v s' hl=>?_);obtain ⟨g1,g2⟩:=a7D hl;obtain ⟨cs',O',q1,q2,q3,q4⟩:=core hb g1;exact w4.lay hl (R0 he q1) rfl q2 (h.u4 g2) (C9.u4 h.hs q3 q4)
   ·trivial
  ·trivial
 ·trivial
theorem b4S {n:Nat} {t:Ty} {parts:List (Nat×Operand)} {r:Sigma Ty.den×List Nat} (h:b1d s n t parts=some r):∃ t0:Ty,t0.sh=t.sh/\P5 s ⟨.arr n t0,(Ty.arr n t0).o8⟩ parts=some r:=by
 unfold b1d at h;split at h
 ·rename_i r' hr
  cases h;exact ⟨t,rfl,hr⟩
 ·exact ⟨t.sh,Ty.a7y t,h⟩
theorem a8W (hE:C2 E B) (h:RS B S ι s a w) {o:Oper} {T:TypeId} {n:Nat} {parts:Array (Nat×Operand)} (ho:o.op=.buildSlice T n parts):D3 E.P B o a w (n7 E o s):=by
 have he:execOp a.eval o=(do pure (.value (<- Instr.buildSlice T n (parts.map λ q=>(q.1,a.eval q.2))))):=by simp [execOp,ho]
 unfold n7;rw [ho];simp only
 split
 ·rename_i t bts d hT hd
  split
  ·rename_i bL
   simp only [Bool.and_eq_true,Nat.ble_eq] at bL;obtain ⟨⟨dw,dQ⟩,bn⟩:=bL
   split
   ·rename_i m t' l g kQ
    obtain ⟨t0,jz,hb⟩:=b4S kQ;refine D3.lay (λ v s' hl=>?_);obtain ⟨gn,gp⟩:=a7D hl;have cF:=q9 hE hT;obtain ⟨et,k',h1,h2,h3⟩:=E6 cF;have mv:∀ u:Ty,(zc u).length=u.size:=λ u=>(f8.o8 (H:=w.heap) (S:=S) u).length;have eT:f8 w.heap S (.arr n t0) [] (zc (.arr n t)) (Ty.arr n t0).o8:=by
     have:=f8.o8 (H:=w.heap) (S:=S) (.arr n t0)
     rwa [show zc (.arr n t0)=zc (.arr n t) from c4L (congrArg (Ty.arr n) jz)] at this
    obtain ⟨cs',O',q1,q2,qn,qb,q3⟩:=a29 h (place:=λ i=>some (i*t.size,t.size)) (G:=[]) eT List.nodup_nil (by simp) (by simpa using gn) (by simpa [a1I] using dQ) (λ t' x' i u' y' e1 e2 e3=>a56 t' x' i u' y' (e1.trans (congrArg (Ty.arr n) jz)) e2 e3) hb;have ll:(parts.map λ q=>(q.1,a.eval q.2)).toList=parts.toList.map λ q=>(q.1,a.eval q.2):=by simp
    simp only [Ty.sh,Ty.arr.injEq] at q3;obtain ⟨rfl,q3⟩:=q3;have q3:=q3.trans jz;have dI:=E4 q3;obtain ⟨g1,g2⟩:=q2;have hlen:cs'.length=m*t'.size:=by rw [i7.length (λ _ _ _ h=>h.length) g2,g1]
    have gm:m*t'.size<=16777216:=by rw [dI]; exact bn
    have kK:m<=maxLen:=by
     have:m*1<=m*t'.size:=Nat.mul_le_mul_left _ (by omega);unfold maxLen; omega
    have aW:(execOp a.eval o).run E.P w=.ok (.value (.slice (some ⟨w.heap.size,0,none⟩) m m)) (C6 w (.cells cs'.toArray et)):=by
     rw [he];have ir:(zc (.arr m t)).toArray=(List.replicate m (zc t)).flatten.toArray:=rfl;by_cases h0:m*t.size=0
     ·have:m=0:=by rcases Nat.mul_eq_zero.1 h0 with h|h<;>omega
      subst this;simp only [Instr.buildSlice,Sem.run_bind,o6 h1,Result.andThen,run_sizeOf h3];have e0:(zc (.arr 0 t)).toArray=(#[]:Array Value):=rfl;rw [e0] at q1;have r0:Array.range 0=(#[]:Array Nat):=rfl;simp only [Nat.zero_mul,r0,Array.map_empty];rw [ll];simp [q1,newRow,newObj,Sem.run,C6]
     ·have gB:(j9 t (zc t)).cells=(zc t).toArray:=(f8.o8 (H:=w.heap) (S:=S) t).cells
      have hle:¬ (m*t.size > 16777216):=by omega
      have hq:=a42 (zc t) m;rw [mv] at hq;rw [ir] at q1;have nW:¬ (m*t.size > 2^24):=by omega
      simp only [Instr.buildSlice,Sem.run_bind,o6 h1,Result.andThen,run_sizeOf h3,nW,h0,if_false,a1c h3,gB,ll,Sem.run_pure,hq,q1];simp [newRow,newObj,Sem.run,C6]
    have g1':List.length l=m:=g1;have fJ:∀ c∈O',c<w.heap.size:=λ c hc=>by obtain ⟨i,e,_,r2,r3⟩:=qb c hc; exact (h.hs.bl i e r2 c r3).2.2
    have dz:=h.u4 (g:=g) gp;obtain ⟨O2,k1,k2,k3⟩:=a7z (cap:=m) h.hs.slt (O:=O') (l:=l) (cells:=cs') (by rw [g1',List.take_of_length_le (by omega)]; exact g2) (by omega) kK (by omega) et fJ;have hp:y9 [] w (C6 w (.cells cs'.toArray et)):=y9.push _;exact w4.lay hl aW (by rw [<- g1']; rfl) k1 (dz.W5 C9.nil hp) (C9.new dz (C9.u4 h.hs qn qb) hp (by simp [C6]) k2 (k3 qn))
   ·trivial
  ·trivial
 ·trivial
theorem a6s {P:Program} {k:IntKind} {n:Int}:(asInt (.int k n)).run P w=.ok n w:=by simp [asInt,asIntOf]
theorem b6X (hE:C2 E B) (h:RS B S ι s a w) {o:Oper} {T:TypeId} {x y:Operand} (ho:o.op=.makeSlice T x y):D3 E.P B o a w (b0i E T (s.ev x) (s.ev y) o.dst s):=by
 unfold b0i
 split
 ·rename_i t bts d k n k' m hT hd hx hy
  refine D3.a4I (λ v s' hl hp=>?_);have ib:@LE.le Int Int.instLEInt 1 m:=hp.1;have cG:@LE.le Int Int.instLEInt 0 n:=hp.2.1;have gm:@LE.le Int Int.instLEInt n m:=hp.2.2.1;have qP:@LE.le Int Int.instLEInt m 140737488355328:=hp.2.2.2.1;obtain ⟨eN,_⟩:=VX.G0 (x8 h hx);obtain ⟨de,_⟩:=VX.G0 (x8 h hy);have cF:=q9 hE hT;obtain ⟨et,k2,h1,h2,h3⟩:=E6 cF;obtain ⟨i,hi,dB,jj⟩:=R4 h3;have jk:=a2Z h3 hi;obtain ⟨M,rfl⟩:∃ M:Nat,m=((M:Nat):Int):=⟨Int.toNat m,(Int.toNat_of_nonneg (Int.le_trans cG gm)).symm⟩;obtain ⟨N,rfl⟩:∃ N:Nat,n=((N:Nat):Int):=⟨Int.toNat n,(Int.toNat_of_nonneg cG).symm⟩;have ke:((t.wb:Nat):Int)*(M:Int)<=281474976710656:=by
   have e:((M:Nat):Int)*(t.wb:Nat)=(t.wb:Nat)*(M:Nat):=Int.mul_comm _ _;have:@LE.le Int Int.instLEInt (((M:Nat):Int)*(t.wb:Nat)) 140737488355328:=hp.2.2.2.2;rw [e] at this;omega
  have gB:(j9 t (zc t)).cells=(zc t).toArray:=(f8.o8 (H:=w.heap) (S:=S) t).cells;have gY:IntKind.i64.wrap (M:Int)=(M:Int):=M1 (by unfold r7; simp [IntKind.min,IntKind.max,IntKind.signed,IntKind.bits]; omega);have gX:IntKind.i64.wrap (N:Int)=(N:Int):=M1 (by unfold r7; simp [IntKind.min,IntKind.max,IntKind.signed,IntKind.bits]; omega);have he:execOp a.eval o=(do pure (.value (<- Instr.makeSlice T (a.eval x) (a.eval y)))):=by simp [execOp,ho]
  have aW:(Instr.makeSlice T (a.eval x) (a.eval y)).run E.P w=.ok (.slice (some ⟨w.heap.size,0,none⟩) N M) (C6 w (.cells (List.replicate M (zc t)).flatten.toArray et)):=by
   rw [eN,de];have c1:¬ ((M:Int)<0):=by omega
   have c2:¬ ((N:Int)<0):=by omega
   have c3:¬ ((M:Int)<(N:Int)):=by omega
   have c4:¬ (281474976710656<((t.wb:Nat):Int)*(M:Int)):=by omega
   have h0:¬ M*t.size=0:=by
    intro h9;rcases Nat.mul_eq_zero.1 h9 with h9|h9<;>omega
   have hq:=a42 (zc t) M;rw [I6] at hq;simp only [Instr.makeSlice,Sem.run_bind,o6 h1,Result.andThen,a6s,typeInfo,gY,gX];simp [c1,c2,c3,c4,run_sizeOf h3,h0,a1c h3,gB,Result.andThen,newRow,newObj,Sem.run,C6,hi,jk];congr 2;rw [<- hq];apply Array.ext';simp [I6]
  have dz:=h.u4 (g:=[]) rfl;have iB:(List.replicate N t.o8++List.replicate (M - N) t.o8)=List.replicate M t.o8:=by rw [List.replicate_append_replicate]; congr 1; omega
  obtain ⟨O2,k1,k2',k3⟩:=a7z (cap:=M) h.hs.slt (O:=[]) (l:=List.replicate M t.o8) (cells:=(List.replicate M (zc t)).flatten) (by
   rw [List.take_of_length_le (by simp [I6])];exact i7.b3e M) (by simp) (by unfold maxLen; omega) (by simp [I6]) et (by simp)
  have cn:y9 [] w (C6 w (.cells (List.replicate M (zc t)).flatten.toArray et)):=y9.push _;have k4:f8 (C6 w (.cells (List.replicate M (zc t)).flatten.toArray et)).heap S (.w6 t) O2 [.slice (some ⟨w.heap.size,0,none⟩) N M] (2,List.replicate N t.o8,List.replicate (M - N) t.o8):=by
   rcases k1 with ⟨_,⟨_,_,q1,_⟩,_⟩|⟨b,off,cap,O',c1,c2,c3,c4,c5,c6,c7⟩
   ·exfalso
    simp only [List.length_replicate,List.cons.injEq,Value.slice.injEq,and_true] at q1;omega
   ·simp only [List.length_replicate,List.cons.injEq,Value.slice.injEq,Option.some.injEq,Addr.mk.injEq,and_true] at c1
    obtain ⟨⟨rfl,rfl⟩,-,rfl⟩:=c1;have eE:List.length (List.replicate N t.o8)+List.length (List.replicate (M - N) t.o8)=M:=by simp; omega
    refine ⟨w.heap.size,0,O',by rw [eE]; simp,by rw [eE]; exact c3,by rw [iB]; exact c4,by rw [iB]; exact c5,c6,by rw [eE]; exact c7⟩
  exact w4.lay hl (R0 he aW) (by simp [j9,Ty.agg]) k4 (dz.W5 C9.nil cn) (C9.new dz C9.nil cn (by simp [C6]) k2' (k3 List.nodup_nil))
 ·trivial
theorem a9L (hE:C2 E B) (h:RS B S ι s a w) {o:Oper} {T:TypeId} {x y:Operand} (ho:o.op=.makeSlice T x y):D3 E.P B o a w (n7 E o s):=by
 have he:execOp a.eval o=(do pure (.value (<- Instr.makeSlice T (a.eval x) (a.eval y)))):=by simp [execOp,ho]
 unfold n7;rw [ho];simp only
 split
 ·exact b6X hE h ho
 split
 ·rename_i t bts d k n k' m hT hd hx hy
  refine D3.a4I (λ v s' hl hp=>?_);have cG:@LE.le Int Int.instLEInt 0 n:=hp.1;have gm:@LE.le Int Int.instLEInt n m:=hp.2.1;have qP:@LE.le Int Int.instLEInt m 140737488355328:=hp.2.2.1;obtain ⟨eN,_⟩:=VX.G0 (x8 h hx);obtain ⟨de,_⟩:=VX.G0 (x8 h hy);have cF:=q9 hE hT;obtain ⟨et,k2,h1,h2,h3⟩:=E6 cF;obtain ⟨i,hi,dB,jj⟩:=R4 h3;have jk:=a2Z h3 hi;obtain ⟨M,rfl⟩:∃ M:Nat,m=((M:Nat):Int):=⟨Int.toNat m,(Int.toNat_of_nonneg (Int.le_trans cG gm)).symm⟩;obtain ⟨N,rfl⟩:∃ N:Nat,n=((N:Nat):Int):=⟨Int.toNat n,(Int.toNat_of_nonneg cG).symm⟩;have ke:((t.wb:Nat):Int)*(M:Int)<=281474976710656:=by
   have:=hp.2.2.2;have e:((M:Nat):Int)*(t.wb:Nat)=(t.wb:Nat)*(M:Nat):=Int.mul_comm _ _;have:@LE.le Int Int.instLEInt (((M:Nat):Int)*(t.wb:Nat)) 140737488355328:=hp.2.2.2;rw [e] at this;omega
  have gB:(j9 t (zc t)).cells=(zc t).toArray:=(f8.o8 (H:=w.heap) (S:=S) t).cells;have gY:IntKind.i64.wrap (M:Int)=(M:Int):=M1 (by unfold r7; simp [IntKind.min,IntKind.max,IntKind.signed,IntKind.bits]; omega);have gX:IntKind.i64.wrap (N:Int)=(N:Int):=M1 (by unfold r7; simp [IntKind.min,IntKind.max,IntKind.signed,IntKind.bits]; omega);have aW:(Instr.makeSlice T (a.eval x) (a.eval y)).run E.P w=.ok (.slice (some ⟨w.heap.size,0,none⟩) N M) (C6 w (.cells (List.replicate M (zc t)).flatten.toArray et)):=by
   rw [eN,de];have c1:¬ ((M:Int)<0):=by omega
   have c2:¬ ((N:Int)<0):=by omega
   have c3:¬ ((M:Int)<(N:Int)):=by omega
   have c4:¬ (281474976710656<((t.wb:Nat):Int)*(M:Int)):=by omega
   by_cases h0:M*t.size=0
   ·have:M=0:=by rcases Nat.mul_eq_zero.1 h0 with h|h<;>omega
    subst this;have hN:N=0:=by omega
    subst hN;simp only [Instr.makeSlice,Sem.run_bind,o6 h1,Result.andThen,a6s,typeInfo,gY];have r0:Array.range 0=(#[]:Array Nat):=rfl;simp [run_sizeOf h3,newRow,newObj,Sem.run,C6,Result.andThen,hi,r0]
   ·have hq:=a42 (zc t) M
    rw [I6] at hq;simp only [Instr.makeSlice,Sem.run_bind,o6 h1,Result.andThen,a6s,typeInfo,gY,gX];simp [c1,c2,c3,c4,run_sizeOf h3,h0,a1c h3,gB,Result.andThen,newRow,newObj,Sem.run,C6,hi,jk];congr 2;rw [<- hq];apply Array.ext';simp [I6]
  have dz:=h.u4 (g:=[]) rfl;obtain ⟨O2,k1,k2',k3⟩:=a7z (cap:=M) h.hs.slt (O:=[]) (l:=List.replicate N t.o8) (cells:=(List.replicate M (zc t)).flatten) (by
   have e:(List.replicate M (zc t)).flatten=(List.replicate N (zc t)).flatten++(List.replicate (M - N) (zc t)).flatten:=by
    rw [<- List.flatten_append,List.replicate_append_replicate]; congr 2; omega
   rw [e,List.take_left' (by simp [I6])];exact i7.b3e N) (by simp; omega) (by unfold maxLen; omega) (by simp [I6]) et (by simp)
  have cn:y9 [] w (C6 w (.cells (List.replicate M (zc t)).flatten.toArray et)):=y9.push _;exact w4.lay hl (R0 he aW) (by simp [j9,Ty.agg]) k1 (dz.W5 C9.nil cn) (C9.new dz C9.nil cn (by simp [C6]) k2' (k3 List.nodup_nil))
 ·trivial
end
end Go.Ex
namespace Go.Ex
section
variable {E:Env} {B:D4} {S S':Nat->Prop} {ι:Ix} {s:St} {a:Act} {w:World} {hp:List (Nat×g8)} {H H':Array Go.Obj}
theorem c3c:∀ {t:Ty} {x:t.den} {p:List Step} {u:Ty} {y:u.den} {r:Sigma Ty.den},s6 t x p u y=some r->a5C p=false->r.1=t:=by
 intro t
 induction t with
 | pair a c iha ihc =>
  intro x p u y r h hf
  match p,h,hf with
  | [],_,hf=>cases hf
  | .l7 0::p,h,hf =>
   simp only [s6] at h;split at h
   ·rename_i t' w hw; cases h; exact congrArg (Ty.pair · c) (iha (r:=⟨t',w⟩) hw hf)
   ·cases h
  | .l7 (n+1)::p,h,hf =>
   simp only [s6] at h;split at h
   ·rename_i t' w hw; cases h; exact congrArg (Ty.pair a) (ihc (r:=⟨t',w⟩) hw hf)
   ·cases h
  | .idx i::p,h,_=>simp [s6] at h
 | arr n t ih =>
  intro x p u y r h hf
  match p,h,hf with
  | [],_,hf=>cases hf
  | .idx i::p,h,_ =>
   simp only [s6] at h;split at h
   ·split at h
    ·cases h; rfl
    ·cases h
   ·cases h
  | .l7 i::p,h,_=>simp [s6] at h
 | d0 o t ih =>
  intro x p u y r h hf
  match p,h,hf with
  | [],_,hf=>cases hf
  | .idx i::p,h,_ =>
   cases o with
   | false=>simp [s6] at h
   | true =>
    simp only [s6] at h;split at h
    ·split at h
     ·cases h; rfl
     ·cases h
    ·cases h
  | .l7 i::p,h,_=>cases o<;>simp [s6] at h
 | _ =>
  intro x p u y r h hf
  match p,h,hf with
  | [],_,hf=>cases hf
  | .idx i::p,h,_=>simp [s6] at h
  | .l7 i::p,h,_=>simp [s6] at h
theorem OB.a0I {i:Nat} {e:g8} (ho:OB H S ι i e) (he:e≠.J0) (hS:∀ c,S c->c<H.size) {p:List Step} (aP:w5 e.ty e.x p) {u:Ty} {y:u.den} (hg:j8 e.ty e.x p=some ⟨u,y⟩) {b off:Nat} (hl:Loc H ι i e p=some (b,off))
  {Op:List Nat} (eM:f8 H S u Op (d9 H b off u.size) y):b∉Op:=by
 obtain ⟨h1,h2⟩:=B0 hl;obtain ⟨O,hO,hR,hb,aI,bo,fT,dw⟩:=ho.see he hS;obtain ⟨O1,O2,b',aq,e1,e2,e3,e4,e5,e6⟩:=focus hR hb aP hg
 rw [F9 he,e3] at h1; cases h1;have hm:∀ c,c∈O1\/c∈O2->c∈ι.own i:=λ c hc=>hO.mem_iff.1 (e1.mem_iff.2 (by simpa using hc));have jN:∀ c∈O2,c<H.size:=λ c hc=>ho.Q0 he (hm c (.inr hc));have k:=(Z5 (e:=e) (ι:=ι) (i:=i) jN hS).1 e4;rw [l4 (E9 h2)] at k;have hd:=f8.det k eM;subst hd;rcases e6 with ⟨rfl,_⟩|⟨g1,_⟩
 ·intro hb; exact (List.nodup_cons.1 aI).1 (hm _ (.inr hb))
 ·intro hb
  have:=(e1.nodup_iff).1 ((hO.nodup_iff).2 (List.nodup_cons.1 aI).2);exact (List.nodup_append.1 this).2.2 _ g1 _ hb rfl
theorem c3L {d i:Nat}:∀ {v:AV},v.i6 d=false->(v.drop i).i6 d=false:=by
 intro v
 induction v with
 | cons a b iha ihb=>intro h; simp only [AV.i6,Bool.or_eq_false_iff] at h; simp only [AV.drop,AV.map,AV.i6,Bool.or_eq_false_iff]; exact ⟨iha h.1,ihb h.2⟩
 | J8 l ih=>intro h; exact ih h
 | B8 f l ih=>intro h; exact ih h
 | bx l ih=>intro h; exact ih h
 | rc f l ih=>intro h; exact ih h
 | ptr j p=>intro h; simp only [AV.drop,AV.map]; split<;>first|rfl|exact h
 | at_ j p=>intro h; simp only [AV.drop,AV.map]; split<;>first|rfl|exact h
 | sub j p x y=>intro h; simp only [AV.drop,AV.map]; split<;>first|rfl|exact h
 | _=>intro h; rfl
theorem a3D {d:Nat}:∀ {g:List Nat} {s:St},Y8 d s.fr=true->Y8 d (St.u4 g s).fr=true
 | [],_,h=>h
 | i::g,s,h=>a3D (g:=g) (s:=s.drop i) (by
  simp only [St.drop];generalize s.fr=fr at h
  induction fr with
  | nil=>rfl
  | cons q l ih =>
   obtain ⟨n,v⟩:=q;simp only [Y8,Bool.and_eq_true,Bool.not_eq_true'] at h;simp only [mapA,Y8,Bool.and_eq_true,Bool.not_eq_true'];exact ⟨c3L h.1,ih h.2⟩)
theorem c4e:∀ {t:Ty} {p:List Step} {b off:Nat} {G:Array Go.Obj} {r:Nat×Nat},a5C p=true->w8 G t p b off=some r->r.1=b:=by
 intro t
 induction t with
 | pair a c iha ihc =>
  intro p b off G r h hn
  match p,h,hn with
  | [],_,hn=>rw [x6] at hn; cases hn; rfl
  | .l7 0::p,h,hn=>exact iha (p:=p) h hn
  | .l7 (n+1)::p,h,hn=>exact ihc (p:=.l7 n::p) h hn
  | .idx i::p,h,_=>cases h
 | d0 o t ih =>
  intro p b off G r h hn
  match p,h,hn with
  | [],_,hn=>rw [x6] at hn; cases hn; rfl
  | .l7 i::p,_,hn=>cases o<;>simp [w8] at hn
  | .idx i::p,h,_=>cases h
 | _ =>
  intro p b off G r h hn
  match p,h,hn with
  | [],_,hn=>rw [x6] at hn; cases hn; rfl
  | .l7 i::p,_,hn=>simp [w8] at hn
  | .idx i::p,h,_=>cases h
theorem c5w {i:Nat} {e:g8} {p:List Step} {r:Nat×Nat} (hl:Loc H ι i e p=some r) (he:e.X0=true):a5C p=false:=by
 obtain ⟨h1,h2⟩:=B0 (b:=r.1) (off:=r.2) hl;cases hf:a5C p with
 | false=>rfl
 | true =>
  exfalso;cases e with
  | own t x =>
   rw [F9 (by simp)] at h1;have:=c4e hf h1;simp only [VR] at this;omega
  | _=>cases he
theorem a1n (hE:C2 E B) (h:RS B S ι s a w) {o:Oper} {T:TypeId} {x y:Operand} (ho:o.op=.store T x y) {i:Nat} {e:g8} (h1:look i s.hp=some e) {p:List Step} (h2:w5 e.ty e.x p) {b off:Nat} (h3:Loc w.heap ι i e p=some (b,off)) (h4:a.eval x=.pointer (some ⟨b,off,none⟩))
  {u:Ty} {y0:u.den} (hg:j8 e.ty e.x p=some ⟨u,y0⟩) (bE:I2 E T u=true) {u':Ty} {z:u'.den} {O2:List Nat} {cs:List Value} {r:Sigma Ty.den}
  (hz:f8 w.heap S u' O2 cs z) (aI:O2.Nodup) (ry:a.eval y=j9 u' cs) (aO:s6 e.ty e.x p u' z=some r)
  (eg:∀ c∈O2,(¬ S c/\(B.w0.heap.size<=c\/B.M c)/\c<w.heap.size)/\(∀ j ej,j≠i->look j s.hp=some ej->c∉l6 ι j ej)/\(c∈l6 ι i e->∃ Op,f8 w.heap S u Op (d9 w.heap b off u.size) y0/\c∈Op)) (bM:b∉O2) :
  w4 E.P B o a w (.raw undef) ((s.kill i e.kd p).u5 i (e.D6 r)):=by
 intro next Q hn
 obtain ⟨Op,m1,mn,m2,m3,m4,m5⟩:=N7 (L7 h3) (h.hs.ob i e h1) h.hs.slt h2 hg h3;have bT:=a39 hg aO;have iG:¬ S b:=(h.hs.bl i e h1 b m4).1;obtain ⟨ι',cR⟩:=h.store h1 h2 hg h3 (u':=u') (z:=z) (cs:=cs) (O2:=O2) (λ H' bn hc=>hz.r8 (λ c gg=>hc.rest c (by
   rintro rfl;rcases gg with gg|gg
   ·exact bM gg
   ·exact iG gg) (by
   rcases gg with gg|gg
   ·exact (eg c gg).1.2.2
   ·exact h.hs.slt c gg)) (λ _ h=>h)) (by rw [hz.length,E4 bT]) aI eg aO (λ bB _=>c3c aO (c5w h3 bB))
 unfold Oper.wp;have aW:(execOp a.eval o).run E.P w=.ok .skip (w.setRow b (over (s9 w.heap b) off cs).toArray):=by
  simp [execOp,ho,h4,ry,Instr.storeAt,Instr.sureAddr,a6p (C1 hE bE) bT m5 hz]
 rw [aW];exact hn S ι' _ undef cR rfl
theorem a8O:∀ t:Ty,t.a0z.sh=t.sh:=by
 intro t
 induction t with
 | pair a b iha ihb=>simp only [Ty.a0z,Ty.sh,iha,ihb]
 | d0 o t ih=>cases o<;>rfl
 | _=>rfl
theorem f8.a0z {H:Array Go.Obj} {S:Nat->Prop}:∀ {u:Ty} {O:List Nat} {cs:List Value} {y:u.den},f8 H S u O cs y->u.a0z.shared=true->f8 H S u.a0z [] cs (b3k u y):=by
 intro u
 induction u with
 | pair a b iha ihb =>
  rintro O cs y ⟨O1,O2,rfl,h1,h2⟩ hs;simp only [Ty.a0z,Ty.shared,Bool.and_eq_true] at hs;have ea:a.a0z.size=a.size:=E4 (a8O a);have eb:b.a0z.size=b.size:=E4 (a8O b);exact ⟨[],[],rfl,by rw [ea]; exact iha h1 hs.1,by rw [ea]; exact ihb h2 hs.2⟩
 | d0 o t ih =>
  intro O cs y h hs;cases o with
  | true =>
   rcases h with ⟨_,⟨a,c,rfl,_⟩,_⟩|⟨b,off,cap,O',rfl,_⟩
   ·exact ⟨rfl,_,rfl,rfl⟩
   ·exact ⟨rfl,_,rfl,rfl⟩
  | false =>
   have hn:=h.J7 hs;subst hn; exact h
 | arr n t ih =>
  intro O cs y h hs;have hn:=h.J7 hs;subst hn; exact h
 | map o k v =>
  intro O cs y h hs;have hn:=h.J7 hs;subst hn; exact h
 | box o g t =>
  intro O cs y h hs;have hn:=h.J7 hs;subst hn; exact h
 | _ =>
  intro O cs y h hs;have hn:=h.J7 hs;subst hn; exact h
theorem c1J {H:Array Go.Obj} {S:Nat->Prop} {u:Ty} {q:Sigma Ty.den} {O:List Nat} {cs:List Value} (h:f8 H S q.1 O cs q.2):f8 H S (a28 u q).1 O cs (a28 u q).2/\(a28 u q).1.agg=q.1.agg/\(a28 u q).1.size=q.1.size:=by
 obtain ⟨t,z⟩:=q;cases u with
 | w6 a =>
  cases t with
  | d0 o b =>
   by_cases e:b=a
   ·subst e
    cases o with
    | false=>rw [show a28 (.w6 b) ⟨.d0 false b,z⟩=⟨.w6 b,(0,z,[])⟩ from dif_pos rfl]; exact ⟨h,rfl,rfl⟩
    | true=>rw [show a28 (.w6 b) ⟨.d0 true b,z⟩=⟨.w6 b,(1,z,[])⟩ from dif_pos rfl]; exact ⟨h,rfl,rfl⟩
   ·cases o with
    | false=>rw [show a28 (.w6 a) ⟨.d0 false b,z⟩=⟨.d0 false b,z⟩ from dif_neg e]; exact ⟨h,rfl,rfl⟩
    | true=>rw [show a28 (.w6 a) ⟨.d0 true b,z⟩=⟨.d0 true b,z⟩ from dif_neg e]; exact ⟨h,rfl,rfl⟩
  | _=>exact ⟨h,rfl,rfl⟩
 | _=>exact ⟨h,rfl,rfl⟩
theorem b1X {H:Array Go.Obj} {S:Nat->Prop}:∀ {u:Ty} {q:Sigma Ty.den} {O:List Nat} {cs:List Value},f8 H S q.1 O cs q.2->f8 H S (V7 u q).1 O cs (V7 u q).2/\(V7 u q).1.agg=q.1.agg/\(V7 u q).1.size=q.1.size:=by
 intro u
 induction u with
 | w6 a=>intro q O cs h; exact c1J h
 | pair a b iha ihb =>
  rintro ⟨t,z⟩ O cs h;cases hm:a.b0T || b.b0T with
  | false =>
   have:V7 (.pair a b) ⟨t,z⟩=⟨t,z⟩:=by simp only [V7,hm]
   rw [this]; exact ⟨h,rfl,rfl⟩
  | true =>
   cases t with
   | pair c d =>
    have e:V7 (.pair a b) ⟨.pair c d,z⟩=⟨.pair (V7 a ⟨c,z.1⟩).1 (V7 b ⟨d,z.2⟩).1,((V7 a ⟨c,z.1⟩).2,(V7 b ⟨d,z.2⟩).2)⟩:=by
     simp only [V7,hm]
    rw [e];obtain ⟨O1,O2,rfl,h1,h2⟩:=h;obtain ⟨k1,_,k3⟩:=iha (q:=⟨c,z.1⟩) h1;obtain ⟨m1,_,m3⟩:=ihb (q:=⟨d,z.2⟩) h2;have k3:(V7 a ⟨c,z.1⟩).1.size=c.size:=k3;have m3:(V7 b ⟨d,z.2⟩).1.size=d.size:=m3;refine ⟨⟨O1,O2,rfl,?_,?_⟩,rfl,?_⟩
    ·rw [k3]; exact k1
    ·rw [k3]; exact m1
    ·simp only [Ty.size,k3,m3]
   | _ =>
    have:∀ r:Sigma Ty.den,r=⟨_,z⟩->V7 (.pair a b) r=r:=by
     rintro r rfl;simp only [V7,hm]
    rw [this _ rfl]; exact ⟨h,rfl,rfl⟩
 | _=>intro q O cs h; exact ⟨h,rfl,rfl⟩
theorem c3I {H:Array Go.Obj} {S:Nat->Prop} {u:Ty} {q:Sigma Ty.den} {O:List Nat} {cs:List Value} (h:f8 H S q.1 O cs q.2):f8 H S (V7 u q).1 O cs (V7 u q).2/\(V7 u q).1.agg=q.1.agg :=
 ⟨(b1X h).1,(b1X h).2.1⟩
theorem b3H (hE:C2 E B) (h:RS B S ι s a w) {o:Oper} {T:TypeId} {x y:Operand} (ho:o.op=.store T x y) {i:Nat} {p:List Step} (hx:s.ev x=.ptr i p):D3 E.P B o a w (a0k E T i p (s.ev y) s):=by
 obtain ⟨e,b,off,h1,h2,h3,h4⟩:=x8 h hx;have h4:a.eval x=.pointer (some ⟨b,off,none⟩):=by simpa using h4
 unfold a0k
 split
 ·trivial
 ·rename_i e' aX
  obtain rfl:=a0o h1 aX
  split
  ·trivial
  ·rename_i u y0 hg
   obtain ⟨Op,m1,mn,m2,m3,m4,m5⟩:=N7 (L7 h3) (h.hs.ob i e' h1) h.hs.slt h2 hg h3
   split
   ·trivial
   ·rename_i bE
    split
    ·rename_i hy
     have po:=x8 h hy
     split
     ·rename_i o' u' _
      split
      ·rename_i r aO
       refine a1n hE h ho h1 h2 h3 h4 hg bE (u':=.d0 o' u') (z:=([]:List u'.den)) (O2:=[]) (cs:=[.slice none 0 0]) (.inl ⟨rfl,⟨none,0,rfl,λ _=>rfl⟩,rfl⟩) List.nodup_nil ?_ aO (by simp) (by simp);have:[a.eval y]=[Value.slice none 0 0]:=po;simpa [j9,Ty.agg] using this
      ·trivial
     ·rename_i a' _
      split
      ·rename_i r aO
       refine a1n hE h ho h1 h2 h3 h4 hg bE (u':=.w6 a') (z:=(1,([],[]))) (O2:=[]) (cs:=[.slice none 0 0]) (.inl ⟨rfl,⟨none,0,rfl,λ _=>rfl⟩,rfl⟩) List.nodup_nil ?_ aO (by simp) (by simp);have:[a.eval y]=[Value.slice none 0 0]:=po;simpa [j9,Ty.agg] using this
      ·trivial
     ·trivial
    ·rename_i j q lo hi hy
     split
     ·rename_i u' y1
      split
      ·rename_i r aO
       split
       ·rename_i cd
        have cd:=Nat.eq_of_beq_eq_true cd;subst cd;rintro ⟨rfl,_⟩;obtain ⟨e2,v2,k1,k2,k3,k4,k5,k6⟩:=x8 h hy;rw [h1] at k1; cases k1;rcases k6 with ⟨t',l,A,cap,q1,q2,q3,q4⟩|⟨n,t',l,b2,off2,q1,_⟩
        ·rw [hg] at q1; cases q1
         obtain ⟨b0,off0,r1,r2⟩:=q3;obtain ⟨r3,r4⟩:=B0 h3;rw [r3] at r1; cases r1;rw [l4 (E9 r4)] at r2;have m2':f8 w.heap S (.d0 true u') Op [.slice A (List.length y1) cap] y1:=by rw [r2]; exact m2
         obtain ⟨O,cs,g1,g2,g3,g4⟩:=b7H m2' mn k4 k5 q2 q4;have k3:a.eval y=v2:=by simpa using k3
         refine a1n hE h ho h1 h2 h3 h4 hg bE (u':=.d0 true u') (z:=n5 lo hi y1) g2 g3 (by rw [k3,g1]) aO (λ c hc=>?_) ?_
         ·have dC:=m1 c (g4 c hc)
          exact ⟨h.hs.bl i e' h1 c (F6 dC),λ j ej hj cZ=>h.hs.dj i j e' ej h1 cZ (Ne.symm hj) c (F6 dC),λ _=>⟨Op,m2,g4 c hc⟩⟩
         ·intro hb
          have:=(h.hs.ob i e' h1).a0I (L7 h3) h.hs.slt h2 hg h3 m2;exact this (g4 b hb)
        ·rw [hg] at q1; cases q1
       ·trivial
      ·trivial
     ·trivial
    ·rename_i xv _ _
     split
     ·rename_i q g cC
      split
      ·rename_i r aO
       split
       ·rename_i jU
        simp only [Bool.and_eq_true,Bool.not_eq_true'] at jU;obtain ⟨⟨ep,ig⟩,eA⟩:=jU;have ep:i∉g:=by
         intro hm;simp [hm] at ep
        obtain ⟨O2,cs,k1,k2,k3,k4⟩:=a38 h.hs (t:=q.1) (x:=q.2) cC (h.ev y);obtain ⟨k2,kf⟩:=c3I (u:=u) k2;rw [<- a7v kf] at k1;have hd:=h.u4 (g:=g) eA;have iJ:look i (St.u4 g s).hp=some e':=by rw [H8,if_neg ep]; exact h1
        have bK:∀ c∈O2,∀ j ej,j∉g->look j s.hp=some ej->c∉l6 ι j ej:=by
         intro c hc j ej hj cZ;obtain ⟨j2,e2,q1,q2,q3⟩:=k4 c hc;exact h.hs.dj j2 j e2 ej q2 cZ (by rintro rfl; exact hj q1) c q3
        refine a1n hE hd ho iJ h2 h3 h4 hg bE k2 k3 k1 aO (λ c hc=>?_) (λ hb=>bK b hb i e' ep h1 m4);obtain ⟨j2,e2,q1,q2,q3⟩:=k4 c hc;refine ⟨h.hs.bl j2 e2 q2 c q3,λ j ej hj cZ=>?_,λ lZ=>absurd lZ (bK c hc i e' ep h1)⟩;rw [H8] at cZ;split at cZ
        ·cases cZ
        ·rename_i gN; exact bK c hc j ej gN cZ
       ·trivial
      ·trivial
     ·split
      ·rename_i j q hy
       split
       ·rename_i u' y' cM
        split
        ·rename_i r aO
         split
         ·rename_i hc
          simp only [Bool.and_eq_true] at hc;obtain ⟨e2,u2,y2,cs,k1,k2,k3,k4,k5⟩:=x8 h hy;have fF:=G6 k1 cM;rw [k3] at fF; cases fF;obtain ⟨O2,g1,_,g2⟩:=F1 h.hs k1 k2 k3 k4;exact a1n hE h ho h1 h2 h3 h4 hg bE (g2.a0z hc.1.1) List.nodup_nil (by rw [b3F (a8O _)]; simpa using k5) aO (by simp) (by simp)
         ·trivial
        ·trivial
       ·trivial
      ·trivial
theorem c2k (_hE:C2 E B) (h:RS B S ι s a w) {o:Oper} {T:TypeId} {x:Operand} (ho:o.op=.box T x):D3 E.P B o a w (n7 E o s):=by
 unfold n7;rw [ho];simp only
 split
 ·rename_i t d ht hd
  split
  ·rename_i hf
   have core:∀ {u:Ty} {y:u.den} {O:List Nat} {cs:List Value} {g:List Nat},f8 w.heap S u O cs y->a.eval x=j9 u cs->(g.all λ i=>!pinned i)=true->d∉g->C9 B S ι (St.u4 g s).hp w O->w4 E.P B o a w (.ptr d []) ((St.u4 g s).u5 d (.var u y)):=by
    intro u y O cs g hR e hg sN hF next Q hn
    unfold Oper.wp;have:(execOp a.eval o).run E.P w=.ok (.value (.pointer (some ⟨w.heap.size,0,none⟩))) (C6 w (.cells cs.toArray T)):=by
     simp [execOp,ho,Instr.box,e,newVar,newRow,newObj,Sem.run,C6,hR.cells]
    rw [this];have rq:(St.u4 g s).fresh d=true:=by
     obtain ⟨f1,f2⟩:=a4a hf;simp only [St.fresh,Bool.and_eq_true,Option.isNone_iff_eq_none];refine ⟨by rw [H8]; split<;>first|rfl|exact f1,?_⟩;exact a3D (by simp only [St.fresh,Bool.and_eq_true] at hf; exact hf.2)
    exact hn S _ _ _ ((h.u4 hg).alloc rq hR hF T) (b0L (by simp [C6]))
   split
   ·rename_i u y g cC
    split
    ·rename_i hs
     split
     ·rename_i jU
      simp only [Bool.and_eq_true,Bool.not_eq_true'] at jU;obtain ⟨⟨ig,ot⟩,eA⟩:=jU;obtain ⟨O2,cs,k1,k2,k3,k4⟩:=a38 h.hs cC (h.ev x);exact core k2 k1 eA (by intro hm; simp [hm] at ot) (C9.u4 h.hs k3 k4)
     ·trivial
    ·trivial
   ·split
    ·rename_i o' u hx _
     have hv:[a.eval x]=[Value.slice none 0 0]:=x8 h hx;exact core (g:=[]) (cs:=[.slice none 0 0]) (u:=.d0 o' u) (y:=([]:List u.den)) (O:=[]) (.inl ⟨rfl,⟨none,0,rfl,λ _=>rfl⟩,rfl⟩) (by simpa [j9,Ty.agg] using hv) rfl (by simp) C9.nil
    ·rename_i i p o0 t0 hx _
     intro next Q hn
     obtain ⟨e,b,off,k1,k2,k3,k4⟩:=x8 h hx;have k4:a.eval x=.pointer (some ⟨b,off,none⟩):=by simpa using k4
     unfold Oper.wp;have:(execOp a.eval o).run E.P w=.ok (.value (.pointer (some ⟨w.heap.size,0,none⟩))) (C6 w (.cells #[.pointer (some ⟨b,off,none⟩)] T)):=by
      simp [execOp,ho,Instr.box,k4,newVar,newRow,newObj,Sem.run,C6,Value.cells]
     rw [this];have h1:=h.W5 C9.nil (y9.push (.cells #[.pointer (some ⟨b,off,none⟩)] T));have h2:=h1.share (S':=λ c=>S c\/c=w.heap.size) (λ _ h=>.inl h) (λ c hc=>by
      rcases hc with hc|rfl
      ·exact .inl hc
      ·exact .inr ⟨.inl h.hs.size,by simp [C6],λ j ej hj hb=>Nat.lt_irrefl _ (h.hs.bl j ej hj _ hb).2.2⟩)
     have hb:s9 (C6 w (.cells #[.pointer (some ⟨b,off,none⟩)] T)).heap w.heap.size=[.pointer (some ⟨b,off,none⟩)]:=by
      simp only [s9,C6,Array.getElem?_push_size]
     refine hn _ _ _ _ h2 ⟨w.heap.size,0,.pointer (some ⟨b,off,none⟩),rfl,.inr rfl,by rw [hb]; simp,by rw [d9,hb]; rfl,?_⟩;have h3:=h2.ev x;rw [hx,k4] at h3;exact h3
    ·trivial
  ·trivial
 ·trivial
end
end Go.Ex
namespace Go.Ex
section
variable {E:Env} {B:D4} {S S':Nat->Prop} {ι:Ix} {s:St} {a:Act} {w:World} {hp:List (Nat×g8)} {H H':Array Go.Obj}
theorem a8o {P:Program} {k:Nat} {T U:TypeId} {t:Ty} (hT:n8 P k T (.d0 true t)=true) (ty:TypeId) (hS:∀ c,S c->c<w.heap.size)
  {base:Option Addr} {cap:Nat} {l m:List t.den} {O1 Og:List Nat} {x:Value} {olds news:List Value}
  (hold:(Builtin.firstCells t.size l.length (.slice base l.length cap)).run P w.drew=.ok olds.toArray w.drew) (hL:i7 (f8 w.heap S t) t.size O1 olds l)
  (hs:Src P t.size U x m.length news w) (hN:i7 (f8 w.heap S t) t.size Og news m) (aI:(O1++Og).Nodup) (hO:∀ c∈O1++Og,c<w.heap.size)
  (cD:cap<l.length+m.length) (iT:l.length+m.length<=140737488355328) (gz:(l.length+m.length)*t.wb<=140737488355328) :
  ∃ v' w' O',(Builtin.append_ #[T,U] ty #[.slice base l.length cap,x]).run P w=.ok v' w'/\f8 w'.heap S (.d0 true t) O' [v'] (l++m)/\O'.Nodup/\y9 [] w w'/\w.heap.size<w'.heap.size/\∀ c∈O',(c=w.heap.size\/c∈O1++Og)/\c<w'.heap.size:=by
 obtain ⟨et,k2,h1,h2,h3⟩:=E6 hT;obtain ⟨i,hi,dB,jj⟩:=R4 h3;have jk:=a2Z h3 hi;have iJ:olds.length=l.length*t.size:=i7.length (λ _ _ _ h=>h.length) hL;have kM:news.length=m.length*t.size:=i7.length (λ _ _ _ h=>h.length) hN;have jl:=grownCap_ge w (l.length+m.length) cap et;have fi:=grownCap_le_maxLen w (l.length+m.length) cap et (by unfold maxLen; omega);have gB:(j9 t (zc t)).cells=(zc t).toArray:=(f8.o8 (H:=w.heap) (S:=S) t).cells;have aW:=run_append_grow_src (P:=P) w T U ty et i (j9 t (zc t)) h1 hi jj base l.length cap olds (by rw [dB]; exact hold) x m.length news (by rw [dB]; exact hs) cD (by omega) (by rw [jk]; exact growslice_fits cD gz);generalize jU:grownCap w (l.length+m.length) cap et=gc at aW jl fi;have bj:y9 [] w (w.drew.alloc (.cells ((olds++news).toArray++Builtin.zeroCells (j9 t (zc t)).cells (gc - (l.length+m.length))) et)) :=
  y9.trans y9.drew (y9.push _) (by simp)
 have cv:((olds++news).toArray++Builtin.zeroCells (j9 t (zc t)).cells (gc - (l.length+m.length)))=((olds++news)++(List.replicate (gc - (l.length+m.length)) (zc t)).flatten).toArray:=by
  rw [gB,a1w]; simp
 rw [cv] at aW bj;have bo:(l++m).length=l.length+m.length:=List.length_append;obtain ⟨O',q1,q2,q3⟩:=a5h (w:=w) (t:=t) (l:=l++m) (cap:=gc) hS (O:=O1++Og) (cells:=(olds++news)++(List.replicate (gc - (l.length+m.length)) (zc t)).flatten) (by
  rw [bo,List.take_left' (by rw [List.length_append,iJ,kM,Nat.add_mul])];exact i7.append (λ _ _ _ h=>h.length) hL hN) (by rw [bo]; exact jl) fi (by
  simp only [List.length_append,iJ,kM,List.length_flatten,List.map_replicate,List.sum_replicate_nat,I6];rw [<- Nat.add_mul,<- Nat.add_mul]; exact Nat.mul_le_mul_right _ (by omega)) et hO (w':=w.drew.alloc (.cells ((olds++news)++(List.replicate (gc - (l.length+m.length)) (zc t)).flatten).toArray et)) rfl (.inl rfl)
 have bn:(w.drew.alloc (.cells ((olds++news)++(List.replicate (gc - (l.length+m.length)) (zc t)).flatten).toArray et)).heap.size=w.heap.size+1:=by
  show (w.heap.push _).size=_;simp
 refine ⟨_,_,O',aW,?_,q3 aI,bj,by omega,λ c hc=>⟨q2 c hc,?_⟩⟩
 ·rw [bo] at q1; exact q1
 ·rcases q2 c hc with rfl|h
  ·omega
  ·have:=hO c h; omega
theorem a8n {P:Program} {k:Nat} {T U:TypeId} {t:Ty} (hT:n8 P k T (.d0 true t)=true) (ty:TypeId)
  {b off cap:Nat} {l m:List t.den} {O1 Og:List Nat} {x:Value} {news:List Value}
  (hl:l.length<=cap) (dC:cap<=maxLen) (fk:R3 t.isB w.heap b (off+cap*t.size)) (hL:i7 (f8 w.heap S t) t.size O1 (d9 w.heap b off (l.length*t.size)) l)
  (hs:Src P t.size U x m.length news w) (hN:i7 (f8 w.heap S t) t.size Og news m) (aI:(b::O1++Og).Nodup) (kk:¬ S b)
  (ch:l.length+m.length<=cap) (kt:1<=cap) :
  ∃ w',(Builtin.append_ #[T,U] ty #[.slice (some ⟨b,off,none⟩) l.length cap,x]).run P w=.ok (.slice (some ⟨b,off,none⟩) (l.length+m.length) cap) w' /\
   T9 w.heap w'.heap b (off+l.length*t.size) news.length/\w'.heap.size=w.heap.size/\f8 w'.heap S (.d0 true t) (b::(O1++Og)) [.slice (some ⟨b,off,none⟩) (l.length+m.length) cap] (l++m)/\y9 [b] w w' /\
   f8 w'.heap S (.d0 true t) (b::O1) [.slice (some ⟨b,off,none⟩) l.length cap] l:=by
 obtain ⟨et,k2,h1,h2,h3⟩:=E6 hT;obtain ⟨i,hi,dB,jj⟩:=R4 h3;have kM:news.length=m.length*t.size:=i7.length (λ _ _ _ h=>h.length) hN;have hle:l.length*t.size+m.length*t.size<=cap*t.size:=by rw [<- Nat.add_mul]; exact Nat.mul_le_mul_right _ ch
 have bo:(l++m).length=l.length+m.length:=List.length_append;obtain ⟨arr,T',⟨fz,e,ef⟩,hn⟩:=fk;have bI:s9 w.heap b=arr.toList:=by simp only [s9,e]
 have bN:=Y3 (P:=P) b (off+l.length*t.size) T' fz news 0 arr w ⟨e,ef.imp id (·.2)⟩ (by omega) hs.one;simp only [Nat.add_zero] at bN;have gI:arr.toList.take (off+l.length*t.size)++news++arr.toList.drop (off+l.length*t.size+news.length)=over (s9 w.heap b) (off+l.length*t.size) news:=by rw [bI]; rfl
 rw [gI] at bN;have aW:(Builtin.append_ #[T,U] ty #[.slice (some ⟨b,off,none⟩) l.length cap,x]).run P w=.ok (.slice (some ⟨b,off,none⟩) (l.length+m.length) cap) (w.setRow b (over (s9 w.heap b) (off+l.length*t.size) news).toArray):=by
  rw [<- dB] at hs bN ⊢;rcases hs.kind with ⟨e',hk⟩|hk<;>simp [Builtin.append_,run_underlying h1,run_underlying hk,sizeOf,typeInfo,hi,hs.len,ch,hs.cells,Addr.add_lit,bN]
 obtain ⟨hc,hcs⟩:=a3U (w:=w) (b:=b) (off:=off+l.length*t.size) (cs:=news) ⟨arr,T',⟨fz,e,ef.imp id (·.2)⟩,by omega⟩;have db:b<w.heap.size:=(Array.getElem?_eq_some_iff.1 e).1;have nO:=(List.nodup_cons.1 (by simpa using aI:(b::(O1++Og)).Nodup));have hold:d9 (w.setRow b (over (s9 w.heap b) (off+l.length*t.size) news).toArray).heap b off (l.length*t.size)=d9 w.heap b off (l.length*t.size):=hc.cells db (λ _=>.inl (Nat.le_refl _));have bN:∀ {O:List Nat} {cs:List Value} {y:t.den},(∀ c∈O,c∈O1++Og)->f8 w.heap S t O cs y->f8 (w.setRow b (over (s9 w.heap b) (off+l.length*t.size) news).toArray).heap S t O cs y:=by
  intro O cs y hO hr;refine hr.r8 (λ c cI=>setRow_other ?_) (λ _ h=>h);intro cO;rw [cO] at cI;rcases cI with h|h
  ·exact nO.1 (hO _ h)
  ·exact kk h
 have dw:R3 t.isB (w.setRow b (over (s9 w.heap b) (off+l.length*t.size) news).toArray).heap b (off+cap*t.size):=hc.b9f ⟨arr,T',⟨fz,e,ef⟩,hn⟩;refine ⟨_,aW,hc,setRow_size,?_,⟨rfl,.of rfl rfl,rfl,by rw [setRow_size]; exact Nat.le_refl _,λ c df cO=>setRow_other (by simpa using cO)⟩,?_⟩
 rotate_left
 ·refine .inr ⟨b,off,cap,O1,rfl,hl,⟨dC,λ _=>kt⟩,?_,?_,rfl,dw⟩
  ·have:=dw.free.s9
   have:=Nat.mul_le_mul_right t.size hl;omega
  ·rw [hold]
   exact i7.mono (L:=O1) (λ _ h=>h) (λ O cs y hO hr=>bN (λ c hc=>by simp [hO c hc]) hr) hL
 refine .inr ⟨b,off,cap,O1++Og,by rw [bo],by rw [bo]; exact ch,⟨dC,λ _=>kt⟩,?_,?_,rfl,dw⟩
 ·have:=dw.free.s9
  rw [bo,Nat.add_mul]; omega
 ·rw [bo,Nat.add_mul,a2m,hold,<- kM,hcs]
  exact i7.append (λ _ _ _ h=>h.length) (i7.mono (L:=O1) (λ _ h=>h) (λ O cs y hO hr=>bN (λ c hc=>by simp [hO c hc]) hr) hL) (i7.mono (L:=Og) (λ _ h=>h) (λ O cs y hO hr=>bN (λ c hc=>by simp [hO c hc]) hr) hN)
theorem b0h {P:Program} {k:Nat} {T U:TypeId} {t:Ty} (hT:n8 P k T (.d0 true t)=true) (ty:TypeId) (hS:∀ c,S c->c<w.heap.size)
  {v:Value} {l m:List t.den} {Of Og:List Nat} {x:Value} {news:List Value}
  (hR:f8 w.heap S (.d0 true t) Of [v] l) (hs:Src P t.size U x m.length news w) (hN:i7 (f8 w.heap S t) t.size Og news m)
  (aI:(Of++Og).Nodup) (hO:∀ c∈Of++Og,¬ S c/\c<w.heap.size)
  (iT:l.length+m.length<=140737488355328) (gz:(l.length+m.length)*t.wb<=140737488355328) :
  ∃ v' w' O',(Builtin.append_ #[T,U] ty #[v,x]).run P w=.ok v' w'/\f8 w'.heap S (.d0 true t) O' [v'] (l++m)/\O'.Nodup/\y9 Of w w'/\(∀ c∈O',(w.heap.size<=c\/c∈Of++Og)/\c<w'.heap.size)/\f8 w'.heap S (.d0 true t) Of [v] l /\
   (y9 [] w w'\/∃ b off cap n,v=.slice (some ⟨b,off,none⟩) l.length cap/\l.length<=cap/\1<=cap/\T9 w.heap w'.heap b (off+l.length*t.size) n/\w'.heap.size=w.heap.size):=by
 have eT:=hR;rcases hR with ⟨rfl,⟨A,c,e,hc⟩,rfl⟩|⟨b,off,cap,O1,e,c2,c3,c4,c5,rfl,c7⟩
 ·obtain rfl:=hc rfl
  simp only [List.cons.injEq,and_true] at e;subst e;by_cases h0:m.length=0
  ·obtain rfl:m=[]:=List.length_eq_zero_iff.1 h0
   obtain ⟨rfl,rfl⟩:=hN;obtain ⟨et,k2,h1,h2,h3⟩:=E6 hT;obtain ⟨i,hi,dB,jj⟩:=R4 h3;refine ⟨.slice A 0 0,w,[],?_,.inl ⟨rfl,⟨A,0,rfl,λ _=>rfl⟩,rfl⟩,List.nodup_nil,⟨rfl,.refl _,rfl,Nat.le_refl _,λ _ _ _=>rfl⟩,by simp,eT,.inl ⟨rfl,.refl _,rfl,Nat.le_refl _,λ _ _ _=>rfl⟩⟩;rw [<- dB] at hs;have ie:=hs.len;have dO:=hs.cells;simp only [List.length_nil] at ie dO;rcases hs.kind with ⟨e',hk⟩|hk<;>cases A<;>simp [Builtin.append_,run_underlying h1,run_underlying hk,sizeOf,typeInfo,hi,ie,dO,storeCells]
  ·obtain ⟨v',w',O',q1,q2,q3,q4,q5,q6⟩:=a8o hT ty hS (base:=A) (cap:=0) (l:=([]:List t.den)) (olds:=[]) (O1:=[]) (by
    cases A with
    | none=>exact run_firstCells_none w.drew t.size 0 0 0
    | some A=>exact run_firstCells_some w.drew t.size 0 A 0 0 [] (by simp) (by simp)) ⟨rfl,rfl⟩ hs hN (by simpa using aI) (λ c hc=>(hO c (by simpa using hc)).2) (by simp; omega) iT gz
   exact ⟨v',w',O',q1,q2,q3,q4,λ c hc=>⟨(q6 c hc).1.imp (λ h=>by omega) (λ h=>by simpa using h),(q6 c hc).2⟩,eT.r8 (λ c hc=>q4.frame c (hc.elim (λ h=>by cases h) (hS c)) (by simp)) (λ _ h=>h),.inl q4⟩
 ·simp only [List.cons.injEq,and_true] at e
  subst e;by_cases ch:l.length+m.length<=cap
  ·obtain ⟨w',q1,q2,q3,q4,q5,q6⟩:=a8n (S:=S) hT ty c2 c3.1 c7 c5 hs hN aI (hO b (by simp)).1 ch (c3.2 rfl)
   refine ⟨_,w',b::(O1++Og),q1,q4,by simpa using aI,q5.mono (by simp),λ c hc=>⟨.inr (by simpa using hc),?_⟩,q6,.inr ⟨b,off,cap,news.length,rfl,c2,c3.2 rfl,q2,q3⟩⟩;rw [q3]; exact (hO c (by simpa using hc)).2
  ·have dN:(O1++Og).Nodup:=(List.nodup_cons.1 (by simpa using aI:(b::(O1++Og)).Nodup)).2
   obtain ⟨v',w',O',q1,q2,q3,q4,q5,q6⟩:=a8o hT ty hS (base:=some ⟨b,off,none⟩) (cap:=cap) (l:=l) (olds:=d9 w.heap b off (l.length*t.size)) (O1:=O1) (by
    refine run_firstCells_some w.drew t.size l.length _ l.length cap _ (a2a _ _ _ c4) (λ j u hu=>?_);rw [Addr.F8]; exact K1 hu) c5 hs hN dN (λ c hc=>(hO c (by simp at hc ⊢; exact .inr hc)).2) (by omega) iT gz
   exact ⟨v',w',O',q1,q2,q3,q4.mono (by simp),λ c hc=>⟨(q6 c hc).1.imp (λ h=>by omega) (λ h=>by simp at h ⊢; exact .inr h),(q6 c hc).2⟩,eT.r8 (λ c hc=>q4.frame c (hc.elim (λ h=>(hO c (List.mem_append_left _ h)).2) (hS c)) (by simp)) (λ _ h=>h),.inl q4⟩
theorem a5R {P:Program} (h:RS B S ι s a w) {v:AV} {t0:Ty} {U:TypeId} (hk:(∃ e',P.underlying U=some (.slice e'))\/P.underlying U=some .string) {t:Ty} {m:List t.den} {g:List Nat} {x:Value} (hx:v.a1j s t0=some (⟨t,m⟩,g)) (hv:VX w.heap S ι s.hp v [x]) :
  ∃ Og news,Src P t.size U x m.length news w/\i7 (f8 w.heap S t) t.size Og news m/\Og.Nodup/\∀ b∈Og,K2 ι s.hp g b:=by
 have src:∀ {A:Option Addr} {n c:Nat} {news:List Value},news.length=n*t.size->(n≠0->∃ b off,A=some ⟨b,off,none⟩/\news=d9 w.heap b off (n*t.size))->(∀ u∈news,u.oneCell'=true)->Src P t.size U (.slice A n c) n news w:=by
  intro A n c news hl hn h1;by_cases h0:n=0
  ·subst h0
   have:news=[]:=List.length_eq_zero_iff.1 (by omega);subst this;cases A with
   | none=>exact ⟨hk,λ _=>rfl,run_firstCells_none w _ 0 0 c,run_firstCells_none w.drew _ 0 0 c,by simp,λ _ h=>by cases h⟩
   | some A=>exact ⟨hk,λ _=>rfl,run_firstCells_some w _ 0 A 0 c [] (by simp) (by simp),run_firstCells_some w.drew _ 0 A 0 c [] (by simp) (by simp),by simp,λ _ h=>by cases h⟩
  ·obtain ⟨b,off,rfl,e⟩:=hn h0
   have bH:∀ j u,news[j]?=some u->w.cell? ((⟨b,off,none⟩:Addr).add j)=some u:=by
    intro j u hu;rw [Addr.F8]; rw [e] at hu; exact K1 hu
   exact ⟨hk,λ _=>rfl,run_firstCells_some w _ n _ n c news hl bH,run_firstCells_some w.drew _ n _ n c news hl (by simpa using bH),hl,h1⟩
 unfold AV.a1j at hx;split at hx
 ·cases hx
  have fa:[x]=[Value.slice none 0 0]:=hv;obtain rfl:x=.slice none 0 0:=by simpa using fa
  exact ⟨[],[],src (by simp) (by simp) (by simp),⟨rfl,rfl⟩,List.nodup_nil,by simp⟩
 ·rename_i y
  cases hx;obtain ⟨rfl,hm⟩:=VX.a10 hv;refine ⟨[],byteCells ⟨y.toArray⟩,?_,?_,List.nodup_nil,by simp⟩
  ·have hl:(List.map (λ b:UInt8=>(b.toNat:Int)) y).length=(⟨y.toArray⟩:ByteArray).size:=by simp [ByteArray.size]
   have e:∀ w':World,(Builtin.firstCells 1 (⟨y.toArray⟩:ByteArray).size (.string ⟨y.toArray⟩)).run P w'=.ok (byteCells ⟨y.toArray⟩).toArray w':=firstCells_string _;show Src P 1 U (.string ⟨y.toArray⟩) (List.map (λ b:UInt8=>(b.toNat:Int)) y).length (byteCells ⟨y.toArray⟩) w;rw [hl];exact ⟨hk,λ _=>rfl,e w,e w.drew,by rw [byteCells_length,Nat.mul_one],λ u hu=>by
    obtain ⟨_,_,rfl⟩:=List.mem_map.1 hu;rfl⟩
  ·simp only [byteCells]
   clear src hv hm
   induction y with
   | nil=>exact ⟨rfl,rfl⟩
   | cons c y ih=>exact ⟨[],[],rfl,⟨rfl,rfl,by simp only [r7,IntKind.min,IntKind.max,IntKind.signed,IntKind.bits]; have:=c.toNat_lt; simp; omega⟩,by simpa [Ty.size] using ih⟩
 ·split at hx
  ·cases hx
  ·rename_i t' l eI
   split at hx
   ·rename_i bT
    cases hx;obtain ⟨A,c,e,k⟩:=a7G h.hs hv eI;subst e;rcases k with rfl|⟨b,off,O',rfl,k1,k2,k3,k4⟩
    ·exact ⟨[],[],src (by simp) (by simp) (by simp),⟨rfl,rfl⟩,List.nodup_nil,by simp⟩
    ·have hO:O'=[]:=i7.J7 (λ _ _ _ hr=>f8.J7 bT hr) k3
     subst hO;exact ⟨[],_,src (i7.length (λ _ _ _ h=>h.length) k3) (λ _=>⟨b,off,rfl,rfl⟩) (i7.plain (λ _ _ _ hr=>hr.plain) k3 · · |>.1),k3,List.nodup_nil,by simp⟩
   ·split at hx
    ·rename_i u m' g' cC
     cases hx;obtain ⟨O,cs,k1,k2,k3,k4⟩:=a1g h.hs cC hv;rcases k2 with ⟨rfl,⟨A,c,rfl,hc⟩,rfl⟩|⟨b,off,cap,O',rfl,c2,c3,c4,c5,rfl,c7⟩
     ·have e:x=.slice A 0 c:=k1
      subst e;exact ⟨[],[],src (by simp) (by simp) (by simp),⟨rfl,rfl⟩,List.nodup_nil,by simp⟩
     ·have e:x=.slice (some ⟨b,off,none⟩) (List.length m) cap:=k1
      subst e;exact ⟨O',_,src (i7.length (λ _ _ _ h=>h.length) c5) (λ _=>⟨b,off,rfl,rfl⟩) (i7.plain (λ _ _ _ hr=>hr.plain) c5 · · |>.1),c5,(List.nodup_cons.1 k3).2,λ c hc=>k4 c (by simp [hc])⟩
    ·cases hx
theorem c0e (hE:C2 E B) (h:RS B S ι s a w) {o:Oper} {c:Call} (ho:o.op=.call c) (hc:c.callee=.builtin .append) {x y:Operand} {T U:TypeId} (ha:c.args.toList=[x,y]) (eu:c.argTypes.toList=[T,U])
  {q:Bool} {t0:Ty} {bts d:Nat} (hT:look T E.tt=some ⟨.d0 q t0,bts⟩) {l m:List t0.den} {f g Of Og:List Nat} {v1:Value} {news:List Value} (fR:a.eval x=v1) (hR:f8 w.heap S (.d0 true t0) Of [v1] l) (mj:Of.Nodup) (pR:∀ b∈Of,K2 ι s.hp f b)
  (hs:Src E.P t0.size U (a.eval y) m.length news w) (hN:i7 (f8 w.heap S t0) t0.size Og news m) (kR:Og.Nodup) (kj:∀ b∈Og,K2 ι s.hp g b) {p:Prop} (hp:p->l.length+m.length<=140737488355328/\(l.length+m.length)*t0.wb<=140737488355328) :
  D3 E.P B o a w ((s.lay d (f++g) (.d0 true t0) (l++m)).f6 p):=by
 refine D3.a4I (λ v s' hl kG=>?_);obtain ⟨iT,gz⟩:=hp kG;obtain ⟨gn,gp⟩:=a7D hl;have cF:n8 E.P 100 T (.d0 true t0)=true:=a4C (t:=.d0 q t0) (u:=.d0 true t0) rfl (q9 hE hT);have aI:(Of++Og).Nodup:=List.nodup_append.2 ⟨mj,kR,by
  rintro c h1 c' h2 rfl;obtain ⟨i,e,i1,i2,i3⟩:=pR c h1;obtain ⟨j,e',j1,j2,j3⟩:=kj c h2;exact h.hs.dj i j e e' i2 j2 (λ e=>(List.nodup_append.1 gn).2.2 i i1 j j1 e) c i3 j3⟩
 have dn:∀ b∈Of++Og,K2 ι s.hp (f++g) b:=λ b hb=>(List.mem_append.1 hb).elim (λ hb=>(pR b hb).mono (by simp +contextual)) (λ hb=>(kj b hb).mono (by simp +contextual));have hF:=C9.u4 h.hs aI dn;have hd:=h.u4 (g:=f++g) gp;obtain ⟨v',w',O',q1,q2,q3,q4,q5,_⟩:=b0h cF o.type h.hs.slt hR hs hN aI (λ c hc=>⟨(hF.2 c hc).1,(hF.2 c hc).2.2.1⟩) iT gz;have aF:c.args=#[x,y]:=by rw [<- ha]
 have dI:c.argTypes=#[T,U]:=by rw [<- eu]
 have aW:(execOp a.eval o).run E.P w=.ok (.value v') w':=by
  subst fR;simp [execOp,ho,resolve,hc,invoke,builtin,aF,dI,q1]
 have mq:C9 B S ι (St.u4 (f++g) s).hp w Of:=hF.sub mj (by simp +contextual);refine w4.lay hl aW (cs:=[v']) rfl q2 (hd.W5 mq q4) ⟨q3,λ c hc=>?_⟩;obtain ⟨k1,k2⟩:=q5 c hc;rcases k1 with k1|k1
 ·exact ⟨λ hS=>by have:=h.hs.slt c hS; omega,.inl (by have:=h.hs.size; omega),k2,λ i e hi hb=>by have:=(hd.hs.bl i e hi c hb).2.2; omega⟩
 ·exact ⟨(hF.2 c k1).1,(hF.2 c k1).2.1,k2,(hF.2 c k1).2.2.2⟩
theorem a68 (hE:C2 E B) (h:RS B S ι s a w) {o:Oper} {c:Call} (ho:o.op=.call c) (hc:c.callee=.builtin .append) {x y:Operand} {T U:TypeId} (ha:c.args.toList=[x,y]) (eu:c.argTypes.toList=[T,U])
  (hk:(∃ e',E.P.underlying U=some (.slice e'))\/E.P.underlying U=some .string):D3 E.P B o a w (Z4 E T (s.ev x) (s.ev y) o.dst s):=by
 unfold Z4
 split
 ·rename_i q t0 bts d hT hd
  split
  ·trivial
  ·rename_i t m g cg
   obtain ⟨Og,news,k1,k2,k3,k4⟩:=a5R (P:=E.P) h hk cg (h.ev y);simp only;have own:∀ {l:List t0.den} {f Of:List Nat} {v1:Value},a.eval x=v1->f8 w.heap S (.d0 true t0) Of [v1] l->Of.Nodup->(∀ b∈Of,K2 ι s.hp f b) ->
     D3 E.P B o a w (if h:t=t0 then (s.lay d (f++g) (.d0 true t0) (l++I3 h m)).f6 ((l.length+m.length:Nat)<=140737488355328/\(l.length+m.length:Nat)*(t0.wb:Nat)<=140737488355328) else .fail "append: type"):=by
    intro l f Of v1 e1 e2 e3 e4
    split
    ·rename_i ht
     subst ht;exact c0e hE h ho hc ha eu hT e1 e2 e3 e4 k1 k2 k3 k4 (λ hp=>hp)
    ·trivial
   split
   ·rename_i hx
    have dP:[a.eval x]=[Value.slice none 0 0]:=x8 h hx;exact own (f:=[]) (Of:=[]) (v1:=.slice none 0 0) (by simpa using dP) (.inl ⟨rfl,⟨none,0,rfl,λ _=>rfl⟩,rfl⟩) List.nodup_nil (by simp)
   ·rename_i u lx hx
    split
    ·obtain ⟨cs,e,hR⟩:=x8 h hx
     rcases hR with ⟨_,⟨A,c,rfl,dO⟩,rfl⟩|⟨b,off,cap,O',rfl,c2,c3,c4,c5,c6,c7⟩
     ·exact own (f:=[]) (Of:=[]) (v1:=.slice A 0 c) (by simpa [j9,Ty.agg] using e) (.inl ⟨rfl,⟨A,c,rfl,dO⟩,rfl⟩) List.nodup_nil (by simp)
     ·cases c6
    ·trivial
   ·rename_i xv _ _
    split
    ·rename_i u l f cC
     split
     ·rename_i hu
      subst hu;obtain ⟨O2,cs,r1,r2,r3,r4⟩:=a1g h.hs cC (h.ev x);have r1':a.eval x=cs.headD undef:=r1;have hcs:cs=[cs.headD undef]:=by
       have:=r2.length
       match cs,this with
       | [c],_=>rfl
      rw [hcs] at r2;exact own r1' r2 r3 r4
     ·trivial
    ·trivial
 ·trivial
end
end Go.Ex
namespace Go.Ex
section
variable {E:Env} {B:D4} {S S':Nat->Prop} {ι:Ix} {s:St} {a:Act} {w:World} {hp:List (Nat×g8)} {H H':Array Go.Obj}
def a7q (a:Act) (d n:Int):Option Operand->Prop
 | none=>n=d
 | some x=>∃ k,a.eval x=.int k n
theorem W6 (h:RS B S ι s a w) {d n:Int} {x:Option Operand} (hb:Y2 s d x=some n):a7q a d n x:=by
 unfold Y2 at hb;split at hb
 ·cases hb; rfl
 ·rename_i x
  split at hb
  ·rename_i k m hx
   cases hb;exact ⟨k,(VX.G0 (x8 h hx)).1⟩
  ·cases hb
theorem a0G {P:Program} {k:IntKind} {n:Int} {y:Nat} {c:BoundsCode} (h0:0<=n) (h1:n<=y):(Instr.sliceBound (.int k n) y c).run P w=.ok n.toNat w:=by
 simp [Instr.sliceBound,asIntOf,h0,h1]
theorem a5f {P:Program} {isS:Bool} {len cap:Nat} {lo hi:Option Operand} {x y:Int} (h1:a7q a 0 x lo) (h2:a7q a (len:Int) y hi) (h0:0<=x) (kU:x<=y) (hy:y<=(cap:Int)) :
  (Instr.sliceBounds isS len cap (lo.map a.eval) (hi.map a.eval) none).run P w=.ok (x.toNat,y.toNat,cap) w:=by
 cases hi with
 | none =>
  have h2:y=len:=h2;cases lo with
  | none =>
   have h1:x=0:=h1;subst h1 h2;simp [Instr.sliceBounds,Sem.run_pure]
  | some z =>
   obtain ⟨k,e⟩:=h1;subst h2;simp only [Instr.sliceBounds,Option.map_some,Option.map_none,e,Sem.run_bind,Sem.run_pure,Result.andThen_ok,a0G h0 kU,Int.toNat_natCast]
 | some z2 =>
  obtain ⟨k2,e2⟩:=h2;have hb:∀ c,(Instr.sliceBound (.int k2 y) cap c).run P w=.ok y.toNat w:=λ c=>a0G (by omega) (by omega);cases lo with
  | none =>
   have h1:x=0:=h1;subst h1;simp [Instr.sliceBounds,e2,hb]
  | some z =>
   obtain ⟨k,e⟩:=h1;have eL:∀ c,(Instr.sliceBound (.int k x) y.toNat c).run P w=.ok x.toNat w:=λ c=>a0G h0 (by omega);simp only [Instr.sliceBounds,Option.map_some,e,e2,Sem.run_bind,Sem.run_pure,Result.andThen_ok,hb,eL]
theorem b6b {P:Program} {len cap:Nat} {lo:Option Operand} {x y:Operand} {k k':IntKind} (h1:a7q a 0 0 lo) (h2:a.eval x=.int k 0) (h3:a.eval y=.int k' 0) :
  (Instr.sliceBounds true len cap (lo.map a.eval) (some (a.eval x)) (some (a.eval y))).run P w=.ok (0,0,0) w:=by
 have hb:∀ (k:IntKind) (n:Nat) c,(Instr.sliceBound (.int k 0) n c).run P w=.ok 0 w:=λ k n c=>a0G (n:=0) (by omega) (by omega);cases lo with
 | none=>simp only [Instr.sliceBounds,Option.map_none,h2,h3,Sem.run_bind,hb,Sem.run_pure,Result.andThen_ok,if_true]
 | some z =>
  obtain ⟨k,e⟩:=h1;simp only [Instr.sliceBounds,Option.map_some,e,h2,h3,Sem.run_bind,hb,Sem.run_pure,Result.andThen_ok,if_true]
theorem c5h {y:List UInt8} {x z:Int} (h:0<=x):(⟨y.toArray⟩:ByteArray).extract x.toNat z.toNat=⟨(n5 x z y).toArray⟩:=by
 have:((⟨y.toArray⟩:ByteArray).extract x.toNat z.toNat).data=(n5 x z y).toArray:=by
  rw [ByteArray.data_extract];simp only [List.extract_toArray,List.extract_eq_take_drop,n5];congr 2;omega
 exact congrArg ByteArray.mk this
theorem c5X {α:Type} {x z:Int} {l:List α}:(n5 x z l).length<=l.length:=by simp only [n5,List.length_take,List.length_drop]; omega
theorem a5e {P:Program} {T:TypeId} {k:Nat} {q:Bool} {t:Ty} (hT:n8 P k T (.d0 q t)=true) {A:Option Addr} {len cap:Nat} {lo hi:Option Operand} {x y:Int} (h1:a7q a 0 x lo) (h2:a7q a (len:Int) y hi) (h0:0<=x) (kU:x<=y) (hy:y<=(cap:Int)) :
  (Instr.sliceAt T (.slice A len cap) (lo.map a.eval) (hi.map a.eval) none).run P w=.ok (.slice (if cap=x.toNat then A else A.map (·.add (x.toNat*t.size))) (y.toNat - x.toNat) (cap - x.toNat)) w:=by
 obtain ⟨et,k',e1,e2,e3⟩:=E6 hT;simp only [Instr.sliceAt,Instr.slice,Sem.run_bind,o6 e1,Result.andThen_ok,a5f h1 h2 h0 kU hy,run_sizeOf e3,Sem.run_pure]
theorem a6q {P:Program} {T:TypeId} {k:Nat} {q:Bool} {t:Ty} (hT:n8 P k T (.d0 q t)=true) {A:Option Addr} {len cap:Nat} {lo hi:Option Operand} {x y:Int} (h1:a7q a 0 x lo) (h2:a7q a (len:Int) y hi) (h0:0<=x) (kU:x<=y) (hy:y<=(len:Int)) (hc:len<=cap) :
  (Instr.sliceAt T (.slice A len cap) (lo.map a.eval) (hi.map a.eval) none).run P w=.ok (.slice (if cap=x.toNat then A else A.map (·.add (x.toNat*t.size))) (y.toNat - x.toNat) (cap - x.toNat)) w:=a5e hT h1 h2 h0 kU (by omega)
theorem b3I (hE:C2 E B) (h:RS B S ι s a w) {o:Oper} {T:TypeId} {x:Operand} {lo hi mx:Option Operand} (ho:o.op=.slice T x lo hi mx):D3 E.P B o a w (a2w E T (s.ev x) lo hi mx s):=by
 have he:execOp a.eval o=(do pure (.value (<- Instr.sliceAt T (a.eval x) (lo.map a.eval) (hi.map a.eval) (mx.map a.eval)))):=by simp [execOp,ho]
 unfold a2w
 split
 ·trivial
 ·rename_i m ic
  have h1:=W6 h ic;have nil3:∀ {q:Bool} {t:Ty} {A:Option Addr} {len cap:Nat} {c n:Int},I2 E T (.d0 q t)=true->hi.isSome=true->(∃ z,mx=some z)->Y2 s 0 mx=some c->(Y2 s (len:Int) hi=some n)->a.eval x=.slice A len cap->m=0/\n=0/\c=0 ->
    w4 E.P B o a w (.val (.d0 true t) ([]:List t.den)) s:=by
   rintro q t A len cap c n bE hh ⟨z,rfl⟩ hm hb hv ⟨rfl,rfl,rfl⟩;cases hi with
   | none=>cases hh
   | some y =>
    obtain ⟨k1,e1⟩:=W6 h hb;obtain ⟨k2,e2⟩:=W6 h hm;obtain ⟨et,k',f1,f2,f3⟩:=E6 (C1 hE bE);refine w4.value (val:=.slice A 0 0) ?_ h ⟨[.slice A 0 0],rfl,.inl ⟨rfl,⟨A,0,rfl,λ _=>rfl⟩,rfl⟩⟩;rw [he];simp only [Option.map_some,hv,Instr.sliceAt,Instr.slice,Sem.run_bind,o6 f1,Result.andThen_ok,b6b h1 e1 e2,run_sizeOf f3,Sem.run_pure];simp
  have any3:∀ {q:Bool} {t:Ty} {A:Option Addr} {len cap:Nat} {c n:Int},I2 E T (.d0 q t)=true->hi.isSome=true->lo.isSome=true->(∃ z,mx=some z)->Y2 s 0 mx=some c->(Y2 s (len:Int) hi=some n)->a.eval x=.slice A len cap->len<=cap->(0<=m/\m<=n/\n<=c/\c<=(len:Int)) ->
    w4 E.P B o a w .any s:=by
   rintro q t A len cap c n bE hh kM ⟨z,rfl⟩ hm hb hv cD ⟨g1,g2,g3,g4⟩;cases hi with
   | none=>cases hh
   | some y =>
    cases lo with
    | none=>cases kM
    | some z0 =>
     obtain ⟨k1,e1⟩:=W6 h hb;obtain ⟨k2,e2⟩:=W6 h hm;obtain ⟨k0,e0⟩:=h1;obtain ⟨et,k',f1,f2,f3⟩:=E6 (C1 hE bE);have dh:∀ d,(Instr.sliceBound (.int k2 c) cap d).run E.P w=.ok c.toNat w:=λ d=>a0G (by omega) (by omega);have eL:∀ d,(Instr.sliceBound (.int k1 n) c.toNat d).run E.P w=.ok n.toNat w:=λ d=>a0G (by omega) (by omega);have oQ:∀ d,(Instr.sliceBound (.int k0 m) n.toNat d).run E.P w=.ok m.toNat w:=λ d=>a0G g1 (by omega);refine w4.value (val:=.slice (if c.toNat=m.toNat then A else A.map (·.add (m.toNat*t.size))) (n.toNat - m.toNat) (c.toNat - m.toNat)) ?_ h ⟨_,rfl⟩;rw [he];simp only [Option.map_some,hv,Instr.sliceAt,Instr.slice,Instr.sliceBounds,e0,e1,e2,dh,eL,oQ,Sem.run_bind,o6 f1,Result.andThen_ok,run_sizeOf f3,Sem.run_pure,if_true]
  split
  ·rename_i y hx
   split
   ·rename_i n hb
    split
    ·rename_i bE
     rintro ⟨g1,g2,g3⟩;obtain ⟨hv,hl⟩:=VX.a10 (x8 h hx);have hu:=S9 (C1 hE bE);refine w4.value (val:=.string ⟨(n5 m n y).toArray⟩) ?_ h (VX.str (Nat.le_trans c5X hl));rw [he];have bn:(⟨y.toArray⟩:ByteArray).size=List.length y:=rfl;simp only [hv,Option.map_none,Instr.sliceAt,Instr.slice,Sem.run_bind,o6 hu,Result.andThen_ok,bn];simp only [Option.isSome_none,Bool.false_eq_true,if_false,a5f (isS:=false) h1 (W6 h hb) g1 g2 g3,Sem.run_pure,Result.andThen_ok,Sem.run_bind,c5h g1]
    ·trivial
   ·trivial
  ·rename_i t y hx
   obtain ⟨cs,e,hR⟩:=x8 h hx
   split
   ·rename_i n hb
    split
    ·rename_i bE
     rintro ⟨g1,g2,g3⟩;have key:∀ {A:Option Addr} {cap:Nat},a.eval x=.slice A (List.length y) cap->List.length y<=cap->(∃ cs',Value.slice (if cap=m.toNat then A else A.map (·.add (m.toNat*t.size))) (n.toNat - m.toNat) (cap - m.toNat)=j9 (.d0 false t) cs'/\f8 w.heap S (.d0 false t) [] cs' (n5 m n y)) ->
       w4 E.P B o a w (.val (.d0 false t) (n5 m n y)) s:=by
      rintro A cap hv hc ⟨cs',e1,e2⟩;refine w4.value (val:=j9 (.d0 false t) cs') ?_ h ⟨cs',rfl,e2⟩;rw [he,hv,<- e1];simp only [Option.map_none,Sem.run_bind,a6q (C1 hE bE) h1 (W6 h hb) g1 g2 g3 hc,Result.andThen_ok,Sem.run_pure]
     have hlen:(n5 m n y).length=(n - m).toNat:=Y0 g1 g3;rcases hR with ⟨_,⟨A,c,rfl,_⟩,rfl⟩|⟨b1,o1,cap,O',rfl,c2,c3,c4,c5,c6,rfl,c7⟩
     ·have hn:n=0:=by have:n<=((([]:List t.den).length:Nat):Int):=g3; simp at this; omega
      have gr:m=0:=by omega
      subst hn gr;exact key (A:=A) (cap:=c) (by simpa [j9,Ty.agg] using e) (by simp) ⟨[_],rfl,.inl ⟨rfl,⟨_,_,rfl,by simp⟩,by simp [n5]⟩⟩
     ·refine key (A:=some ⟨b1,o1,none⟩) (cap:=cap) (by simpa [j9,Ty.agg] using e) c2 ⟨[_],rfl,?_⟩
      by_cases hz:n5 m n y=[]
      ·have:n.toNat - m.toNat=0:=by rw [hz] at hlen; simp at hlen; omega
       rw [this];exact .inl ⟨rfl,⟨_,_,rfl,by simp⟩,hz⟩
      ·have fC:0<(n - m).toNat:=by rw [<- hlen]; exact List.length_pos_iff.2 hz
       obtain ⟨P1,P2,P3,e1,g⟩:=c5.cut m.toNat (n - m).toNat;have hP:P2=[]:=by have:=e1.symm; simp at this; exact this.2.1
       subst hP;have hle:m.toNat*t.size+(n - m).toNat*t.size<=List.length y*t.size:=by rw [<- Nat.add_mul]; exact Nat.mul_le_mul_right _ (by omega)
       rw [n6,m0 _ _ _ _ (by omega)] at g;refine .inr ⟨b1,o1+m.toNat*t.size,cap - m.toNat,[],?_,by rw [hlen]; omega,⟨by have:=c3.1; omega,by simp⟩,by rw [hlen]; omega,by rw [hlen]; exact g,rfl,rfl,c7⟩;rw [if_neg (by omega),Option.map_some,Addr.F8,hlen,show n.toNat - m.toNat=(n - m).toNat from by omega]
    ·trivial
   ·rename_i z hb
    split
    ·rename_i c bE hc
     simp only [Bool.and_eq_true] at bE;intro hp;obtain ⟨A,c,e1,_⟩:=a4E hR;exact nil3 bE.1 bE.2 ⟨_,rfl⟩ hc hb (by rw [show a.eval x=j9 (.d0 false t) cs by simpa using e]; exact e1) hp
    ·trivial
   ·trivial
  ·rename_i t y hx
   obtain ⟨cs,e,hR⟩:=x8 h hx
   split
   ·rename_i n hb
    split
    ·rename_i bE
     obtain ⟨fl,l,m'⟩:=y;rintro ⟨rfl,g1,g2,g3⟩;obtain ⟨b1,o1,O',rfl,c2,c4,c5,_,rfl,c7⟩:=hR;have hv:a.eval x=.slice (some ⟨b1,o1,none⟩) l.length (l.length+m'.length):=by simpa [j9,Ty.agg] using e
     have g3:n<=((l++m').length:Int):=by rw [List.length_append]; exact g3
     have hlen:(n5 m n (l++m')).length=(n - m).toNat:=Y0 g1 g3;have c4':=c4;rw [List.length_append] at g3;refine w4.value (val:=.slice (if l.length+m'.length=m.toNat then some ⟨b1,o1,none⟩ else (some ⟨b1,o1,none⟩:Option Addr).map (·.add (m.toNat*t.size))) (n.toNat - m.toNat) (l.length+m'.length - m.toNat)) ?_ h ⟨[_],rfl,?_⟩
     ·rw [he,hv]
      simp only [Option.map_none,Sem.run_bind,a5e (C1 hE bE) h1 (W6 h hb) g1 g2 g3,Result.andThen_ok,Sem.run_pure]
     by_cases hz:n5 m n (l++m')=[]
     ·have:n.toNat - m.toNat=0:=by rw [hz] at hlen; simp at hlen; omega
      rw [this];exact .inl ⟨rfl,⟨_,_,rfl,by simp⟩,hz⟩
     ·have fC:0<(n - m).toNat:=by rw [<- hlen]; exact List.length_pos_iff.2 hz
      obtain ⟨P1,P2,P3,e1,g⟩:=c5.cut m.toNat (n - m).toNat;have hP:P2=[]:=by have:=e1.symm; simp at this; exact this.2.1
      subst hP;have hle:m.toNat*t.size+(n - m).toNat*t.size<=List.length (l++m')*t.size:=by rw [<- Nat.add_mul,List.length_append]; exact Nat.mul_le_mul_right _ (by omega)
      rw [n6,m0 _ _ _ _ (by omega)] at g;refine .inr ⟨b1,o1+m.toNat*t.size,l.length+m'.length - m.toNat,[],?_,by rw [hlen]; omega,⟨by have:=c2.1; omega,by simp⟩,by rw [hlen]; omega,by rw [hlen]; exact g,rfl,rfl,c7⟩;rw [if_neg (by omega),Option.map_some,Addr.F8,hlen,show n.toNat - m.toNat=(n - m).toNat from by omega]
    ·trivial
   ·trivial
  ·rename_i hx
   split
   ·rename_i n q t bts hb hT
    rintro ⟨rfl,rfl⟩;have hv:a.eval x=.slice none 0 0:=by simpa using (show [a.eval x]=[Value.slice none 0 0] from x8 h hx)
    refine w4.value (val:=.slice none 0 0) ?_ h rfl;rw [he,hv];have:=a6q (w:=w) (A:=none) (len:=0) (cap:=0) (q9 hE hT) h1 (W6 h hb) (Int.le_refl _) (Int.le_refl _) (Int.le_refl _) (Nat.le_refl _);simp only [Option.map_none,Sem.run_bind,this,Result.andThen_ok,Sem.run_pure];simp
   ·trivial
  ·rename_i i p hx
   obtain ⟨e,u,y0,cs,k1,k2,k3,k4,k5⟩:=x8 h hx;have k5:a.eval x=j9 u cs:=by simpa using k5
   split
   ·rename_i t y cM
    have hg:=G6 k1 cM;rw [k3] at hg; cases hg;obtain ⟨O2,m1,m2,m3⟩:=F1 h.hs k1 k2 k3 k4;have lS:∃ A cap,cs=[.slice A (List.length y) cap]/\List.length y<=cap:=by
     rcases m3 with ⟨_,⟨A,c,rfl,_⟩,rfl⟩|⟨b1,o1,cap,O',rfl,c2,_⟩
     ·exact ⟨A,c,rfl,by simp⟩
     ·exact ⟨_,cap,rfl,c2⟩
    obtain ⟨A,cap,rfl,hc⟩:=lS;have k5:a.eval x=.slice A (List.length y) cap:=k5
    split
    ·rename_i n hb
     split
     ·rename_i bE
      rintro ⟨g1,g2,g3⟩;refine w4.value (val:=.slice (if cap=m.toNat then A else A.map (·.add (m.toNat*t.size))) (n.toNat - m.toNat) (cap - m.toNat)) ?_ h ⟨e,_,k1,k2,rfl,g1,g2,.inl ⟨t,y,A,cap,k3,g3,k4,_,_,by rw [show (n - m).toNat=n.toNat - m.toNat from by omega],λ bK=>by rw [if_neg (by omega)],by omega,by omega⟩⟩;rw [he,k5];simp only [Option.map_none,Sem.run_bind,a6q (C1 hE bE) h1 (W6 h hb) g1 g2 g3 hc,Result.andThen_ok,Sem.run_pure]
     ·trivial
    ·rename_i z hb
     split
     ·rename_i c bE gg
      simp only [Bool.and_eq_true] at bE
      split
      ·intro hp
       exact nil3 bE.1 bE.2 ⟨_,rfl⟩ gg hb k5 hp
      ·rename_i nV
       rintro ⟨g1,g2,g3,g4⟩;exact any3 bE.1 bE.2 nV ⟨_,rfl⟩ gg hb k5 hc ⟨g1,g2,g3,g4⟩
     ·trivial
    ·trivial
   ·trivial
  ·rename_i i p a0 b0 hx
   obtain ⟨e,v,k1,k2,k3,k4,k5,k6⟩:=x8 h hx;have k3:a.eval x=v:=by simpa using k3
   have core:∀ {t:Ty} {n:Int} {A0:Option Addr} {cap:Nat},I2 E T (.d0 true t)=true->Y2 s (b0 - a0) hi=some n->mx=none->0<=m->m<=n->a0+n<=(cap:Int)->b48 t.size A0 cap a0 b0 v->∃ val,(execOp a.eval o).run E.P w=.ok (.value val) w/\b48 t.size A0 cap (a0+m) (a0+n) val:=by
    rintro t n A0 cap bE hb rfl g1 g2 g3 ⟨c,A,e1,e2,e3,e4⟩;refine ⟨.slice (if c=m.toNat then A else A.map (·.add (m.toNat*t.size))) (n.toNat - m.toNat) (c - m.toNat),?_,_,_,by rw [show (a0+n - (a0+m)).toNat=n.toNat - m.toNat from by omega],?_,by omega,by omega⟩
    ·rw [he,k3,e1]
     have cX:Y2 s (((b0 - a0).toNat:Nat):Int) hi=some n:=by rw [Int.toNat_of_nonneg (by omega)]; exact hb
     simp only [Option.map_none,Sem.run_bind,a5e (A:=A) (cap:=c) (C1 hE bE) h1 (W6 h cX) g1 g2 (show n<=(c:Int) by omega),Result.andThen_ok,Sem.run_pure]
    ·intro bK
     rw [if_neg (by omega),e2 (by omega),Option.map_map,show (a0+m).toNat=a0.toNat+m.toNat from by omega];congr 1
     funext ad
     have km:∀ x y:Nat,(ad.add x).add y=ad.add (x+y):=by
      intro x y;unfold Addr.add;by_cases hx:x=0<;>by_cases hy:y=0<;>simp [hx,hy,Nat.add_assoc]
     simp only [Function.comp,Nat.add_mul,km]
   split
   ·rename_i t y dA
    split
    ·rename_i n hb
     split
     ·rename_i bE
      rintro ⟨g1,g2,g3⟩;have hg:=G6 k1 dA;rcases k6 with ⟨t',l,A,cap,q1,q2,q3,q4⟩|⟨n',t',l,b2,off2,q1,q2,q3,q4⟩
      ·rw [q1] at hg; cases hg
       obtain ⟨O2,m1,m2,m3⟩:=F1 h.hs k1 k2 q1 q3;have hc:List.length y<=cap:=by
        rcases m3 with ⟨_,⟨A,c,_,_⟩,rfl⟩|⟨b1,o1,fK,O',c1,c2,_⟩
        ·simp
        ·cases c1; exact c2
       obtain ⟨val,r1,r2⟩:=core bE hb rfl g1 g2 (by omega) q4;exact w4.value r1 h ⟨e,val,k1,k2,rfl,by omega,by omega,.inl ⟨_,_,A,cap,q1,by omega,q3,r2⟩⟩
      ·rw [q1] at hg; cases hg
     ·trivial
    ·trivial
   ·rename_i n0 t y dA
    split
    ·rename_i n hb
     split
     ·rename_i bE
      rintro ⟨g1,g2,g3⟩;have hg:=G6 k1 dA;rcases k6 with ⟨t',l,A,cap,q1,q2,q3,q4⟩|⟨n',t',l,b2,off2,q1,q2,q3,q4⟩
      ·rw [q1] at hg; cases hg
      ·rw [q1] at hg; cases hg
       obtain ⟨val,r1,r2⟩:=core bE hb rfl g1 g2 (by omega) q4;exact w4.value r1 h ⟨e,val,k1,k2,rfl,by omega,by omega,.inr ⟨_,_,_,b2,off2,q1,⟨by omega,q2.2⟩,q3,r2⟩⟩
     ·trivial
    ·trivial
   ·trivial
  ·rename_i i p hx
   obtain ⟨e,b,off,k1,k2,k3,k4⟩:=x8 h hx;have k4:a.eval x=.pointer (some ⟨b,off,none⟩):=by simpa using k4
   split
   ·rename_i N t y cM
    have hg:=G6 k1 cM
    split
    ·rename_i n hb
     split
     ·rename_i bE
      simp only [Bool.and_eq_true,Nat.ble_eq] at bE;rintro ⟨g1,g2,g3⟩;have eL:=a5f (P:=E.P) (w:=w) (isS:=false) h1 (W6 h hb) g1 g2 g3;refine w4.value (val:=.slice (some (if N=m.toNat then ⟨b,off,none⟩ else (⟨b,off,none⟩:Addr).add (m.toNat*t.size))) (n.toNat - m.toNat) (N - m.toNat)) ?_ h ⟨e,_,k1,k2,rfl,g1,g2,.inr ⟨N,t,y,b,off,hg,⟨g3,by have:=bE.2; unfold maxLen; omega⟩,k3,_,_,by rw [show (n - m).toNat=n.toNat - m.toNat from by omega],λ bK=>by rw [if_neg (by omega)]; rfl,by omega,by omega⟩⟩;rw [he,k4];have hc:=bE.1;unfold a2w.c7a at hc;split at hc
      ·rename_i A hT
       obtain ⟨et,k',f1,f2,f3⟩:=U9 (C1 hE hc);simp only [Option.map_none,Instr.sliceAt,Instr.slice,Sem.run_bind,o6 hT,o6 f1,asAddr,eL,Result.andThen_ok,Sem.run_pure,run_sizeOf f3]
      ·obtain ⟨et,k',f1,f2,f3⟩:=U9 (C1 hE hc)
       simp only [Option.map_none,Instr.sliceAt,Sem.run_bind,o6 f1,Instr.sureAddr,eL,Result.andThen_ok,Sem.run_pure,run_sizeOf f3]
      ·cases hc
     ·trivial
    ·trivial
   ·trivial
  ·trivial
end
end Go.Ex
namespace Go.Ex
section
variable {E:Env} {B:D4} {S S':Nat->Prop} {ι:Ix} {s:St} {a:Act} {w:World} {hp:List (Nat×g8)} {H H':Array Go.Obj}
theorem i7.two {α:Type} {R:List Nat->List Value->α->Prop} {sz:Nat} (hR:∀ O cs x,R O cs x->cs.length=sz) (h0:∀ O cs x,R O cs x->O=[]) {l m:List α} {O:List Nat} {cs:List Value} (h:i7 R sz O cs (l++m)):i7 R sz [] (cs.take (l.length*sz)) l/\i7 R sz [] (cs.drop (l.length*sz)) m:=by
 induction l generalizing O cs with
 | nil =>
  have:=i7.J7 h0 h;subst this;exact ⟨⟨rfl,by simp⟩,by simpa using h⟩
 | cons x l ih =>
  obtain ⟨O1,O2,e,h1,h2⟩:=h;obtain ⟨k1,k2⟩:=ih h2;have e1:=h0 _ _ _ h1;subst e1;refine ⟨⟨[],[],rfl,?_,?_⟩,?_⟩
  ·rw [List.take_take,List.length_cons,Nat.succ_mul,Nat.min_eq_left (by omega)]; exact h1
  ·rw [List.length_cons,Nat.succ_mul,List.drop_take,show l.length*sz+sz - sz=l.length*sz by omega]; exact k1
  ·rw [List.length_cons,Nat.succ_mul,Nat.add_comm,<- List.drop_drop]; exact k2
theorem b6Y (hE:C2 E B) (h:RS B S ι s a w) {o:Oper} {c:Call} (ho:o.op=.call c) (hc:c.callee=.builtin .append) {x y:Operand} {T U:TypeId} (ha:c.args.toList=[x,y]) (eu:c.argTypes.toList=[T,U])
  (hk:∃ e',E.P.underlying U=some (.slice e')):D3 E.P B o a w (a5T E T (s.ev x) (s.ev y) o.dst s):=by
 obtain ⟨eU,hU⟩:=hk;unfold a5T
 split
 ·rename_i q t0 bts d i hT hd hx
  split
  ·rename_i u z t m aX cg
   split
   ·rename_i hu
    split
    ·rename_i ht
     subst hu;subst ht
     split
     ·rename_i bT
      refine D3.a4I (λ v s' hl hp=>?_);obtain ⟨fl,l,mm⟩:=z;obtain ⟨fw,g2⟩:=hp;have fw:fl=2:=fw;subst fw;have g2:m.length<=mm.length:=g2;have cC:(AV.at_ i []).Z0 s=some (⟨.w6 t,(2,l,mm)⟩,[i]):=by simp only [AV.Z0,aX]
      obtain ⟨O2,cs,r1,r2,r3,r4⟩:=a1g h.hs cC (x8 h hx);obtain ⟨gn,gp⟩:=a7D hl;have hF:=C9.u4 h.hs r3 r4;have dz:=h.u4 (g:=[i]) gp;obtain ⟨b,off,O',rfl,c2,c4,c5,c6,c7⟩:=r2;obtain rfl:O'=[]:=i7.J7 (λ _ _ _ hr=>hr.J7 bT) c5;subst c6;have hlen:=λ(O:List Nat) (cs:List Value) (x:t.den) (hr:f8 w.heap S t O cs x)=>hr.length;have fU:=λ(O:List Nat) (cs:List Value) (x:t.den) (hr:f8 w.heap S t O cs x)=>hr.J7 bT;obtain ⟨Og,news,a1,a2,a3,a4⟩:=a5R (P:=E.P) h (.inl ⟨eU,hU⟩) cg (h.ev y);obtain rfl:Og=[]:=i7.J7 fU a2;have bo:(l++mm).length=l.length+mm.length:=List.length_append;rw [bo,Nat.add_mul] at c4 c5;have s1:=i7.two hlen fU c5;rw [m0 _ _ _ _ (by omega),n6] at s1;obtain ⟨s1,s2⟩:=s1;rw [show l.length*t.size+mm.length*t.size - l.length*t.size=mm.length*t.size by omega] at s2;have kK:mm=mm.take m.length++mm.drop m.length:=(List.take_append_drop _ _).symm;rw [kK] at s2;have s3:=(i7.two hlen fU s2).2;rw [<- kK,n6,List.length_take,Nat.min_eq_left g2] at s3;have cF:n8 E.P 100 T (.d0 true t)=true:=a4C (t:=.d0 q t) (u:=.d0 true t) rfl (q9 hE hT);have kk:¬ S b:=(hF.2 b (by simp)).1;obtain ⟨w',q1,q2,q3,q4,q5,q6⟩:=a8n (S:=S) cF o.type (Nat.le_add_right l.length mm.length) c2.1 c7 s1 a1 a2 (by simp) kk (by omega) (c2.2 rfl);have aF:c.args=#[x,y]:=by rw [<- ha]
      have dI:c.argTypes=#[T,U]:=by rw [<- eu]
      have hv:a.eval x=.slice (some ⟨b,off,none⟩) l.length (l.length+mm.length):=r1;have aW:(execOp a.eval o).run E.P w=.ok (.value (.slice (some ⟨b,off,none⟩) (l.length+m.length) (l.length+mm.length))) w':=by
       simp [execOp,ho,resolve,hc,invoke,builtin,aF,dI,hv,q1]
      have db:b<w.heap.size:=(hF.2 b (by simp)).2.2.1;have jb:news.length=m.length*t.size:=i7.length hlen a2;have fZ:(mm.drop m.length).length=mm.length - m.length:=List.length_drop;have hmul:m.length*t.size<=mm.length*t.size:=Nat.mul_le_mul_right _ g2;have tail:i7 (f8 w'.heap S t) t.size [] (d9 w'.heap b (off+l.length*t.size+m.length*t.size) (mm.length*t.size - m.length*t.size)) (mm.drop m.length):=by
       rw [q2.cells db (λ _=>.inr (by omega))];refine i7.mono (L:=[]) (λ _ hc=>hc) (λ O cs y hO hr=>hr.r8 (λ c hc=>?_) (λ _ hc=>hc)) s3;rcases hc with hc|hc
       ·cases hO c hc
       ·exact q5.frame c (h.hs.slt c hc) (by simp only [List.mem_singleton]; rintro rfl; exact kk hc)
      have k4:f8 w'.heap S (.w6 t) [b] [.slice (some ⟨b,off,none⟩) (l.length+m.length) (l.length+mm.length)] (2,l++m,mm.drop m.length):=by
       rcases q4 with ⟨h9,_⟩|⟨b2,off2,cap2,O3,d1,d2,d3,d4,d5,d6,d7⟩
       ·cases h9
       ·simp only [List.length_append,List.cons.injEq,Value.slice.injEq,Option.some.injEq,Addr.mk.injEq,and_true] at d1
        obtain ⟨⟨rfl,rfl⟩,-,rfl⟩:=d1;obtain rfl:O3=[]:=by simpa using d6.symm
        rw [List.length_append,Nat.add_mul] at d4 d5;have eE:(l++m).length+(mm.drop m.length).length=l.length+mm.length:=by rw [List.length_append,fZ]; omega
        refine ⟨b,off,[],by rw [eE,List.length_append],by rw [eE]; exact c2,?_,?_,rfl,by rw [eE]; exact d7⟩
        ·rw [List.length_append,eE,Nat.add_mul]
         have:=d7.free.s9;rw [Nat.add_mul] at this;exact this
        ·rw [List.length_append (as:=l++m),Nat.add_mul,List.length_append,Nat.add_mul,fZ,Nat.sub_mul,a2m]
         refine i7.append (O:=[]) (O':=[]) (λ _ _ _ hr=>hr.length) d5 ?_;rw [<- Nat.add_assoc];exact tail
      refine w4.lay hl aW (cs:=[.slice (some ⟨b,off,none⟩) (l.length+m.length) (l.length+mm.length)]) rfl k4 (dz.W5 hF q5) (hF.W5 q5)
     ·trivial
    ·trivial
   ·trivial
  ·trivial
 ·trivial
theorem c0g (hE:C2 E B) (h:RS B S ι s a w) {o:Oper} {c:Call} (ho:o.op=.call c) (hc:c.callee=.builtin .append) {x y:Operand} {T U:TypeId} (ha:c.args.toList=[x,y]) (eu:c.argTypes.toList=[T,U])
  (hk:∃ e',E.P.underlying U=some (.slice e')):D3 E.P B o a w (a5Q E T (s.ev x) (s.ev y) o.dst s):=by
 unfold a5Q
 split
 ·exact b6Y hE h ho hc ha eu hk
 ·exact a68 hE h ho hc ha eu (.inl hk)
end
end Go.Ex
namespace Go.Ex
section
variable {E:Env} {B:D4} {S S':Nat->Prop} {ι:Ix} {s:St} {a:Act} {w:World} {hp:List (Nat×g8)} {H H':Array Go.Obj}
theorem b7e {q:Bool} {u:Ty} {O:List Nat} {cs:List Value} {z:List u.den} (hR:f8 H S (.d0 q u) O cs z):z.length<=maxLen:=by
 rcases hR with ⟨_,_,h2⟩|⟨b,off,cap,O',c1,c2,c3,_⟩
 ·rw [h2]; exact Nat.zero_le _
 ·have:=c3.1
  have c2:z.length<=cap:=c2;omega
theorem b0Y (h:HS B S ι s.hp w) {v:AV} {val:Value} (hv:VX w.heap S ι s.hp v [val]) {t:Ty} {l:List t.den} (hw:v.els s=some ⟨t,l⟩):l.length<=maxLen:=by
 unfold AV.els at hw;split at hw
 ·cases hw
  obtain ⟨cs,_,hR⟩:=hv;exact b7e hR
 ·rename_i i p
  split at hw
  ·rename_i q t' l' hp
   cases hw;obtain ⟨e,u,y,cs,h1,h2,h3,h4,h5⟩:=hv;have hg:=G6 h1 hp;rw [h3] at hg; cases hg;obtain ⟨O2,m1,m2,m3⟩:=F1 h h1 h2 h3 h4;exact b7e m3
  ·cases hw
 ·obtain ⟨A,c,_,k⟩:=b7d h hv hw
  rcases k with rfl|⟨b,off,O,_,_,_,_,_,k1,k2⟩
  ·exact Nat.zero_le _
  ·omega
 ·cases hw
theorem c5Z (c:UInt8):r7 .u8 (c.toNat:Int):=by
 simp only [r7,IntKind.min,IntKind.max,IntKind.signed,IntKind.bits]; have:=c.toNat_lt; simp; omega
theorem c2g (y:List UInt8):i7 (f8 H S (.int .u8)) 1 [] (byteCells ⟨y.toArray⟩) (List.map (λ b:UInt8=>(b.toNat:Int)) y:List Int):=by
 simp only [byteCells]
 induction y with
 | nil=>exact ⟨rfl,rfl⟩
 | cons c y ih=>exact ⟨[],[],rfl,⟨rfl,rfl,c5Z c⟩,by simpa [Ty.size] using ih⟩
theorem a0U {k:IntKind}:∀ {l:List Int} {O:List Nat} {cs:List Value},i7 (f8 H S (.int k)) 1 O cs l->cs=l.map (Value.int k)
 | [],_,_,⟨_,h⟩=>h
 | n::l,O,cs,⟨O1,O2,_,h1,h2⟩=>by
  have e1:cs.take 1=[.int k n]:=h1.2.1;have e2:=a0U h2;rw [<- List.take_append_drop 1 cs,e1,e2]; rfl
theorem b3U:∀ (l:List Int) (r:ByteArray),l.foldl (λ r n=>r.push (UInt8.ofNat n.toNat)) r=⟨r.data++(l.map λ n=>UInt8.ofNat n.toNat).toArray⟩
 | [],r=>by simp
 | n::l,r=>by
  rw [List.foldl_cons,b3U l];simp [ByteArray.push]
theorem b27 (hE:C2 E B) (h:RS B S ι s a w) {o:Oper} {T T':TypeId} {x:Operand} (ho:o.op=.convert T' T x):D3 E.P B o a w (n7 E o s):=by
 have he:execOp a.eval o=(do pure (.value (<- convert T' T (a.eval x)))):=by simp [execOp,ho]
 unfold n7;rw [ho];simp only
 split
 ·rename_i k n k0 by0 k' by_ hx ko hT
  obtain ⟨hv,_⟩:=VX.G0 (x8 h hx);have hu:=X7 (q9 hE hT);have nh:=X7 (q9 hE ko);refine G5 he h (val:=.int k' (k'.wrap n)) ?_ (VX.int (Q5 _ _));rw [hv];simp [convert,o6 hu,o6 nh,Conv.intToInt]
 ·rename_i y b0 b1 hx ko hT
  split
  ·rename_i d hd
   refine D3.lay (λ v s' hl=>?_);obtain ⟨hv,hlen⟩:=VX.a10 (x8 h hx);have nh:=S9 (q9 hE ko);obtain ⟨et,k',f1,f2,f3⟩:=E6 (q9 hE hT);have f4:=X7 f3;have aW:=run_bytes_of_string (P:=E.P) w T' T et ⟨y.toArray⟩ nh f1 f4;have bn:(⟨y.toArray⟩:ByteArray).size=List.length y:=rfl;rw [bn] at aW;have jl:=grownCap_ge w (List.length y) 0 et;have fi:=grownCap_le_maxLen w (List.length y) 0 et hlen;generalize grownCap w (List.length y) 0 et=gc at aW jl fi;have cv:(bytesRow ⟨y.toArray⟩ gc)=(byteCells ⟨y.toArray⟩++List.replicate (gc - List.length y) (Value.int .u8 0)).toArray:=by
    apply Array.ext';simp [bytesRow,byteCells,bn]
   rw [cv] at aW;have bI:(byteCells ⟨y.toArray⟩).length=List.length y:=by rw [byteCells_length]; rfl
   have jL:(List.map (λ b:UInt8=>(b.toNat:Int)) y).length=List.length y:=List.length_map ..;have hp:y9 [] w (w.drew.alloc (.cells (byteCells ⟨y.toArray⟩++List.replicate (gc - List.length y) (Value.int .u8 0)).toArray et ((byteCells ⟨y.toArray⟩++List.replicate (gc - List.length y) (Value.int .u8 0)).toArray.size,(byteCells ⟨y.toArray⟩++List.replicate (gc - List.length y) (Value.int .u8 0)).toArray.size+1))) :=
    y9.trans y9.drew (y9.push _) (by simp)
   obtain ⟨O2,k1,k2,k3⟩:=a5h (w:=w) (S:=S) (t:=.int .u8) (l:=(List.map (λ b:UInt8=>(b.toNat:Int)) y:List Int)) (cap:=gc) h.hs.slt (O:=[]) (cells:=byteCells ⟨y.toArray⟩++List.replicate (gc - List.length y) (Value.int .u8 0)) (by
    show i7 _ 1 [] (List.take ((List.map (λ b:UInt8=>(b.toNat:Int)) y).length*1) _) _;rw [jL,Nat.mul_one,List.take_left' bI];exact c2g y) (by show (List.map (λ b:UInt8=>(b.toNat:Int)) y).length<=gc; rw [jL]; exact jl) fi (by simp only [List.length_append,List.length_replicate,bI,Ty.size]; omega) et (by simp)
    (w':=w.drew.alloc (.cells (byteCells ⟨y.toArray⟩++List.replicate (gc - List.length y) (Value.int .u8 0)).toArray et ((byteCells ⟨y.toArray⟩++List.replicate (gc - List.length y) (Value.int .u8 0)).toArray.size,(byteCells ⟨y.toArray⟩++List.replicate (gc - List.length y) (Value.int .u8 0)).toArray.size+1))) rfl (.inr ⟨rfl,by simp⟩)
   have dz:=h.u4 (g:=[]) rfl;refine w4.lay hl (val:=.slice (some ⟨w.heap.size,0,none⟩) (List.length y) gc) (by rw [he,hv]; simp only [Sem.run_bind,aW,Result.andThen_ok,Sem.run_pure]) (by rw [<- jL]; rfl) k1 (dz.W5 C9.nil hp) (C9.new dz C9.nil hp (by show w.heap.size<(w.heap.push _).size; simp) k2 (k3 List.nodup_nil))
  ·trivial
 ·rename_i b0 b1 _ ko hT
  obtain ⟨et,k',f1,f2,f3⟩:=E6 (q9 hE ko);have f4:=X7 f3;have f5:=S9 (q9 hE hT)
  split
  ·rename_i l eI
   obtain ⟨A,c,e,k⟩:=a7G h.hs (h.ev x) eI;have hlen:=b0Y h.hs (h.ev x) eI;refine G5 he h (val:=.string ⟨(List.map (λ n:Int=>UInt8.ofNat n.toNat) l).toArray⟩) ?_ (VX.str (by rw [List.length_map]; exact hlen));rw [e];simp only [convert,Sem.run_bind,o6 f1,o6 f5,Result.andThen_ok,o6 f4];have ca:∀ a0:Addr,(loadCells a0 l.length).run E.P w=.ok (l.map (Value.int .u8)).toArray w->(Conv.bytesToString (.slice (some a0) l.length c)).run E.P w=.ok (.string ⟨(List.map (λ n:Int=>UInt8.ofNat n.toNat) l).toArray⟩) w:=by
    intro a0 hl;rw [run_bytesToString w a0 l.length c l hl,b3U];simp
   rcases k with rfl|⟨b,off,O',rfl,k1,k2,k3,k4⟩
   ·cases A with
    | none=>simp [Conv.bytesToString,Sem.run_pure]; rfl
    | some A=>exact ca A (run_firstCells_some w 1 0 A 0 c [] (by simp) (by simp))
   ·refine ca _ ?_
    have hc:=a0U k3;have:=run_firstCells_some (P:=E.P) w 1 l.length ⟨b,off,none⟩ l.length c (l.map (Value.int .u8)) (by simp) (λ j u hu=>by
     rw [Addr.F8]; rw [<- hc] at hu; exact K1 hu)
    simpa [Builtin.firstCells] using this
  ·split
   ·rename_i hx
    have dP:[a.eval x]=[Value.slice none 0 0]:=x8 h hx;have dP:a.eval x=Value.slice none 0 0:=by simpa using dP
    refine G5 he h (val:=.string ⟨([]:List UInt8).toArray⟩) ?_ (VX.str (by simp));rw [dP];simp [convert,Sem.run_bind,o6 f1,o6 f5,Result.andThen_ok,o6 f4,Conv.bytesToString,Sem.run_pure];rfl
   ·trivial
 ·trivial
end
end Go.Ex
