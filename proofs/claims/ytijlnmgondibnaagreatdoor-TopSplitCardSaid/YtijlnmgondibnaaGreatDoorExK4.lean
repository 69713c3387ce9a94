import Derived.Test.YtijlnmgondibnaaGreatDoorExK3
import Derived.Laws.AppendOwn
import Derived.Laws.BytesString
import Derived.Laws.IdiomStrings
import Derived.Deep.AppendSrc
set_option linter.unusedVariables false
set_option linter.unusedSimpArgs false
set_option linter.unusedSectionVars false

namespace Go.Ex

section
variable {E:Env} {B:D4} {S S':Nat→Prop} {ι:Ix} {s:St} {a:Act} {w:World} {hp:List (Nat×g8)} {H H':Array Go.Obj}

def bxV (g:Option Nat) (i:Nat):AV:=match g with|none=>.ptr i []|some f=>.B8 f (.cons (.ptr i []) .nil)
theorem a8n (t:Ty) (x:t.den) (i:Nat):a1y t x i=(.own t x,.at_ i [])∨∃ g u y,(⟨t,x⟩:Sigma Ty.den)=⟨.box true g u,some y⟩∧a1y t x i=(.var u y,bxV g i):=by
 unfold a1y
 split
 ·exact .inr ⟨none,_,_,rfl,rfl⟩
 ·exact .inr ⟨some _,_,_,rfl,rfl⟩
 ·exact .inl rfl

theorem c05 {t:Ty} {x:t.den} {i k:Nat} (h:k≠i):(a1y t x i).2.i6 k=false:=by
 rcases a8n t x i with e|⟨g,u,y,_,e⟩
 ·rw [e]; exact a2x h
 ·rw [e]
  cases g with
  | none=>exact a2x h
  | some f=>show (AV.i6 k (.ptr i []) || false)=false; rw [Bool.or_false]; exact a2x h

theorem b8C {t:Ty} {x:t.den} {i:Nat} {O:List Nat} {cs:List Value} (hR:f7 H S t O cs x) (hnd:O.Nodup):∃ ι1,(∀ j,j≠i→E0 ι ι1 j)∧OB H S ι1 i (a1y t x i).1∧(∀ b∈l6 ι1 i (a1y t x i).1,b∈O) ∧
  VX H S ι1 (Ex.put i (a1y t x i).1 hp) (a1y t x i).2 [j7 t cs]:=by
 rcases a8n t x i with e|⟨g,u,y,e0,e⟩
 ·rw [e]
  exact ⟨ι.R2 i cs O,fun j hj=>a17 hj _ _,⟨⟨O,by simp [Ix.R2],by simpa [Ix.R2] using hR⟩,by simpa [Ix.R2] using hnd⟩,by intro b hb; simpa [l6,Ix.R2] using hb,a4I hR.length⟩
 ·cases e0
  rw [e]
  rcases hR with ⟨h0,_⟩|⟨z,b,off,O',h0,rfl,h2,h3,rfl,h5⟩
  ·cases h0
  cases h0
  have hlt:b<H.size:=by obtain ⟨_,_,⟨_,e,_⟩,_⟩:=h5; exact (Array.getElem?_eq_some_iff.1 e).1
  refine ⟨ι.P9 i (b,off) O',fun j hj=>a32 hj _ _,⟨⟨O',by simp [Ix.P9],by simpa [Ix.P9] using h3⟩,by simpa [Ix.P9] using h5,by simpa [Ix.P9] using hnd⟩,by intro c hc; simpa [l6,Ix.P9] using hc,?_⟩
  have hp:VX H S (ι.P9 i (b,off) O') (Ex.put i (.var u y) hp) (.ptr i []) [.pointer (some ⟨b,off,none⟩)]:=by
   refine ⟨.var u y,b,off,by simp [o5],K2,?_,rfl⟩
   simp only [Loc,Place,VR,VH,w8,Ix.P9,if_true,hlt]
  cases g with
  | none=>exact hp
  | some f=>exact ⟨[.pointer (some ⟨b,off,none⟩)],rfl,_,_,rfl,hp,rfl⟩

theorem a3l:∀ {ts:List Ty} {x:DL ts} {d j:Nat} {ι:Ix} {hp:List (Nat×g8)} {l:AV} {hp':List (Nat×g8)} {O:List Nat} {us:List Value},U7 ts x d j hp=some (l,hp')→HS B S ι hp w→J1 w.heap S ts O us x →
  C9 B S ι hp w O→∃ ι',HS B S ι' hp' w∧VX w.heap S ι' hp' l us∧(∀ v vs,(∀ k,j≤k→k<j+ts.length→v.i6 (K5 d k)=false)→VX w.heap S ι hp v vs→VX w.heap S ι' hp' v vs)
 | [],x,d,j,ι,hp,l,hp',O,us,hl,h,hR,_=>by
  simp only [U7,Option.some.injEq,Prod.mk.injEq] at hl
  obtain ⟨rfl,rfl⟩:=hl
  exact ⟨ι,h,hR.2,fun v vs _ hv=>hv⟩
 | t::ts,x,d,j,ι,hp,l,hp',O,us,hl,h,⟨v1,us1,O1,O2,cs,e1,e2,e3,h1,h2⟩,hF=>by
  subst e2
  have hnd':=List.nodup_append.1 hF.1
  simp only [U7] at hl
  split at hl
  ·rename_i hs
   split at hl
   ·rename_i l' hp2 hl'
    cases hl
    have hO1:=h1.J5 hs
    subst hO1
    obtain ⟨ι',k1,k2,k3⟩:=a3l hl' h h2 (hF.sub hnd'.2.1 (fun b hb=>by simp [hb]))
    refine ⟨ι',k1,⟨v1,us1,e1,⟨cs,by rw [e3],h1⟩,k2⟩,fun v vs hm hv=>k3 v vs (fun k hk1 hk2=>hm k (by omega) (by simp; omega)) hv⟩
   ·cases hl
  ·split at hl
   ·cases hl
   ·rename_i hlk
    split at hl
    ·rename_i l' hp2 hl'
     cases hl
     have hd:look (K5 d j) hp=none:=hlk
     obtain ⟨ι1,hs,hob1,hb1,hat⟩:=b8C (hp:=hp) (ι:=ι) (i:=K5 d j) h1 hnd'.1
     have hH:HS B S ι1 (Ex.put (K5 d j) (a1y t x.1 (K5 d j)).1 hp) w:=h.add hd hs hob1 (O:=O1) hb1 (hF.sub hnd'.1 (fun b hb=>by simp [hb]))
     have hF2:C9 B S ι1 (Ex.put (K5 d j) (a1y t x.1 (K5 d j)).1 hp) w O2:=by
      refine ⟨hnd'.2.1,fun b hb=>?_⟩
      obtain ⟨q1,q2,q3,q4⟩:=hF.2 b (by simp [hb])
      refine ⟨q1,q2,q3,fun i e hi=>?_⟩
      rw [o5] at hi
      by_cases ei:i=K5 d j
      ·subst ei; rw [if_pos rfl] at hi; cases hi
       exact fun hbb=>hnd'.2.2 b (hb1 b hbb) b hb rfl
      ·rw [if_neg ei] at hi
       rw [(hs i ei).l6]
       exact q4 i e hi
     obtain ⟨ι',k1,k2,k3⟩:=a3l hl' hH h2 hF2
     rw [← e3] at hat
     refine ⟨ι',k1,⟨v1,us1,e1,k3 _ _ (fun k hk1 hk2=>?_) hat,k2⟩,fun v vs hm hv=>?_⟩
     ·exact c05 (by simp only [K5]; omega)
     ·exact k3 v vs (fun k hk1 hk2=>hm k (by omega) (by simp; omega)) (VX.add hs (hm j (Nat.le_refl _) (by simp)) hv)
    ·cases hl

theorem a19 {d:Nat}:∀ {n:Nat} {fr:List (Nat×AV)},a0N d n fr=true→∀ k,k<n→Y4 (K5 d k) fr=true
 | 0,_,_,k,hk=>by omega
 | n+1,fr,h,k,hk=>by
  simp only [a0N,Bool.and_eq_true] at h
  by_cases e:k=n
  ·subst e; exact h.1
  ·exact a19 h.2 k (by omega)


theorem a5a:∀ {ts:List Ty} {x:DL ts} {d j:Nat} {hp:List (Nat×g8)} {l:AV} {hp':List (Nat×g8)},U7 ts x d j hp=some (l,hp')→l.lst=true
 | [],x,d,j,hp,l,hp',h=>by
  simp only [U7,Option.some.injEq,Prod.mk.injEq] at h
  rw [← h.1]; rfl
 | t::ts,x,d,j,hp,l,hp',h=>by
  simp only [U7] at h
  split at h
  ·split at h
   ·rename_i l' hp2 hl'
    cases h
    show l'.lst=true
    exact a5a hl'
   ·cases h
  ·split at h
   ·cases h
   ·split at h
    ·rename_i l' hp2 hl'
     cases h
     show l'.lst=true
     exact a5a hl'
    ·cases h

theorem c2u {l:AV} {us:List Value} (hl:l.lst=true) (h:VX H S ι hp l us):VX H S ι hp l.one [a3d us]:=by
 cases l<;>simp only [AV.lst] at hl<;>first|cases hl|skip
 ·have:us=[]:=h
  subst this
  exact ⟨[],rfl,rfl⟩
 ·rename_i a b
  obtain ⟨v,us',rfl,ha,hb⟩:=h
  cases b<;>simp only [AV.lst] at hl<;>first|cases hl|skip
  ·have:us'=[]:=hb
   subst this; exact ha
  ·obtain ⟨v2,us2,rfl,hb1,hb2⟩:=hb
   exact ⟨v::v2::us2,rfl,v,_,rfl,ha,v2,us2,rfl,hb1,hb2⟩

theorem VX.app {l m:AV}:∀ {us vs:List Value},l.lst=true→VX H S ι hp l us→VX H S ι hp m vs→VX H S ι hp (l.app m) (us++vs):=by
 induction l<;>intro us vs hl h hm<;>simp only [AV.lst] at hl<;>first|cases hl|skip
 ·have:us=[]:=h
  subst this; exact hm
 ·rename_i a b _ ihb
  obtain ⟨v,us',rfl,ha,hb⟩:=h
  exact ⟨v,us'++vs,rfl,ha,ihb hl hb hm⟩

theorem b68 (s:St):∀ l:List Operand,(s.H9 l).lst=true
 | []=>rfl
 | _::l=>b68 s l


theorem U5:∀ {ks:List PK} {vs:List Value} {y:DL (F3 ks)} {L:List Nat},F3 ks=[]→E9 H S ks vs y L→L=[]
 | [],_,_,_,_,h=>h.2
 | .rw t::ks,_,_,_,e,_=>by cases e
 | .mu t::ks,_,_,_,e,_=>by cases e
 | .v _::ks,_,_,_,e,⟨_,us,_,h⟩=>U5 (ks:=ks) e h
 | .rd _::ks,_,_,_,e,⟨_,us,_,h⟩=>U5 (ks:=ks) e h
 | .B8 _ _::ks,_,_,_,e,⟨_,us,_,h⟩=>U5 (ks:=ks) e h
 | .S7::ks,_,_,_,e,⟨_,us,_,h⟩=>U5 (ks:=ks) e h
 | .Y2 _ _::ks,_,_,_,e,⟨_,us,_,h⟩=>U5 (ks:=ks) e h
 | .el _::ks,_,_,_,e,⟨_,us,_,h⟩=>U5 (ks:=ks) e h
 | .own _::ks,_,_,_,e,⟨_,us,_,h⟩=>U5 (ks:=ks) e h

theorem a9T {k:PK} {v:AV} {x:k.den} {g m:List Nat} (h:v.M3 s k=some (x,g,m)) (hk:(match k with|.rw _|.mu _=>false|_=>true)=true):m=[]:=by
 cases k with
 | v t=>simp only [AV.M3] at h; split at h<;>cases h; rfl
 | rd t=>simp only [AV.M3] at h; split at h<;>cases h; rfl
 | B8 f ts =>
  cases v<;>simp only [AV.M3] at h<;>first|cases h|skip
  split at h
  ·split at h<;>cases h; rfl
  ·cases h
 | S7=>simp only [AV.M3] at h; split at h<;>cases h; rfl
 | Y2 f n=>simp only [AV.M3] at h; cases h
 | el q=>simp only [AV.M3] at h; cases h
 | own t =>
  simp only [AV.M3] at h
  split at h
  ·split at h<;>cases h; rfl
  ·split at h
   ·split at h<;>cases h; rfl
   ·cases h
 | rw t=>cases hk
 | mu t=>cases hk

def c7l (H':Array Go.Obj) (S':Nat→Prop) (ι:Ix) (i:Nat) (e':g8) (L:List Nat):Prop :=
 ∃ O',OB H' S' (ι.y7 i O') i e'∧L=l6 (ι.y7 i O') i e'

theorem a4l (h:HS B S ι s.hp w):∀ {ks:List PK} {v:AV} {x:DK ks} {vs:List Value} {g m:List Nat} {y:DL (F3 ks)} {s1 s2:St} {L:List Nat},AV.a0c s ks v=some (x,g,m)→VX w.heap S ι s.hp v vs→wr ks y m s1=some s2→E9 H' S' ks vs y L→L.Nodup →
  (m=[]∧s2=s1∧L=[])∨(∃ i e e',m=[i]∧look i s.hp=some e∧a67 e e'∧s2=(s1.T6 i e.W4).s8 i e'∧c7l H' S' ι i e' L)
 | [],v,x,vs,g,m,y,s1,s2,L,hx,hv,hw,ho,hnd=>by
  cases v<;>simp only [AV.a0c] at hx<;>first|cases hx|skip
  simp only [wr,Option.some.injEq] at hw
  exact .inl ⟨rfl,hw.symm,ho.2⟩
 | k::ks,v,x,vs,g,m,y,s1,s2,L,hx,hv,hw,ho,hnd=>by
  cases v<;>simp only [AV.a0c] at hx<;>first|cases hx|skip
  rename_i a b
  split at hx
  ·rename_i x1 g1 m1 x2 g2 m2 h1 h2
   cases hx
   obtain ⟨v,us,rfl,ha,hb⟩:=hv
   cases k with
   | v t =>
    have:=a9T h1 rfl; subst this
    obtain ⟨v',us',e,ho'⟩:=ho
    cases e
    exact a4l h h2 hb hw ho' hnd
   | rd t =>
    have:=a9T h1 rfl; subst this
    obtain ⟨v',us',e,ho'⟩:=ho
    cases e
    exact a4l h h2 hb hw ho' hnd
   | B8 f ts =>
    have:=a9T h1 rfl; subst this
    obtain ⟨v',us',e,ho'⟩:=ho
    cases e
    exact a4l h h2 hb hw ho' hnd
   | S7 =>
    have:=a9T h1 rfl; subst this
    obtain ⟨v',us',e,ho'⟩:=ho
    cases e
    exact a4l h h2 hb hw ho' hnd
   | own t =>
    have:=a9T h1 rfl; subst this
    obtain ⟨v',us',e,ho'⟩:=ho
    cases e
    exact a4l h h2 hb hw ho' hnd
   | Y2 f n=>simp only [AV.M3] at h1; cases h1
   | el q=>simp only [AV.M3] at h1; cases h1
   | rw t =>
    simp only [AV.M3] at h1
    split at h1
    ·rename_i i
     split at h1
     ·rename_i u z hob
      split at h1
      ·rename_i hu; subst hu; cases h1
       obtain ⟨e,b0,off,q1,q2,q3,q4⟩:=ha
       obtain rfl:=a0l q1 hob
       have hl:(ι.root i).1=b0∧(ι.root i).2=off:=by
        have:=(y9 q3).1
        simp only [Place,w8,VR,Option.some.injEq,Prod.mk.injEq] at this
        exact this
       obtain ⟨rfl,rfl⟩:=hl
       obtain ⟨b1,off1,O,us',L',r1,r2,r3,r4,r5⟩:=ho
       have q4:v=.pointer (some ⟨(ι.root i).1,(ι.root i).2,none⟩):=by simpa using q4
       rw [q4] at r1
       simp only [List.cons.injEq,Value.pointer.injEq,Option.some.injEq,Addr.mk.injEq,and_true] at r1
       obtain ⟨⟨rfl,rfl⟩,rfl⟩:=r1
       cases m2 with
       | cons j m2=>simp [wr] at hw
       | nil =>
        simp only [List.append_nil,wr] at hw
        split at hw
        ·rename_i hwt
         cases hw
         have:=U5 hwt r5
         subst this
         rw [List.append_nil] at r4
         subst r4
         exact .inr ⟨i,_,.var u y.1,rfl,q1,.inl ⟨u,z,y.1,rfl,rfl⟩,rfl,O,⟨⟨O,by simp [Ix.y7],r2⟩,r3,by simpa [Ix.y7] using hnd⟩,by simp [l6,Ix.y7]⟩
        ·cases hw
      ·cases h1
     ·cases h1
    ·cases h1
   | mu t =>
    simp only [AV.M3] at h1
    split at h1
    ·rename_i i
     split at h1
     ·rename_i u z hob
      split at h1
      ·rename_i hu; subst hu; cases h1
       obtain ⟨e,u',y',cs,q1,q2,q3,q4,q5⟩:=ha
       obtain rfl:=a0l q1 hob
       have q3:j6 (.d0 true t) z []=some ⟨u',y'⟩:=q3
       rw [x7] at q3; cases q3
       obtain ⟨⟨O0,_,hR0⟩,_⟩:=h.ob i _ q1
       have hcs:=P5 q4 hR0.length
       obtain ⟨cs1,O,us',L',r1,r1',r2,r4,r5⟩:=ho
       have q5:v=j7 (.d0 true t) cs:=by simpa using q5
       rw [q5] at r1
       have hcl:cs.length=1:=by rw [hcs]; exact hR0.length
       have hcc:cs1=cs:=by
        match cs,cs1,hcl,r1' with
        | [c],[c'],_,_ =>
         simp only [List.cons.injEq,j7,Ty.agg] at r1
         have:=r1.1
         simp at this
         rw [this]
       subst hcc
       cases m2 with
       | cons j m2=>simp [wr] at hw
       | nil =>
        simp only [List.append_nil,wr] at hw
        split at hw
        ·rename_i hwt
         cases hw
         have:=U5 hwt r5
         subst this
         rw [List.append_nil] at r4
         subst r4
         exact .inr ⟨i,_,.own (.d0 true t) y.1,rfl,q1,.inr (.inl ⟨t,z,y.1,rfl,rfl⟩),rfl,L,⟨⟨L,by simp [Ix.y7],by rw [show (ι.y7 i L).cells i=cs1 from hcs.symm]; exact r2⟩,by simpa [Ix.y7] using hnd⟩,by simp [l6,Ix.y7]⟩
        ·cases hw
      ·cases h1
     ·cases h1
    ·cases h1
  ·cases hx

end
end Go.Ex

namespace Go.Ex

section
variable {E:Env} {B:D4} {S S':Nat→Prop} {ι:Ix} {s:St} {a:Act} {w:World} {hp:List (Nat×g8)} {H H':Array Go.Obj}

theorem RS.share (h:RS B S ι s a w) (hS:∀ b,S b→S' b) (hS':∀ b,S' b→S b∨((B.w0.heap.size≤b∨B.M b)∧b<w.heap.size∧∀ i e,look i s.hp=some e→b∉l6 ι i e)):RS B S' ι s a w:=by
 refine ⟨⟨h.hs.os,h.hs.tape,h.hs.out,h.hs.size,h.hs.frame,?_,fun b hb=>hS b (h.hs.s0 b hb),?_,?_,?_,h.hs.dj,h.hs.pin⟩,h.dfr,h.sz,fun t v hv=>?_⟩
 ·intro b hb; rcases hS' b hb with h1|h1; exact h.hs.slt b h1; exact h1.2.1
 ·intro b hb; rcases hS' b hb with h1|h1; exact h.hs.s1 b h1; exact .inr h1.1
 ·intro i e hi; exact (h.hs.ob i e hi).r7 (fun _ _=>rfl) hS
 ·intro i e hi b hb
  obtain ⟨q1,q2,q3⟩:=h.hs.bl i e hi b hb
  exact ⟨fun hs=>by rcases hS' b hs with h1|h1; exact q1 h1; exact h1.2.2 i e hi hb,q2,q3⟩
 ·exact VX.grow (fun _ _=>rfl) hS h.hs.slt h.hs.ob (h.fr t v hv)

theorem a4c (hE:C2 E B) (h:RS B S ι s a w) {o:Oper} {c:Call} (ho:o.op=.call c) {f:Operand} (hf:c.callee=.value f) {g:FuncId} {caps:AV} {us:List Value} (he:a.eval f=.func (.func g) #[] us.toArray) (hcap:VX w.heap S ι s.hp caps us) :
  D3 E.P B o a w (O5 E g ((s.H9 c.args.toList).app caps) o.dst s):=by
 have hargs:=VX.app (b68 s _) (h.H9 c.args.toList) hcap
 generalize hav:(s.H9 c.args.toList).app caps=av at *
 unfold O5
 split
 ·trivial
 ·rename_i ct hct
  have hV:=hE.C0 g ct hct
  split
  ·trivial
  ·rename_i x gs ms hx
   split
   ·trivial
   ·rename_i hck
    split
    ·trivial
    ·rename_i s2 hwr
     split
     ·trivial
     ·rename_i hnm
      split
      ·rename_i l hp' hl
       intro hpre next Q hn
       simp only [Bool.and_eq_true,Bool.or_eq_true] at hck
       obtain ⟨⟨⟨⟨hk1,hk2⟩,hk3⟩,hk4⟩,_⟩:=hck
       obtain ⟨fn,hfn,hname,hbody⟩:=hV.ent
       have hndg:=a2a hk1
       let S1:Nat→Prop:=fun b=>S b∨J9 ι s.hp (O5.loose ct.ps av) b
       obtain ⟨L,hK,hLn,hLb,hLm⟩:=a8E (S1:=S1) h.hs (fun b hb=>.inl hb) hx hargs hndg (fun b hb=>.inr hb)
       have hS1:∀ b,S1 b→b<w.heap.size:=by
        rintro b (hb|⟨i,e,h1,h2,h3⟩)
        ·exact h.hs.slt b hb
        ·exact (h.hs.bl i e h2 b h3).2.2
       have hLS:∀ b∈L,¬ S1 b∧b<w.heap.size:=by
        intro b hb
        obtain ⟨i,e,h1,h2,h3⟩:=hLb b hb
        obtain ⟨q1,q2,q3⟩:=h.hs.bl i e h2 b h3
        refine ⟨?_,q3⟩
        rintro (hs|⟨j,ej,r1,r2,r3⟩)
        ·exact q1 hs
        ·have hij:i≠j:=by rintro rfl; exact b1z hk2 i h1 r1
         exact h.hs.dj i j e ej h2 r2 hij b h3 r3
       have hcall:Calls E.P g (c.args.toList.map a.eval++us).toArray w (fun e w'=>∃ rs O Lo S',e=.returned (a3d rs)∧y8 L w w'∧(∀ b,S1 b→S' b)∧(∀ b,S' b→S1 b∨((w.heap.size≤b∨b∈L)∧b<w'.heap.size)) ∧
         J1 w'.heap S' ct.rs O rs (ct.fn x)∧E9 w'.heap S' ct.ps (c.args.toList.map a.eval++us) (ct.out x) Lo∧(O++Lo).Nodup∧(∀ b∈O++Lo,¬ S' b∧(w.heap.size≤b∨b∈L)∧b<w'.heap.size) ∧
         (ct.new=true→J1 w'.heap (fun b=>S' b∧w.heap.size≤b) ct.rs O rs (ct.fn x))):=by
        cases hnw:ct.new with
        | true=>exact (hV.fresh hnw w S1 _ x L hS1 ((hE.gb.at_ h.hs).sub (fun b hb=>.inl hb)) hpre hK (a1z (a3t hx)) hLn hLS).mono (fun e w' ⟨rs,O,Lo,S',a1,a2,a3,a4,a5,a6,a7,a8,a9⟩=>⟨rs,O,Lo,S',a1,a2,a3,a4,a5,a6,a7,a8,fun _=>a9⟩)
        | false=>exact (hV.run w S1 _ x L hS1 ((hE.gb.at_ h.hs).sub (fun b hb=>.inl hb)) hpre hK (a1z (a3t hx)) hLn hLS).mono (fun e w' ⟨rs,O,Lo,S',a1,a2,a3,a4,a5,a6,a7,a8⟩=>⟨rs,O,Lo,S',a1,a2,a3,a4,a5,a6,a7,a8,fun h=>by cases h⟩)
       unfold Oper.wp
       have hrun:(execOp a.eval o).run E.P w=.ok (.enter g (c.args.toList.map a.eval++us).toArray) w:=by
        have hnb:fn.body.isNone=false:=hbody
        have hq:(fn.name == "runtime.NumGoroutine")=false:=hname
        simp only [execOp,ho,resolve,hf,he,Deferred.ofValue,Sem.run_bind,Sem.run_pure,Result.andThen,invoke,callFunc,program]
        simp [Sem.run,hfn,hq,hnb]
       rw [hrun]
       refine Calls.mono hcall ?_
       rintro e w' ⟨rs,O,Lo,S',e1,hpast,hs1,hs2,hres,hout,hnd,hO,hnew⟩
       subst e1
       have hsz:=hpast.size
       -- the state before, without what goes over
       have hd:=h.s7 (g:=gs) (by simpa using hk3)
       have hgsi:∀ i∈gs,i∉ms:=fun i hi hm=>(List.nodup_append.1 hndg).2.2 i hi i hm rfl
       have main:∀ S2:Nat→Prop,(∀ b,S b→S2 b)→(∀ b,S2 b→S b∨((w.heap.size≤b∨b∈L)∧b<w'.heap.size))→(∀ b∈O++Lo,¬ S2 b)→J1 w'.heap S2 ct.rs O rs (ct.fn x)→E9 w'.heap S2 ct.ps (c.args.toList.map a.eval++us) (ct.out x) Lo→next (a.put o.dst (a3d rs)) w':=by
        intro S2 hS2 hS2' hOS hres2 hout2
        have hF0:∀ {L':List Nat},L'.Nodup→(∀ b∈L',b∈L)→(∀ b∈L',∀ i e,i∈ms→look i s.hp=some e→b∉l6 ι i e)→C9 B S ι (St.s7 gs s).hp w L':=by
         intro L' hn' hsub hnm'
         refine C9.s7 h.hs hn' (fun b hb=>?_)
         obtain ⟨i,e,q1,q2,q3⟩:=hLb b (hsub b hb)
         rcases List.mem_append.1 q1 with q1|q1
         ·exact ⟨i,e,q1,q2,q3⟩
         ·exact absurd q3 (hnm' b hb i e q1 q2)
        have fin:∀ {ι2:Ix},RS B S2 ι2 s2 a w'→C9 B S2 ι2 s2.hp w' O→next (a.put o.dst (a3d rs)) w':=by
         intro ι2 hR2 hF2
         obtain ⟨ι',k1,k2,k3⟩:=a3l hl hR2.hs hres2 hF2
         refine hn S2 ι' w' (a3d rs) ⟨k1,hR2.dfr,hR2.sz,fun t v hv=>?_⟩ (c2u (a5a hl) k2)
         exact k3 v _ (fun k hk1 hk2=>a00 (a19 hnm k (by omega)) hv) (hR2.fr t v hv)
        have hOf:∀ b∈O,¬ S2 b∧(B.w0.heap.size≤b∨B.M b)∧b<w'.heap.size:=by
         intro b hb
         obtain ⟨q1,q2,q3⟩:=hO b (List.mem_append_left _ hb)
         refine ⟨hOS b (List.mem_append_left _ hb),?_,q3⟩
         rcases q2 with q2|q2
         ·exact .inl (Nat.le_trans h.hs.size q2)
         ·obtain ⟨i,e,_,r2,r3⟩:=hLb b q2
          exact (h.hs.bl i e r2 b r3).2.1
        have hOj:∀ b∈O,∀ j ej,j∉gs→j∉ms→look j s.hp=some ej→b∉l6 ι j ej:=by
         intro b hb j ej hj1 hj2 hlj hbj
         obtain ⟨q1,q2,q3⟩:=hO b (List.mem_append_left _ hb)
         rcases q2 with q2|q2
         ·have:=(h.hs.bl j ej hlj b hbj).2.2; omega
         ·obtain ⟨i,e,r1,r2,r3⟩:=hLb b q2
          have hij:i≠j:=by rintro rfl; rcases List.mem_append.1 r1 with r1|r1; exact hj1 r1; exact hj2 r1
          exact h.hs.dj i j e ej r2 hlj hij b r3 hbj
        rcases a4l h.hs hx hargs hwr hout2 (List.nodup_append.1 hnd).2.1 with ⟨rfl,rfl,rfl⟩|⟨i,e,e',rfl,hi,hal,rfl,O',hob,hLo⟩
        ·-- nothing is written
         have hF:=hF0 hLn (fun b hb=>hb) (by simp)
         have hR1:=hd.V7 hF hpast
         have hR2:RS B S2 ι (St.s7 gs s) a w':=hR1.share hS2 (fun b hb=>by
          rcases hS2' b hb with h1|h1
          ·exact .inl h1
          ·rcases h1.1 with h2|h2
           ·refine .inr ⟨.inl (Nat.le_trans h.hs.size h2),h1.2,fun j ej hj hbj=>?_⟩
            have:=(hd.hs.bl j ej hj b hbj).2.2; omega
           ·exact .inr ⟨(hF.2 b h2).2.1,h1.2,(hF.2 b h2).2.2.2⟩)
         refine fin hR2 ⟨(List.nodup_append.1 hnd).1,fun b hb=>?_⟩
         obtain ⟨q1,q2,q3⟩:=hOf b hb
         refine ⟨q1,q2,q3,fun j ej hj=>?_⟩
         rw [H5] at hj
         split at hj
         ·cases hj
         ·rename_i hjg; exact hOj b hb j ej hjg (by simp) hj
        ·-- one object is written
         have hig:i∉gs:=fun hi'=>hgsi i hi' (by simp)
         have hi':look i (St.s7 gs s).hp=some e:=by rw [H5,if_neg hig]; exact hi
         have hF:=hF0 (L':=L.filter (fun b=>!(l6 ι i e).contains b)) (hLn.filter _) (fun b hb=>(List.mem_filter.1 hb).1) (fun b hb j ej hj hlj=>by
          simp only [List.mem_cons,List.not_mem_nil,or_false] at hj
          subst hj
          rw [hi] at hlj; cases hlj
          have:=(List.mem_filter.1 hb).2
          simpa using this)
         have hR2:=hd.renew hi' hal hF hpast (fun b hb=>by
          by_cases hbi:b∈l6 ι i e
          ·exact .inl hbi
          ·exact .inr (List.mem_filter.2 ⟨hb,by simpa using hbi⟩)) hS2 hS2' hob (fun c hc=>by
           rw [← hLo] at hc
           obtain ⟨q1,q2,q3⟩:=hO c (List.mem_append_right _ hc)
           exact ⟨hOS c (List.mem_append_right _ hc),q2,q3⟩)
         refine fin hR2 ⟨(List.nodup_append.1 hnd).1,fun b hb=>?_⟩
         obtain ⟨q1,q2,q3⟩:=hOf b hb
         refine ⟨q1,q2,q3,fun j ej hj=>?_⟩
         simp only [St.s8,o5] at hj
         by_cases hji:j=i
         ·subst hji
          rw [if_pos rfl] at hj; cases hj
          rw [← hLo]
          exact fun hbl=>(List.nodup_append.1 hnd).2.2 b hb b hbl rfl
         ·rw [if_neg hji] at hj
          have hj:look j (St.s7 gs s).hp=some ej:=hj
          rw [(a0m hji O').l6]
          rw [H5] at hj
          split at hj
          ·cases hj
          ·rename_i hjg; exact hOj b hb j ej hjg (by simpa using hji) hj
       rcases hk4 with ⟨hno|hno,hno2⟩|hle
       rotate_left
       ·refine main (fun b=>S b∨(S' b∧w.heap.size≤b)) (fun _ h=>.inl h) (fun b hb=>?_) (fun b hb hs=>?_) ?_ (hout.H6 hno2)
        ·rcases hb with hb|⟨hb,hb2⟩
         ·exact .inl hb
         ·rcases hs2 b hb with h1|h1
          ·have:=hS1 b h1; omega
          ·exact .inr ⟨.inl hb2,h1.2⟩
        ·rcases hs with hs|hs
         ·exact (hO b hb).1 (hs1 b (.inl hs))
         ·exact (hO b hb).1 hs.1
        ·exact (hnew hno).mono (fun b hb=>.inr hb)
       rotate_left
       ·exact main S (fun _ h=>h) (fun b hb=>.inl hb) (fun b hb hs=>(hO b hb).1 (hs1 b (.inl hs))) (hres.H6 hno) (hout.H6 hno2)
       ·have hlo:O5.loose ct.ps av=[]:=by
         revert hle
         cases O5.loose ct.ps av with
         | nil=>intro _; rfl
         | cons x y=>intro h; cases h
        refine main S' (fun b hb=>hs1 b (.inl hb)) (fun b hb=>?_) (fun b hb=>(hO b hb).1) hres hout
        rcases hs2 b hb with (h1|⟨i,e,h1,_⟩)|h1
        ·exact .inl h1
        ·rw [hlo] at h1; cases h1
        ·exact .inr h1
      ·trivial

theorem D3.a6P {P:Program} {o:Oper} {r:OR} {p:Prop} (h:p→D3 P B o a w r):D3 P B o a w (r.a6P p):=by
 cases r with
 | fail y=>trivial
 | ok v s'=>exact fun hp=>h hp.1
 | E4 q v s'=>exact fun hp=>h hp.1 hp.2

theorem b3Q (h:RS B S ι s a w) {x:Operand} {g:Nat} {b:Bool} (hx:s.ev x=.val (.fn g) b):a.eval x=fnV g b:=by
 obtain ⟨cs,e,_,rfl⟩:=x8 h hx
 simpa [j7,Ty.agg] using e

end
end Go.Ex

namespace Go.Ex

section
variable {E:Env} {B:D4} {S S':Nat→Prop} {ι ι':Ix} {s:St} {a:Act} {w w':World} {hp:List (Nat×g8)} {H H':Array Go.Obj}

end
end Go.Ex

namespace Go.Ex

section
variable {E:Env} {B:D4} {S S':Nat→Prop} {ι:Ix} {s:St} {a:Act} {w:World} {hp:List (Nat×g8)} {H H':Array Go.Obj}

theorem b5U (hE:C2 E B) (h:RS B S ι s a w) {o:Oper} {T:TypeId} {x y:Operand} (ho:o.op=.index T x y):D3 E.P B o a w (n6 E o s):=by
 have he:execOp a.eval o=(do pure (.value (← Instr.index T (a.eval x) (a.eval y)))):=by simp [execOp,ho]
 unfold n6
 rw [ho]
 simp only
 split
 ·rename_i l k n hx hy
  split
  ·rename_i hc
   intro hn
   obtain ⟨hxv,_⟩:=VX.a1S (x8 h hx)
   obtain ⟨hyv,_⟩:=VX.F8 (x8 h hy)
   have hu:=S6 (C1 hE hc)
   exact G2 he h (val:=.int .u8 ((List.getD l (Int.toNat n) 0).toNat:Int)) (by rw [hxv,hyv]; exact b2q hu hn) (VX.int (by generalize List.getD l (Int.toNat n) 0=c; have:=c.toNat_lt; unfold q9; simp [IntKind.min,IntKind.max,IntKind.signed,IntKind.bits]; omega))
  ·trivial
 ·rename_i m t z k n hx hy
  split
  ·rename_i hc
   intro hn
   obtain ⟨cs,e,hR⟩:=x8 h hx
   have e:a.eval x=j7 (.arr m t) cs:=by simpa using e
   obtain ⟨hyv,_⟩:=VX.F8 (x8 h hy)
   obtain ⟨et,k',h1,h2,h3⟩:=U1 (C1 hE hc)
   obtain ⟨b1',b2,b3,b4⟩:=C4 (sz:=t.size) hn
   obtain ⟨P1,P2,P3,e1,g1,g2,g3⟩:=i7.split (d:=t.o7) (i:=Int.toNat n) (by rw [hR.1]; exact b1') hR.2
   have hP:P2=[]:=(List.append_eq_nil_iff.1 (List.append_eq_nil_iff.1 e1.symm).2).1
   rw [hP] at g2
   refine G2 he h (val:=j7 t ((cs.drop (Int.toNat n*t.size)).take t.size)) ?_ ⟨_,rfl,g2⟩
   have hp:=Z8 (w:=w) h3 g2
   rw [e,hyv,j7]
   have hn':0≤(n:Int)∧(n:Int)<m:=hn
   simp [Instr.index,asIntOf,n9 h1,Ty.agg,hn',run_sizeOf h3,hp]
  ·trivial
 ·rename_i i p k n hx hy
  split
  ·rename_i m t z hpt
   split
   ·rename_i hc
    obtain ⟨e,u',y',cs,q1,q2,q3,q4,q5⟩:=x8 h hx
    have hgp:=G3 q1 hpt
    rw [q3] at hgp; cases hgp
    have q5:a.eval x=j7 (.arr m t) cs:=by simpa using q5
    obtain ⟨hyv,_⟩:=VX.F8 (x8 h hy)
    obtain ⟨O2,m1,m2,hR⟩:=F0 h.hs q1 q2 q3 q4
    obtain ⟨et,k',h1,h2,h3⟩:=U1 (C1 hE hc)
    have core:(0≤(n:Int)∧(n:Int)<m)→∃ P2,(∀ c∈P2,c∈O2)∧f7 w.heap S t P2 ((cs.drop (Int.toNat n*t.size)).take t.size) (List.getD z (Int.toNat n) t.o7)∧(Instr.index T (a.eval x) (a.eval y)).run E.P w=.ok (j7 t ((cs.drop (Int.toNat n*t.size)).take t.size)) w:=by
     intro hn
     obtain ⟨b1',b2,b3,b4⟩:=C4 (sz:=t.size) hn
     obtain ⟨P1,P2,P3,e1,g1,g2,g3⟩:=i7.split (d:=t.o7) (i:=Int.toNat n) (by rw [hR.1]; exact b1') hR.2
     refine ⟨P2,fun c hc=>by rw [e1]; simp [hc],g2,?_⟩
     have hp:=Z8 (w:=w) h3 g2
     rw [q5,hyv,j7]
     have hn':0≤(n:Int)∧(n:Int)<m:=hn
     simp [Instr.index,asIntOf,n9 h1,Ty.agg,hn',run_sizeOf h3,hp]
    split
    ·rename_i hs
     intro hn
     obtain ⟨P2,k1,k2,k3⟩:=core hn
     have:=k2.J5 hs
     subst this
     exact G2 he h k3 ⟨_,rfl,k2⟩
    ·intro hn
     obtain ⟨P2,k1,k2,k3⟩:=core hn
     refine G2 he h k3 ⟨e,t,List.getD z (Int.toNat n) t.o7,_,q1,T8 q3 q2 ⟨hn,K2⟩,a7G q3 x7,?_,rfl⟩
     obtain ⟨b0,off0,g1,rfl⟩:=q4
     obtain ⟨b1',b2,b3,b4⟩:=C4 (sz:=t.size) hn
     refine ⟨b0,off0+Int.toNat n*t.size,Z2 q3 g1 (by simp only [w7,w8]),?_⟩
     rw [n5,m0 _ _ _ _ (by simp only [Ty.size]; omega)]
   ·trivial
  ·trivial
 ·trivial
where
 b2q {P:Program} {w:World} {T:TypeId} {l:List UInt8} {k:IntKind} {n:Int} (hu:P.underlying T=some .string) (hn:0≤n∧n<(l.length:Int)) :
   (Instr.index T (.string ⟨l.toArray⟩) (.int k n)).run P w=.ok (.int .u8 ((l.getD n.toNat 0).toNat:Int)) w:=by
  have h1:n.toNat<l.length:=by omega
  have h2:(ByteArray.mk l.toArray)[n.toNat]?=some (l.getD n.toNat 0):=by
   have:n.toNat<(ByteArray.mk l.toArray).size:=by simpa [ByteArray.size] using h1
   rw [getElem?_pos (ByteArray.mk l.toArray) n.toNat this]
   simp [ByteArray.getElem_eq_getElem_data,h1]
  simp [Instr.index,asIntOf,n9 hu,hn.1,h2]

theorem a5i {P:Program} (h:RS B S ι s a w) {k:IntKind} {f:Int→Int→Int} {m2:Value→Value→Sem Value} (hf:∀ x y,q9 k x→q9 k y→q9 k (f x y)) (hm:∀ x y,(m2 (.int k x) (.int k y)).run P w=.ok (.int k (f x y)) w) :
  ∀ {l:List Operand} {x:Int} {v:AV} {s':St},q9 k x→foldI s k f x l=.ok v s'→∃ n,v=.val (.int k) n∧s'=s∧q9 k n∧((l.map a.eval).foldlM m2 (.int k x)).run P w=.ok (.int k n) w
 | [],x,v,s',hx,hfo=>by
  simp only [foldI,OR.ok.injEq] at hfo
  obtain ⟨rfl,rfl⟩:=hfo
  exact ⟨x,rfl,rfl,hx,rfl⟩
 | y::l,x,v,s',hx,hfo=>by
  simp only [foldI] at hfo
  split at hfo
  ·rename_i k' b hy
   split at hfo
   ·rename_i hk
    subst hk
    obtain ⟨hyv,hb⟩:=VX.F8 (x8 h hy)
    obtain ⟨n,k1,k2,k3,k4⟩:=a5i h hf hm (hf x b hx hb) hfo
    refine ⟨n,k1,k2,k3,?_⟩
    simp only [List.map_cons,List.foldlM_cons,Sem.run_bind,hyv,hm,Result.andThen]
    exact k4
   ·cases hfo
  ·cases hfo

theorem a6n {k:IntKind} {f:Int→Int→Int}:∀ {l:List Operand} {x:Int} {p:Prop} {v:AV} {s':St},foldI s k f x l≠.E4 p v s'
 | [],x,p,v,s',h=>by cases h
 | y::l,x,p,v,s',h=>by
  simp only [foldI] at h
  split at h
  ·split at h
   ·exact a6n h
   ·cases h
  ·cases h

theorem b64 {P:Program} {T ty:TypeId} {k:Nat} {u:Ty} (hT:n8 P k T u=true) {v:Value} {n:Nat}
  (h:(∃ q t b off cap,u=.d0 q t∧v=.slice b n cap∧off=0)∨(∃ l:List UInt8,u=.str∧v=.string ⟨l.toArray⟩∧n=l.length)∨(∃ t,u=.arr n t)) :
  (Builtin.len_ #[T] ty #[v]).run P w=.ok (.int .i64 n) w:=by
 rcases h with ⟨q,t,b,off,cap,rfl,rfl,_⟩|⟨l,rfl,rfl,rfl⟩|⟨t,rfl⟩
 ·obtain ⟨e,k',h1,_⟩:=E5 hT
  simp [Builtin.len_,n9 h1,goInt]
 ·have h1:=S6 hT
  have e:(ByteArray.mk l.toArray).size=l.length:=rfl
  simp [Builtin.len_,n9 h1,goInt,e]
 ·obtain ⟨e,k',h1,_⟩:=U1 hT
  simp [Builtin.len_,n9 h1,goInt]

theorem a0I (hE:C2 E B) (h:RS B S ι s a w) {o:Oper} {c:Call} (ho:o.op=.call c) (hc:c.callee=.builtin .len) {x:Operand} {T:TypeId} (ha:c.args.toList=[x]) (hT:c.argTypes.toList=[T]) {u:Ty} (hk:I0 E T u=true) {n:Nat}
  (hv:(∃ q t b off cap,u=.d0 q t∧a.eval x=.slice b n cap∧off=0)∨(∃ l:List UInt8,u=.str∧a.eval x=.string ⟨l.toArray⟩∧n=l.length)∨(∃ t,u=.arr n t)) (hn:(n:Int)≤9223372036854775807) :
  u6 E.P B o a w (.val (.int .i64) (n:Int)) s:=by
 have hargs:c.args=#[x]:=by rw [← ha]
 have hts:c.argTypes=#[T]:=by rw [← hT]
 refine u6.value (val:=.int .i64 n) ?_ h (VX.int (by unfold q9; simp [IntKind.min,IntKind.max,IntKind.signed,IntKind.bits]; omega))
 have:=b64 (w:=w) (ty:=o.type) (C1 hE hk) hv
 simp [execOp,ho,resolve,hc,invoke,builtin,hargs,hts,this]

theorem a4p {q:Bool} {u:Ty} {O:List Nat} {cs:List Value} {z:(Ty.d0 q u).den} (hR:f7 H S (.d0 q u) O cs z):∃ b cap,j7 (.d0 q u) cs=.slice b (List.length z) cap∧((List.length z:Nat):Int)≤9223372036854775807:=by
 rcases hR with ⟨_,⟨a,c,h1,_⟩,h2⟩|⟨b,off,cap,O',c1,c2,c3,_⟩
 ·subst h2; subst h1; exact ⟨a,c,rfl,by simp⟩
 ·rw [c1]; exact ⟨_,cap,rfl,by have:=c3.1; unfold maxLen at this; omega⟩

theorem b6Z {u:Ty} {O:List Nat} {cs:List Value} {z:(Ty.w5 u).den} (hR:f7 H S (.w5 u) O cs z):∃ b cap,j7 (.w5 u) cs=.slice b (List.length z.2.1) cap∧((List.length z.2.1:Nat):Int)≤9223372036854775807:=by
 obtain ⟨n,l,m⟩:=z
 match n,hR with
 | 0,hR=>exact a4p (q:=false) hR
 | 1,hR=>exact a4p (q:=true) hR
 | n+2,⟨b,off,O',c1,c2,_⟩ =>
  subst c1
  exact ⟨_,_,rfl,by have:=c2.1; unfold maxLen at this; show ((List.length l:Nat):Int)≤_; omega⟩

/-! ### structs and arrays written out -/
theorem b1t (off:Nat):∀ (vs:List Value) (k:Nat) (cells:Array Value),off+k+vs.length≤cells.size →
  ((vs.zipIdx k).foldl (fun cs (q:Value×Nat)=>cs.setIfInBounds (off+q.2) q.1) cells)=(over cells.toList (off+k) vs).toArray
 | [],k,cells,_=>by simp [over]
 | v::vs,k,cells,h=>by
  simp only [List.length_cons] at h
  simp only [List.zipIdx_cons,List.foldl_cons]
  rw [b1t off vs (k+1) _ (by simp; omega)]
  congr 1
  have e:=list_seg_step cells.toList (off+k) v vs (by simp; omega)
  simpa [over,Array.toList_setIfInBounds,Nat.add_assoc] using e

theorem c2Z {place:Nat→Option (Nat×Nat)} {cells:List Value} {i off size:Nat} {v:Value} {vs:List Value} {rest:List (Nat×Value)} (hp:place i=some (off,size)) (hv:v.cells=vs.toArray) (hl:vs.length=size) (hb:off+size≤cells.length) :
  Instr.fill place cells.toArray ((i,v)::rest)=Instr.fill place (over cells off vs).toArray rest:=by
 have hz:=b1t off vs 0 cells.toArray (by simp; omega)
 simp only [Instr.fill,hp,hv]
 have h1:¬ ((vs.toArray.size≠size)∨(off+vs.toArray.size > cells.toArray.size)):=by simp [hl]; omega
 simp only [Bool.or_eq_true,decide_eq_true_eq]
 rw [if_neg (by simpa using h1)]
 congr 1
 simp only [Nat.add_zero] at hz
 rw [← hz,← Array.foldl_toList]
 simp

theorem c2v {t:Ty} {x:t.den} {O:List Nat} {cs:List Value} (hR:f7 H S t O cs x) (hS:∀ b,S b→b<H.size) (hO:∀ b∈O,¬ S b) (hnd:O.Nodup) {p:List Step} (hok:w4 t x p) {u0:Ty} {y0:u0.den} (hg:j6 t x p=some ⟨u0,y0⟩) {off:Nat}
  (hn:∀ (G:Array Go.Obj) (b o:Nat),w7 G t p b o=some (b,o+off)) {u:Ty} {z:u.den} {O2:List Nat} {cs':List Value} (hz:f7 H S u O2 cs' z) (hnd2:O2.Nodup) (hdj:∀ b∈O2,b∉O) {r:Sigma Ty.den} (hset:r9 t x p u z=some r) :
  ∃ O',f7 H S r.1 O' (over cs off cs') r.2∧O'.Nodup∧(∀ b∈O',b∈O∨b∈O2)∧r.1.sh=t.sh∧off+u0.size≤cs.length∧u.size=u0.size:=by
 have hush:=a3R hg hset
 have husz:=E3 hush
 let G:Array Go.Obj:=H.push (.cells cs.toArray 0)
 let G':Array Go.Obj:=H.push (.cells (over cs off cs').toArray 0)
 have hold:∀ {c},c<H.size→G[c]?=H[c]?:=fun h=>a3g h
 have hold':∀ {c},c<H.size→G'[c]?=H[c]?:=fun h=>a3g h
 have hblk:s5 G H.size=cs:=by simp [G,s5]
 have hblk':s5 G' H.size=over cs off cs':=by simp [G',s5]
 have hOl:∀ c∈O,c<H.size:=fun c hc=>hR.a45 c hc
 have hO2l:∀ c∈O2,c<H.size:=fun c hc=>hz.a45 c hc
 have hroot:d8 G H.size 0 t.size=cs:=by
  simp only [d8,hblk,List.drop_zero]
  exact List.take_of_length_le (by rw [hR.length]; exact Nat.le_refl _)
 have hRG:f7 G S t O (d8 G H.size 0 t.size) x:=by
  rw [hroot]; exact hR.r7 (fun c hc=>hold (hc.elim (hOl c) (hS c))) (fun _ h=>h)
 have hbG:0+t.size≤(s5 G H.size).length:=by rw [hblk,hR.length]; omega
 obtain ⟨O1,O3,b',off',e1,e2,e3,e4,e5,e6⟩:=focus (b:=H.size) (off:=0) hRG hbG hok hg
 rw [hn] at e3; cases e3
 rw [hblk] at e5
 have hle:off+u0.size≤cs.length:=by simpa using e5
 have hcl:cs'.length=u0.size:=by rw [hz.length,husz]
 have hov:(over cs off cs').length=cs.length:=a7A (by omega)
 have hnS:¬ S H.size:=fun h=>Nat.lt_irrefl _ (hS _ h)
 have hc:T4 G G' H.size (0+off) u0.size:=by
  refine ⟨⟨cs.toArray,(over cs off cs').toArray,0,⟨_,⟨a3h,.inl rfl⟩,a3h⟩,by simp [hov],?_⟩,?_⟩
  ·intro j hj
   exact b3u (by omega) (by omega)
  ·intro c hc1 hc2
   have:c<H.size:=by simp [G] at hc2; omega
   rw [hold' this,hold this]
 have hz':f7 G' S u O2 (d8 G' H.size (0+off) u.size) z:=by
  have:d8 G' H.size (0+off) u.size=cs':=by
   simp only [d8,hblk',Nat.zero_add]
   rw [← hz.length]; exact b6V (by omega)
  rw [this]
  exact hz.r7 (fun c hc=>hold' (hc.elim (hO2l c) (hS c))) (fun _ h=>h)
 have hndO:=(e1.nodup_iff).1 hnd
 have hm1:∀ c∈O1,c∈O:=fun c hc=>e1.mem_iff.2 (by simp [hc])
 obtain ⟨O4,f1,f2,f3⟩:=a4m e2 hg (hn G H.size 0) hbG (by simp [G]) (List.nodup_append.1 hndO).1 (fun hm=>Nat.lt_irrefl _ (hOl _ (hm1 _ hm))) (fun c hc=>⟨hO c (hm1 c hc),by have:=hOl c (hm1 c hc); simp [G]; omega⟩) hnS
  (fun c hc=>by have:=hS c hc; simp [G]; omega) (fun _ h=>h) hc hz' hset
 have hsub:∀ b∈O4,b∈O∨b∈O2:=fun b hb=>(List.mem_append.1 (f1.mem_iff.1 hb)).imp (hm1 b) id
 refine ⟨O4,?_,(f1.nodup_iff).2 (List.nodup_append.2 ⟨(List.nodup_append.1 hndO).1,hnd2,fun c h1 d h2 e=>hdj d h2 (e▸hm1 c h1)⟩),hsub,f3,hle,husz⟩
 have:d8 G' H.size 0 r.1.size=over cs off cs':=by
  simp only [d8,hblk',List.drop_zero]
  exact List.take_of_length_le (by rw [hov,hR.length,E3 f3]; omega)
 rw [this] at f2
 exact f2.r7 (fun c hc=>(hold' (hc.elim (fun h=>(hsub c h).elim (hOl c) (hO2l c)) (hS c))).symm) (fun _ h=>h)

def b0q (t:Ty) (i:Nat):Nat :=
 match t with
 | .arr _ t=>i*t.size
 | t=>N4 t i

theorem c2z {t:Ty} {x:t.den} {i:Nat} (hi:a1C t i=true) {r:Sigma Ty.den} (hg:j6 t x (U4 t i)=some r):w4 t x (U4 t i)∧∀ (G:Array Go.Obj) (b o:Nat),w7 G t (U4 t i) b o=some (b,o+b0q t i):=by
 obtain ⟨u,y⟩:=r
 cases t with
 | arr n t =>
  have:i<n:=by simpa [a1C,Nat.blt_eq] using hi
  refine ⟨⟨by omega,K2⟩,fun G b o=>?_⟩
  simp [U4,w7,b0q,w8]
 | _=>exact ⟨a2s hg,fun G b o=>a1p hg⟩

theorem a2V (h:RS B S ι s a w) {place:Nat→Option (Nat×Nat)}:∀ {parts:List (Nat×Operand)} {t:Ty} {x:t.den} {O:List Nat} {cs:List Value} {r:Sigma Ty.den} {G g:List Nat},f7 w.heap S t O cs x→O.Nodup→(∀ b∈O,J9 ι s.hp G b)→(G++g).Nodup→parts.all (fun q=>a1C t q.1)=true →
  (∀ (t':Ty) (x':t'.den) (i:Nat) (u:Ty) (y:u.den),t'.sh=t.sh→j6 t' x' (U4 t' i)=some ⟨u,y⟩→a1C t' i=true→place i=some (b0q t' i,u.size))→O7 s ⟨t,x⟩ parts=some (r,g) →
  ∃ cs' O',Instr.fill place cs.toArray (parts.map fun q=>(q.1,a.eval q.2))=some cs'.toArray∧f7 w.heap S r.1 O' cs' r.2∧O'.Nodup∧(∀ b∈O',J9 ι s.hp (G++g) b)∧r.1.sh=t.sh
 | [],t,x,O,cs,r,G,g,hR,hnd,hO,_,_,_,hb=>by
  simp only [O7,Option.some.injEq,Prod.mk.injEq] at hb
  obtain ⟨rfl,rfl⟩:=hb
  exact ⟨cs,O,rfl,hR,hnd,fun b hb=>(hO b hb).mono (by simp),rfl⟩
 | (i,v)::parts,t,x,O,cs,r,G,g,hR,hnd,hO,hG,hall,hp,hb=>by
  simp only [List.all_cons,Bool.and_eq_true] at hall
  simp only [O7] at hb
  split at hb
  ·cases hb
  ·rename_i u0 y0 hg
   obtain ⟨hok,hnav⟩:=c2z hall.1 hg
   have hplace:=hp t x i u0 y0 rfl hg hall.1
   have hOS:∀ b∈O,¬ S b:=fun b hb=>by obtain ⟨j,e,_,q2,q3⟩:=hO b hb; exact (h.hs.bl j e q2 b q3).1
   -- one part
   have one:∀ {u:Ty} {z:u.den} {O2:List Nat} {cs1:List Value} {r1:Sigma Ty.den} {g1 g2:List Nat},f7 w.heap S u O2 cs1 z→O2.Nodup→(∀ b∈O2,J9 ι s.hp g1 b)→a.eval v=j7 u cs1→r9 t x (U4 t i) u z=some r1→O7 s r1 parts=some (r,g2)→g=g1++g2 →
     ∃ cs' O',Instr.fill place cs.toArray (((i,v)::parts).map fun q=>(q.1,a.eval q.2))=some cs'.toArray∧f7 w.heap S r.1 O' cs' r.2∧O'.Nodup∧(∀ b∈O',J9 ι s.hp (G++g) b)∧r.1.sh=t.sh:=by
    intro u z O2 cs1 r1 g1 g2 hz hnd2 hO2 hev hset hb hgg
    subst hgg
    have hdj:∀ b∈O2,b∉O:=by
     intro b hb2 hb1
     obtain ⟨i1,e1,q1,q2,q3⟩:=hO2 b hb2
     obtain ⟨i2,e2,r1',r2,r3⟩:=hO b hb1
     have hne:i1≠i2:=by rintro rfl; exact (List.nodup_append.1 hG).2.2 i1 r1' i1 (by simp [q1]) rfl
     exact h.hs.dj i1 i2 e1 e2 q2 r2 hne b q3 r3
    obtain ⟨O',k1,k1n,k1s,k2,k3,k4⟩:=c2v hR h.hs.slt hOS hnd hok hg hnav hz hnd2 hdj hset
    obtain ⟨t1,x1⟩:=r1
    have hsh:t1.sh=t.sh:=k2
    have hin:∀ j,a1C t1 j=a1C t j:=by
     intro j
     cases t<;>cases t1<;>simp only [Ty.sh] at hsh<;>first|cases hsh|rfl|skip
     all_goals first|rfl|(simp only [Ty.arr.injEq] at hsh; simp only [a1C,hsh.1])
    obtain ⟨cs',O4,q1,q2,q3,q4,q5⟩:=a2V h (place:=place) (parts:=parts) (G:=G++g1) (g:=g2) k1 k1n (fun b hb=>(k1s b hb).elim (fun hb=>(hO b hb).mono (by simp; intro i hi; exact .inl hi)) (fun hb=>(hO2 b hb).mono (by simp; intro i hi; exact .inr hi))) (by rw [List.append_assoc]; exact hG) (by simp only [hin]; exact hall.2) (fun t' x' j u' y' e1 e2 e3=>hp t' x' j u' y' (e1.trans hsh) e2 e3) hb
    refine ⟨cs',O4,?_,q2,q3,by rw [← List.append_assoc]; exact q4,q5.trans hsh⟩
    simp only [List.map_cons]
    rw [c2Z (vs:=cs1) hplace (by rw [hev]; exact hz.cells) (by rw [hz.length,k4]) k3]
    exact q1
   split at hb
   ·rename_i hv
    have hv':[a.eval v]=[Value.slice none 0 0]:=x8 h hv
    split at hb
    ·rename_i o' u' _
     split at hb
     ·rename_i r1 hset
      exact one (u:=.d0 o' u') (z:=([]:List u'.den)) (cs1:=[.slice none 0 0]) (g1:=[]) (.inl ⟨rfl,⟨none,0,rfl,fun _=>rfl⟩,rfl⟩) List.nodup_nil (by simp) (by simpa [j7,Ty.agg] using hv') hset hb rfl
     ·cases hb
    ·cases hb
   ·split at hb
    ·rename_i u z g1 hgv
     obtain ⟨O2,cs1,e,hz,hnd2,hO2⟩:=a3Q h.hs hgv (h.ev v)
     split at hb
     ·rename_i r1 hset
      split at hb
      ·rename_i r2 g2 hb2
       simp only [Option.some.injEq,Prod.mk.injEq] at hb
       obtain ⟨rfl,rfl⟩:=hb
       exact one hz hnd2 hO2 e hset hb2 rfl
      ·cases hb
     ·cases hb
    ·cases hb

def plc:Ty→Nat→List (Nat×Nat)
 | .pair a b,off=>(off,a.size)::plc b (off+a.size)
 | _,_=>[]

theorem c4W:∀ {t:Ty} {x:t.den} {n:Nat} {u:Ty} {z:u.den} {off:Nat},j6 t x [.l7 n]=some ⟨u,z⟩→(plc t off)[n]?=some (off+N4 t n,u.size):=by
 intro t
 induction t with
 | pair a c _ ihc =>
  intro x n u z off h
  match n,h with
  | 0,h =>
   have h:some (⟨a,x.1⟩:Sigma Ty.den)=some ⟨u,z⟩:=by rw [← h]; simp only [j6]
   cases h
   simp [plc,N4]
  | n+1,h =>
   have:=ihc (x:=x.2) (off:=off+a.size) h
   simp only [plc,N4,List.getElem?_cons_succ,this]
   simp [Nat.add_assoc]
 | d0 o t _=>intro x n u z off h; cases o<;>simp [j6] at h
 | _=>intro x n u z off h; simp [j6] at h

theorem b6M {P:Program} {k:Nat}:∀ {fs:List Field} {off:Nat} {t:Ty},l8 (n8 P k) fs off t=true→(fs.mapM fun f=>Prod.mk f.offset <$> sizeOf f.type).run P w=.ok (plc t off) w
 | [],off,t,h=>by
  cases t<;>simp [l8] at h
  rfl
 | f::fs,off,t,h=>by
  cases t<;>simp only [l8] at h<;>first|cases h|skip
  simp only [Bool.and_eq_true] at h
  obtain ⟨⟨⟨⟨h1,_⟩,h3⟩,_⟩,h4⟩:=h
  have ih:=b6M h4
  simp [List.mapM_cons,run_sizeOf h3,ih,plc,Nat.eq_of_beq_eq_true h1]

theorem c6k:∀ {t u:Ty} {off:Nat},u.sh=t.sh→plc u off=plc t off:=by
 intro t
 induction t with
 | pair a c _ ihc =>
  intro u off h
  cases u<;>simp only [Ty.sh] at h<;>try cases h
  simp only [Ty.pair.injEq] at h
  simp only [plc,E3 h.1,ihc h.2]
 | _ =>
  intro u off h
  cases u<;>simp only [Ty.sh] at h<;>try cases h
  all_goals rfl

theorem a3Z {P:Program} {k:Nat} {T:TypeId} {t:Ty} (h:n8 P k T t=true) (ht:t.agg=true) (hn:∀ n u,t≠.arr n u):∃ fs k',P.underlying T=some (.struct fs)∧l8 (n8 P k') fs.toList 0 t=true:=by
 cases k with
 | zero=>simp [n8] at h
 | succ k =>
  obtain ⟨d,h1,h2⟩:=M4 h
  simp only [n8,Bool.and_eq_true,h1] at h
  obtain ⟨_,h⟩:=h
  cases t with
  | pair a c=>cases d<;>first|(exact (Bool.false_ne_true h).elim)|(exact ⟨_,k,h1,h⟩)
  | unit=>cases d<;>first|(exact (Bool.false_ne_true h).elim)|(exact ⟨_,k,h1,h⟩)
  | arr n u=>exact absurd rfl (hn n u)
  | _=>cases ht

end
end Go.Ex

namespace Go.Ex

section
variable {E:Env} {B:D4} {S S':Nat→Prop} {ι:Ix} {s:St} {a:Act} {w:World} {hp:List (Nat×g8)} {H H':Array Go.Obj}

theorem a8S (z:List Value):∀ n:Nat,(List.range (n*z.length)).map (fun i=>z.getD (i % z.length) default)=(List.replicate n z).flatten
 | 0=>by simp
 | n+1=>by
  rw [Nat.succ_mul,Nat.add_comm,List.range_add,List.map_append,List.replicate_succ,List.flatten_cons,← a8S z n]
  congr 1
  ·apply List.ext_getElem
   ·simp
   ·intro i h1 h2
    simp only [List.length_map,List.length_range] at h1
    simp [Nat.mod_eq_of_lt h1,List.getElem?_eq_getElem h1]
  ·simp [List.map_map,Function.comp_def]

theorem a4M (z:List Value) (n:Nat):((Array.range (n*z.length)).map (z.toArray[· % z.toArray.size]!))=(List.replicate n z).flatten.toArray:=by
 rw [← a8S]
 apply Array.ext'
 simp [Array.toList_range,List.getD_eq_getElem?_getD]

theorem a1q (z:List Value) (n:Nat):Builtin.zeroCells z.toArray n=(List.replicate n z).flatten.toArray:=a4M z n

theorem i7.b2F {t:Ty}:∀ n:Nat,i7 (f7 H S t) t.size [] (List.replicate n (zc t)).flatten (List.replicate n t.o7)
 | 0=>⟨rfl,rfl⟩
 | n+1=>⟨[],[],rfl,by
   rw [List.replicate_succ,List.flatten_cons,List.take_left' (I3 t)]; exact f7.o7 t,by
   rw [List.replicate_succ,List.flatten_cons,List.drop_left' (I3 t)]; exact i7.b2F n⟩

theorem u6.lay {P:Program} {o:Oper} {d:Nat} {g:List Nat} {t:Ty} {x:t.den} {v:AV} {s':St} (hl:s.lay d g t x=.ok v s') {w':World} {val:Value} (hr:(execOp a.eval o).run P w=.ok (.value val) w')
  {O:List Nat} {cs:List Value} (hv:val=j7 t cs) (hR:f7 w'.heap S t O cs x) (hs:RS B S ι (St.s7 g s) a w') (hF:C9 B S ι (St.s7 g s).hp w' O):u6 P B o a w v s':=by
 unfold St.lay at hl
 split at hl
 ·cases hl
 ·split at hl
  ·rename_i hf
   cases hl
   intro next Q hn
   unfold Oper.wp
   rw [hr]
   exact hn S _ w' val (hs.hold hf hR hF) (by rw [hv]; exact a4I hR.length)
  ·cases hl

theorem a7j {d:Nat} {g:List Nat} {t:Ty} {x:t.den} {v:AV} {s':St} (hl:s.lay d g t x=.ok v s'):g.Nodup∧(g.all fun i=>!pinned i)=true:=by
 unfold St.lay at hl
 split at hl
 ·cases hl
 ·rename_i hc
  simp only [Bool.and_eq_true] at hc
  exact ⟨a2a hc.1.1,hc.1.2⟩

theorem S3 {d:Nat} {g:List Nat} {t:Ty} {x:t.den} {p:Prop} {v:AV} {s':St}:s.lay d g t x≠.E4 p v s':=by
 unfold St.lay
 split
 ·simp
 ·split<;>simp

theorem D3.a4t {P:Program} {o:Oper} {d:Nat} {g:List Nat} {t:Ty} {x:t.den} {p:Prop} (h:∀ v s',s.lay d g t x=.ok v s'→p→u6 P B o a w v s'):D3 P B o a w ((s.lay d g t x).f6 p):=by
 cases hl:s.lay d g t x with
 | fail y=>trivial
 | ok v s'=>exact fun hp=>h v s' hl hp
 | E4 q v s'=>exact absurd hl S3

theorem D3.lay {P:Program} {o:Oper} {d:Nat} {g:List Nat} {t:Ty} {x:t.den} (h:∀ v s',s.lay d g t x=.ok v s'→u6 P B o a w v s'):D3 P B o a w (s.lay d g t x):=by
 cases hl:s.lay d g t x with
 | fail y=>trivial
 | ok v s'=>exact h v s' hl
 | E4 q v s'=>exact absurd hl S3

theorem a4Y {t:Ty} {l:List t.den} {O:List Nat} {cells:List Value} (hS:∀ c,S c→c<w.heap.size) (hR:i7 (f7 w.heap S t) t.size O (cells.take (l.length*t.size)) l) {cap:Nat} (hc:l.length≤cap) (hm:cap≤maxLen)
  (hsz:cap*t.size≤cells.length) (T:TypeId) (hO:∀ c∈O,c<w.heap.size) {w':World} {fz:Nat×Nat} (hh:w'.heap=w.heap.push (.cells cells.toArray T fz)) (hz:fz=(0,0)∨(t.isB=true∧cells.length≤fz.1)) :
  ∃ O',f7 w'.heap S (.d0 true t) O' [.slice (some ⟨w.heap.size,0,none⟩) l.length cap] l∧(∀ b∈O',b=w.heap.size∨b∈O)∧(O.Nodup→O'.Nodup):=by
 have hnew:w'.heap[w.heap.size]?=some (.cells cells.toArray T fz):=by rw [hh]; exact a3h
 have hold:∀ {b},b<w.heap.size→w'.heap[b]?=w.heap[b]?:=fun hb=>by rw [hh]; exact a3g hb
 have hblk:s5 w'.heap w.heap.size=cells:=by simp only [s5,hnew]
 have hle:l.length*t.size≤cap*t.size:=Nat.mul_le_mul_right _ hc
 by_cases h0:cap=0
 ·have hl0:l.length=0:=by omega
  have hl:l=[]:=List.length_eq_zero_iff.1 hl0
  exact ⟨[],.inl ⟨rfl,⟨some ⟨w.heap.size,0,none⟩,0,by rw [hl0,h0],fun _=>rfl⟩,hl⟩,by simp,fun _=>List.nodup_nil⟩
 ·refine ⟨w.heap.size::O,.inr ⟨w.heap.size,0,cap,O,rfl,hc,⟨hm,fun _=>by omega⟩,?_,?_,rfl,cells.toArray,T,⟨fz,hnew,by simpa using hz⟩,by simpa using hsz⟩,fun b hb=>List.mem_cons.1 hb,fun hn=>List.nodup_cons.2 ⟨fun hb=>Nat.lt_irrefl _ (hO _ hb),hn⟩⟩
  ·rw [hblk,Nat.zero_add]; exact Nat.le_trans hle hsz
  ·have:d8 w'.heap w.heap.size 0 (List.length l*t.size)=cells.take (l.length*t.size):=by simp only [d8,hblk,List.drop_zero]
   rw [this]
   exact i7.mono (L:=O) (fun _ h=>h) (fun O1 cs y hL hr=>hr.r7 (fun b hb=>hold (hb.elim (fun hb=>hO b (hL b hb)) (hS b))) (fun _ h=>h)) hR

theorem a7f {t:Ty} {l:List t.den} {O:List Nat} {cells:List Value} (hS:∀ c,S c→c<w.heap.size) (hR:i7 (f7 w.heap S t) t.size O (cells.take (l.length*t.size)) l) {cap:Nat} (hc:l.length≤cap) (hm:cap≤maxLen)
  (hsz:cap*t.size≤cells.length) (T:TypeId) (hO:∀ c∈O,c<w.heap.size) :
  ∃ O',f7 (C6 w (.cells cells.toArray T)).heap S (.d0 true t) O' [.slice (some ⟨w.heap.size,0,none⟩) l.length cap] l∧(∀ b∈O',b=w.heap.size∨b∈O)∧(O.Nodup→O'.Nodup) :=
 a4Y hS hR hc hm hsz T hO (w':=C6 w (.cells cells.toArray T)) rfl (.inl rfl)

theorem C9.new {O O':List Nat} (h:RS B S ι s a w) (hF:C9 B S ι s.hp w O) {w':World} (k:y8 [] w w') (hlt:w.heap.size<w'.heap.size) (hs:∀ b∈O',b=w.heap.size∨b∈O) (hn:O'.Nodup):C9 B S ι s.hp w' O':=by
 refine ⟨hn,fun b hb=>?_⟩
 rcases hs b hb with rfl|hb
 ·refine ⟨fun hS=>Nat.lt_irrefl _ (h.hs.slt _ hS),.inl h.hs.size,hlt,fun i e hi hbi=>Nat.lt_irrefl _ (h.hs.bl i e hi _ hbi).2.2⟩
 ·exact (hF.V7 k).2 b hb

theorem a5K {n:Nat} {t:Ty} (t':Ty) (x':t'.den) (i:Nat) (u':Ty) (y':u'.den) (e1:t'.sh=(Ty.arr n t).sh) (e2:j6 t' x' (U4 t' i)=some ⟨u',y'⟩) (_:a1C t' i=true):some (i*t.size,t.size)=some (b0q t' i,u'.size):=by
 cases t'<;>simp only [Ty.sh] at e1<;>first|cases e1|skip
 rename_i n' t'' _
 simp only [Ty.arr.injEq] at e1
 have:t''=u':=by
  simp only [U4,j6,x7,Option.some.injEq] at e2
  exact congrArg Sigma.fst e2
 subst this
 simp only [b0q,E3 e1.2]

theorem b6q (hE:C2 E B) (h:RS B S ι s a w) {o:Oper} {T:TypeId} {parts:Array (Nat×Operand)} (ho:o.op=.build T parts):D3 E.P B o a w (n6 E o s):=by
 have he:execOp a.eval o=(do pure (.value (← Instr.build T (parts.map fun q=>(q.1,a.eval q.2))))):=by simp [execOp,ho]
 unfold n6
 rw [ho]
 simp only
 split
 ·rename_i ti hT
  split
  ·rename_i hall
   simp only [Bool.and_eq_true] at hall
   -- what is built
   have core:∀ {u:Ty} {y:u.den} {g:List Nat},O7 s ⟨ti.ty,ti.ty.o7⟩ parts.toList=some (⟨u,y⟩,g)→g.Nodup→∃ cs' O',(Instr.build T (parts.map fun q=>(q.1,a.eval q.2))).run E.P w=.ok (j7 u cs') w∧f7 w.heap S u O' cs' y∧O'.Nodup∧∀ b∈O',J9 ι s.hp g b:=by
    intro u y g hb hgn
    have hty:=p9 hE hT
    have hz:=a06 (w:=w) hty
    have hR0:f7 w.heap S ti.ty [] (zc ti.ty) ti.ty.o7:=f7.o7 _
    have hzc:(j7 ti.ty (zc ti.ty)).cells=(zc ti.ty).toArray:=hR0.cells
    have hpm:(parts.map fun q=>(q.1,a.eval q.2)).toList=parts.toList.map fun q=>(q.1,a.eval q.2):=by simp
    by_cases harr:∃ n t,ti.ty=.arr n t
    ·obtain ⟨n,t,e0⟩:=harr
     rw [e0] at hty hb hR0 hall hz hzc
     obtain ⟨et,k',h1,h2,h3⟩:=U1 hty
     obtain ⟨cs',O',q1,q2,q3,q4,q5⟩:=a2V h (place:=fun i=>some (i*t.size,t.size)) (G:=[]) hR0 List.nodup_nil (by simp) (by simpa using hgn) hall.2 (fun t' x' i u' y' e1 e2 e3=>a5K t' x' i u' y' e1 e2 e3) hb
     refine ⟨cs',O',?_,q2,q3,q4⟩
     have hag:u.agg=true:=by rw [a9X q5]; rfl
     simp only [Instr.build,Sem.run_bind,hz,Result.andThen,n9 h1,hzc,hpm,run_sizeOf h3,q1]
     simp [j7,hag]
    ·have hn:∀ n u,ti.ty≠.arr n u:=fun n u e=>harr ⟨n,u,e⟩
     obtain ⟨fs,k',h1,h2⟩:=a3Z hty hall.1 hn
     have hpl:=b6M (w:=w) h2
     obtain ⟨cs',O',q1,q2,q3,q4,q5⟩:=a2V h (place:=fun i=>(plc ti.ty 0)[i]?) (G:=[]) hR0 List.nodup_nil (by simp) (by simpa using hgn) hall.2 (by
      intro t' x' i u' y' e1 e2 e3
      have hn':∀ n u,t'≠.arr n u:=by
       rintro n u rfl
       cases ht:ti.ty<;>rw [ht] at e1<;>simp only [Ty.sh] at e1<;>first|cases e1|skip
       exact harr ⟨_,_,ht⟩
      have e2':j6 t' x' [.l7 i]=some ⟨u',y'⟩:=by
       cases t'<;>first|exact e2|(exact absurd rfl (hn' _ _))
      have:=c4W (off:=0) e2'
      rw [c6k e1] at this
      have e4:b0q t' i=N4 t' i:=by cases t'<;>first|rfl|(exact absurd rfl (hn' _ _))
      rw [e4]
      simpa using this) hb
     refine ⟨cs',O',?_,q2,q3,q4⟩
     have hag:u.agg=true:=by rw [a9X q5]; exact hall.1
     simp only [Instr.build,Sem.run_bind,hz,Result.andThen,n9 h1,hzc,hpm]
     simp [Array.mapM_eq_mapM_toList,hpl,q1,j7,hag]
   split
   ·rename_i u y hb
    obtain ⟨cs',O',q1,q2,q3,q4⟩:=core hb List.nodup_nil
    have:O'=[]:=List.eq_nil_iff_forall_not_mem.2 (fun b hb=>by obtain ⟨i,e,hi,_⟩:=q4 b hb; cases hi)
    subst this
    exact G2 he h q1 ⟨cs',rfl,q2⟩
   ·rename_i u y g d hd hb hg0
    refine D3.lay (fun v s' hl=>?_)
    obtain ⟨g1,g2⟩:=a7j hl
    obtain ⟨cs',O',q1,q2,q3,q4⟩:=core hb g1
    exact u6.lay hl (Q6 he q1) rfl q2 (h.s7 g2) (C9.s7 h.hs q3 q4)
   ·trivial
  ·trivial
 ·trivial

theorem b4n {n:Nat} {t:Ty} {parts:List (Nat×Operand)} {r:Sigma Ty.den×List Nat} (h:b0N s n t parts=some r):∃ t0:Ty,t0.sh=t.sh∧O7 s ⟨.arr n t0,(Ty.arr n t0).o7⟩ parts=some r:=by
 unfold b0N at h
 split at h
 ·rename_i r' hr
  cases h
  exact ⟨t,rfl,hr⟩
 ·exact ⟨t.sh,Ty.a7e t,h⟩

theorem a8y (hE:C2 E B) (h:RS B S ι s a w) {o:Oper} {T:TypeId} {n:Nat} {parts:Array (Nat×Operand)} (ho:o.op=.buildSlice T n parts):D3 E.P B o a w (n6 E o s):=by
 have he:execOp a.eval o=(do pure (.value (← Instr.buildSlice T n (parts.map fun q=>(q.1,a.eval q.2))))):=by simp [execOp,ho]
 unfold n6
 rw [ho]
 simp only
 split
 ·rename_i t bts d hT hd
  split
  ·rename_i hall
   simp only [Bool.and_eq_true,Nat.ble_eq] at hall
   obtain ⟨⟨hfr,hin⟩,hsz⟩:=hall
   split
   ·rename_i m t' l g hb0
    obtain ⟨t0,ht0,hb⟩:=b4n hb0
    refine D3.lay (fun v s' hl=>?_)
    obtain ⟨gn,gp⟩:=a7j hl
    have hty:=p9 hE hT
    obtain ⟨et,k',h1,h2,h3⟩:=E5 hty
    have hzs:∀ u:Ty,(zc u).length=u.size:=fun u=>(f7.o7 (H:=w.heap) (S:=S) u).length
    have hR0:f7 w.heap S (.arr n t0) [] (zc (.arr n t)) (Ty.arr n t0).o7:=by
     have:=f7.o7 (H:=w.heap) (S:=S) (.arr n t0)
     rwa [show zc (.arr n t0)=zc (.arr n t) from c4e (congrArg (Ty.arr n) ht0)] at this
    obtain ⟨cs',O',q1,q2,qn,qb,q3⟩:=a2V h (place:=fun i=>some (i*t.size,t.size)) (G:=[]) hR0 List.nodup_nil (by simp) (by simpa using gn) (by simpa [a1C] using hin) (fun t' x' i u' y' e1 e2 e3=>a5K t' x' i u' y' (e1.trans (congrArg (Ty.arr n) ht0)) e2 e3) hb
    have hpm:(parts.map fun q=>(q.1,a.eval q.2)).toList=parts.toList.map fun q=>(q.1,a.eval q.2):=by simp
    simp only [Ty.sh,Ty.arr.injEq] at q3
    obtain ⟨rfl,q3⟩:=q3
    have q3:=q3.trans ht0
    have hts:=E3 q3
    obtain ⟨g1,g2⟩:=q2
    have hlen:cs'.length=m*t'.size:=by rw [i7.length (fun _ _ _ h=>h.length) g2,g1]
    have hnm:m*t'.size≤16777216:=by rw [hts]; exact hsz
    have hmm:m≤maxLen:=by
     have:m*1≤m*t'.size:=Nat.mul_le_mul_left _ (by omega)
     unfold maxLen; omega
    have hrun:(execOp a.eval o).run E.P w=.ok (.value (.slice (some ⟨w.heap.size,0,none⟩) m m)) (C6 w (.cells cs'.toArray et)):=by
     rw [he]
     have hz0:(zc (.arr m t)).toArray=(List.replicate m (zc t)).flatten.toArray:=rfl
     by_cases h0:m*t.size=0
     ·have:m=0:=by rcases Nat.mul_eq_zero.1 h0 with h|h<;>omega
      subst this
      simp only [Instr.buildSlice,Sem.run_bind,n9 h1,Result.andThen,run_sizeOf h3]
      have e0:(zc (.arr 0 t)).toArray=(#[]:Array Value):=rfl
      rw [e0] at q1
      have r0:Array.range 0=(#[]:Array Nat):=rfl
      simp only [Nat.zero_mul,r0,Array.map_empty]
      rw [hpm]
      simp [q1,newRow,newObj,Sem.run,C6]
     ·have hzz:(j7 t (zc t)).cells=(zc t).toArray:=(f7.o7 (H:=w.heap) (S:=S) t).cells
      have hle:¬ (m*t.size > 16777216):=by omega
      have hq:=a4M (zc t) m
      rw [hzs] at hq
      rw [hz0] at q1
      have hle':¬ (m*t.size > 2^24):=by omega
      simp only [Instr.buildSlice,Sem.run_bind,n9 h1,Result.andThen,run_sizeOf h3,hle',h0,if_false,a06 h3,hzz,hpm,Sem.run_pure,hq,q1]
      simp [newRow,newObj,Sem.run,C6]
    have g1':List.length l=m:=g1
    have hO':∀ c∈O',c<w.heap.size:=fun c hc=>by obtain ⟨i,e,_,r2,r3⟩:=qb c hc; exact (h.hs.bl i e r2 c r3).2.2
    have hd':=h.s7 (g:=g) gp
    obtain ⟨O2,k1,k2,k3⟩:=a7f (cap:=m) h.hs.slt (O:=O') (l:=l) (cells:=cs') (by rw [g1',List.take_of_length_le (by omega)]; exact g2) (by omega) hmm (by omega) et hO'
    have hp:y8 [] w (C6 w (.cells cs'.toArray et)):=y8.push _
    exact u6.lay hl hrun (by rw [← g1']; rfl) k1 (hd'.V7 C9.nil hp) (C9.new hd' (C9.s7 h.hs qn qb) hp (by simp [C6]) k2 (k3 qn))
   ·trivial
  ·trivial
 ·trivial

theorem a56 {P:Program} {k:IntKind} {n:Int}:(asInt (.int k n)).run P w=.ok n w:=by simp [asInt,asIntOf]

theorem b6t (hE:C2 E B) (h:RS B S ι s a w) {o:Oper} {T:TypeId} {x y:Operand} (ho:o.op=.makeSlice T x y):D3 E.P B o a w (a9W E T (s.ev x) (s.ev y) o.dst s):=by
 unfold a9W
 split
 ·rename_i t bts d k n k' m hT hd hx hy
  refine D3.a4t (fun v s' hl hp=>?_)
  have hm1:@LE.le Int Int.instLEInt 1 m:=hp.1
  have hn0:@LE.le Int Int.instLEInt 0 n:=hp.2.1
  have hnm:@LE.le Int Int.instLEInt n m:=hp.2.2.1
  have hmb:@LE.le Int Int.instLEInt m 140737488355328:=hp.2.2.2.1
  obtain ⟨hxv,_⟩:=VX.F8 (x8 h hx)
  obtain ⟨hyv,_⟩:=VX.F8 (x8 h hy)
  have hty:=p9 hE hT
  obtain ⟨et,k2,h1,h2,h3⟩:=E5 hty
  obtain ⟨i,hi,hisz,hiz⟩:=Q9 h3
  have hib:=a2N h3 hi
  obtain ⟨M,rfl⟩:∃ M:Nat,m=((M:Nat):Int):=⟨Int.toNat m,(Int.toNat_of_nonneg (Int.le_trans hn0 hnm)).symm⟩
  obtain ⟨N,rfl⟩:∃ N:Nat,n=((N:Nat):Int):=⟨Int.toNat n,(Int.toNat_of_nonneg hn0).symm⟩
  have hbytes:((t.wb:Nat):Int)*(M:Int)≤281474976710656:=by
   have e:((M:Nat):Int)*(t.wb:Nat)=(t.wb:Nat)*(M:Nat):=Int.mul_comm _ _
   have:@LE.le Int Int.instLEInt (((M:Nat):Int)*(t.wb:Nat)) 140737488355328:=hp.2.2.2.2
   rw [e] at this
   omega
  have hzz:(j7 t (zc t)).cells=(zc t).toArray:=(f7.o7 (H:=w.heap) (S:=S) t).cells
  have hw1:IntKind.i64.wrap (M:Int)=(M:Int):=K7 (by unfold q9; simp [IntKind.min,IntKind.max,IntKind.signed,IntKind.bits]; omega)
  have hw2:IntKind.i64.wrap (N:Int)=(N:Int):=K7 (by unfold q9; simp [IntKind.min,IntKind.max,IntKind.signed,IntKind.bits]; omega)
  have he:execOp a.eval o=(do pure (.value (← Instr.makeSlice T (a.eval x) (a.eval y)))):=by simp [execOp,ho]
  have hrun:(Instr.makeSlice T (a.eval x) (a.eval y)).run E.P w=.ok (.slice (some ⟨w.heap.size,0,none⟩) N M) (C6 w (.cells (List.replicate M (zc t)).flatten.toArray et)):=by
   rw [hxv,hyv]
   have c1:¬ ((M:Int)<0):=by omega
   have c2:¬ ((N:Int)<0):=by omega
   have c3:¬ ((M:Int)<(N:Int)):=by omega
   have c4:¬ (281474976710656<((t.wb:Nat):Int)*(M:Int)):=by omega
   have h0:¬ M*t.size=0:=by
    intro h9
    rcases Nat.mul_eq_zero.1 h9 with h9|h9<;>omega
   have hq:=a4M (zc t) M
   rw [I3] at hq
   simp only [Instr.makeSlice,Sem.run_bind,n9 h1,Result.andThen,a56,typeInfo,hw1,hw2]
   simp [c1,c2,c3,c4,run_sizeOf h3,h0,a06 h3,hzz,Result.andThen,newRow,newObj,Sem.run,C6,hi,hib]
   congr 2
   rw [← hq]
   apply Array.ext'
   simp [I3]
  have hd':=h.s7 (g:=[]) rfl
  have hrep:(List.replicate N t.o7++List.replicate (M - N) t.o7)=List.replicate M t.o7:=by rw [List.replicate_append_replicate]; congr 1; omega
  obtain ⟨O2,k1,k2',k3⟩:=a7f (cap:=M) h.hs.slt (O:=[]) (l:=List.replicate M t.o7) (cells:=(List.replicate M (zc t)).flatten) (by
   rw [List.take_of_length_le (by simp [I3])]
   exact i7.b2F M) (by simp) (by unfold maxLen; omega) (by simp [I3]) et (by simp)
  have hp':y8 [] w (C6 w (.cells (List.replicate M (zc t)).flatten.toArray et)):=y8.push _
  have k4:f7 (C6 w (.cells (List.replicate M (zc t)).flatten.toArray et)).heap S (.w5 t) O2 [.slice (some ⟨w.heap.size,0,none⟩) N M] (2,List.replicate N t.o7,List.replicate (M - N) t.o7):=by
   rcases k1 with ⟨_,⟨_,_,q1,_⟩,_⟩|⟨b,off,cap,O',c1,c2,c3,c4,c5,c6,c7⟩
   ·exfalso
    simp only [List.length_replicate,List.cons.injEq,Value.slice.injEq,and_true] at q1
    omega
   ·simp only [List.length_replicate,List.cons.injEq,Value.slice.injEq,Option.some.injEq,Addr.mk.injEq,and_true] at c1
    obtain ⟨⟨rfl,rfl⟩,-,rfl⟩:=c1
    have hs1:List.length (List.replicate N t.o7)+List.length (List.replicate (M - N) t.o7)=M:=by simp; omega
    refine ⟨w.heap.size,0,O',by rw [hs1]; simp,by rw [hs1]; exact c3,by rw [hrep]; exact c4,by rw [hrep]; exact c5,c6,by rw [hs1]; exact c7⟩
  exact u6.lay hl (Q6 he hrun) (by simp [j7,Ty.agg]) k4 (hd'.V7 C9.nil hp') (C9.new hd' C9.nil hp' (by simp [C6]) k2' (k3 List.nodup_nil))
 ·trivial

theorem a9n (hE:C2 E B) (h:RS B S ι s a w) {o:Oper} {T:TypeId} {x y:Operand} (ho:o.op=.makeSlice T x y):D3 E.P B o a w (n6 E o s):=by
 have he:execOp a.eval o=(do pure (.value (← Instr.makeSlice T (a.eval x) (a.eval y)))):=by simp [execOp,ho]
 unfold n6
 rw [ho]
 simp only
 split
 ·exact b6t hE h ho
 split
 ·rename_i t bts d k n k' m hT hd hx hy
  refine D3.a4t (fun v s' hl hp=>?_)
  have hn0:@LE.le Int Int.instLEInt 0 n:=hp.1
  have hnm:@LE.le Int Int.instLEInt n m:=hp.2.1
  have hmb:@LE.le Int Int.instLEInt m 140737488355328:=hp.2.2.1
  obtain ⟨hxv,_⟩:=VX.F8 (x8 h hx)
  obtain ⟨hyv,_⟩:=VX.F8 (x8 h hy)
  have hty:=p9 hE hT
  obtain ⟨et,k2,h1,h2,h3⟩:=E5 hty
  obtain ⟨i,hi,hisz,hiz⟩:=Q9 h3
  have hib:=a2N h3 hi
  obtain ⟨M,rfl⟩:∃ M:Nat,m=((M:Nat):Int):=⟨Int.toNat m,(Int.toNat_of_nonneg (Int.le_trans hn0 hnm)).symm⟩
  obtain ⟨N,rfl⟩:∃ N:Nat,n=((N:Nat):Int):=⟨Int.toNat n,(Int.toNat_of_nonneg hn0).symm⟩
  have hbytes:((t.wb:Nat):Int)*(M:Int)≤281474976710656:=by
   have:=hp.2.2.2
   have e:((M:Nat):Int)*(t.wb:Nat)=(t.wb:Nat)*(M:Nat):=Int.mul_comm _ _
   have:@LE.le Int Int.instLEInt (((M:Nat):Int)*(t.wb:Nat)) 140737488355328:=hp.2.2.2
   rw [e] at this
   omega
  have hzz:(j7 t (zc t)).cells=(zc t).toArray:=(f7.o7 (H:=w.heap) (S:=S) t).cells
  have hw1:IntKind.i64.wrap (M:Int)=(M:Int):=K7 (by unfold q9; simp [IntKind.min,IntKind.max,IntKind.signed,IntKind.bits]; omega)
  have hw2:IntKind.i64.wrap (N:Int)=(N:Int):=K7 (by unfold q9; simp [IntKind.min,IntKind.max,IntKind.signed,IntKind.bits]; omega)
  have hrun:(Instr.makeSlice T (a.eval x) (a.eval y)).run E.P w=.ok (.slice (some ⟨w.heap.size,0,none⟩) N M) (C6 w (.cells (List.replicate M (zc t)).flatten.toArray et)):=by
   rw [hxv,hyv]
   have c1:¬ ((M:Int)<0):=by omega
   have c2:¬ ((N:Int)<0):=by omega
   have c3:¬ ((M:Int)<(N:Int)):=by omega
   have c4:¬ (281474976710656<((t.wb:Nat):Int)*(M:Int)):=by omega
   by_cases h0:M*t.size=0
   ·have:M=0:=by rcases Nat.mul_eq_zero.1 h0 with h|h<;>omega
    subst this
    have hN:N=0:=by omega
    subst hN
    simp only [Instr.makeSlice,Sem.run_bind,n9 h1,Result.andThen,a56,typeInfo,hw1]
    have r0:Array.range 0=(#[]:Array Nat):=rfl
    simp [run_sizeOf h3,newRow,newObj,Sem.run,C6,Result.andThen,hi,r0]
   ·have hq:=a4M (zc t) M
    rw [I3] at hq
    simp only [Instr.makeSlice,Sem.run_bind,n9 h1,Result.andThen,a56,typeInfo,hw1,hw2]
    simp [c1,c2,c3,c4,run_sizeOf h3,h0,a06 h3,hzz,Result.andThen,newRow,newObj,Sem.run,C6,hi,hib]
    congr 2
    rw [← hq]
    apply Array.ext'
    simp [I3]
  have hd':=h.s7 (g:=[]) rfl
  obtain ⟨O2,k1,k2',k3⟩:=a7f (cap:=M) h.hs.slt (O:=[]) (l:=List.replicate N t.o7) (cells:=(List.replicate M (zc t)).flatten) (by
   have e:(List.replicate M (zc t)).flatten=(List.replicate N (zc t)).flatten++(List.replicate (M - N) (zc t)).flatten:=by
    rw [← List.flatten_append,List.replicate_append_replicate]; congr 2; omega
   rw [e,List.take_left' (by simp [I3])]
   exact i7.b2F N) (by simp; omega) (by unfold maxLen; omega) (by simp [I3]) et (by simp)
  have hp':y8 [] w (C6 w (.cells (List.replicate M (zc t)).flatten.toArray et)):=y8.push _
  exact u6.lay hl (Q6 he hrun) (by simp [j7,Ty.agg]) k1 (hd'.V7 C9.nil hp') (C9.new hd' C9.nil hp' (by simp [C6]) k2' (k3 List.nodup_nil))
 ·trivial

end
end Go.Ex

namespace Go.Ex

section
variable {E:Env} {B:D4} {S S':Nat→Prop} {ι:Ix} {s:St} {a:Act} {w:World} {hp:List (Nat×g8)} {H H':Array Go.Obj}

theorem c2r:∀ {t:Ty} {x:t.den} {p:List Step} {u:Ty} {y:u.den} {r:Sigma Ty.den},r9 t x p u y=some r→a5k p=false→r.1=t:=by
 intro t
 induction t with
 | pair a c iha ihc =>
  intro x p u y r h hf
  match p,h,hf with
  | [],_,hf=>cases hf
  | .l7 0::p,h,hf =>
   simp only [r9] at h
   split at h
   ·rename_i t' w hw; cases h; exact congrArg (Ty.pair · c) (iha (r:=⟨t',w⟩) hw hf)
   ·cases h
  | .l7 (n+1)::p,h,hf =>
   simp only [r9] at h
   split at h
   ·rename_i t' w hw; cases h; exact congrArg (Ty.pair a) (ihc (r:=⟨t',w⟩) hw hf)
   ·cases h
  | .idx i::p,h,_=>simp [r9] at h
 | arr n t ih =>
  intro x p u y r h hf
  match p,h,hf with
  | [],_,hf=>cases hf
  | .idx i::p,h,_ =>
   simp only [r9] at h
   split at h
   ·split at h
    ·cases h; rfl
    ·cases h
   ·cases h
  | .l7 i::p,h,_=>simp [r9] at h
 | d0 o t ih =>
  intro x p u y r h hf
  match p,h,hf with
  | [],_,hf=>cases hf
  | .idx i::p,h,_ =>
   cases o with
   | false=>simp [r9] at h
   | true =>
    simp only [r9] at h
    split at h
    ·split at h
     ·cases h; rfl
     ·cases h
    ·cases h
  | .l7 i::p,h,_=>cases o<;>simp [r9] at h
 | _ =>
  intro x p u y r h hf
  match p,h,hf with
  | [],_,hf=>cases hf
  | .idx i::p,h,_=>simp [r9] at h
  | .l7 i::p,h,_=>simp [r9] at h

theorem OB.a0E {i:Nat} {e:g8} (ho:OB H S ι i e) (he:e≠.I9) (hS:∀ c,S c→c<H.size) {p:List Step} (hok:w4 e.ty e.x p) {u:Ty} {y:u.den} (hg:j6 e.ty e.x p=some ⟨u,y⟩) {b off:Nat} (hl:Loc H ι i e p=some (b,off))
  {Op:List Nat} (hR2:f7 H S u Op (d8 H b off u.size) y):b∉Op:=by
 obtain ⟨h1,h2⟩:=y9 hl
 obtain ⟨O,hO,hR,hb,hnd,hlt,hns,hfr⟩:=ho.see he hS
 obtain ⟨O1,O2,b',off',e1,e2,e3,e4,e5,e6⟩:=focus hR hb hok hg
 rw [F7 he,e3] at h1; cases h1
 have hm:∀ c,c∈O1∨c∈O2→c∈ι.own i:=fun c hc=>hO.mem_iff.1 (e1.mem_iff.2 (by simpa using hc))
 have hlt2:∀ c∈O2,c<H.size:=fun c hc=>ho.P6 he (hm c (.inr hc))
 have k:=(Z1 (e:=e) (ι:=ι) (i:=i) hlt2 hS).1 e4
 rw [l4 (E8 h2)] at k
 have hd:=f7.det k hR2
 subst hd
 rcases e6 with ⟨rfl,_⟩|⟨g1,_⟩
 ·intro hb; exact (List.nodup_cons.1 hnd).1 (hm _ (.inr hb))
 ·intro hb
  have:=(e1.nodup_iff).1 ((hO.nodup_iff).2 (List.nodup_cons.1 hnd).2)
  exact (List.nodup_append.1 this).2.2 _ g1 _ hb rfl

theorem c3b {d i:Nat}:∀ {v:AV},v.i6 d=false→(v.drop i).i6 d=false:=by
 intro v
 induction v with
 | cons a b iha ihb=>intro h; simp only [AV.i6,Bool.or_eq_false_iff] at h; simp only [AV.drop,AV.map,AV.i6,Bool.or_eq_false_iff]; exact ⟨iha h.1,ihb h.2⟩
 | J6 l ih=>intro h; exact ih h
 | B8 f l ih=>intro h; exact ih h
 | bx l ih=>intro h; exact ih h
 | rc f l ih=>intro h; exact ih h
 | ptr j p=>intro h; simp only [AV.drop,AV.map]; split<;>first|rfl|exact h
 | at_ j p=>intro h; simp only [AV.drop,AV.map]; split<;>first|rfl|exact h
 | sub j p x y=>intro h; simp only [AV.drop,AV.map]; split<;>first|rfl|exact h
 | _=>intro h; rfl

theorem a3n {d:Nat}:∀ {g:List Nat} {s:St},Y4 d s.fr=true→Y4 d (St.s7 g s).fr=true
 | [],_,h=>h
 | i::g,s,h=>a3n (g:=g) (s:=s.drop i) (by
  simp only [St.drop]
  generalize s.fr=fr at h
  induction fr with
  | nil=>rfl
  | cons q l ih =>
   obtain ⟨n,v⟩:=q
   simp only [Y4,Bool.and_eq_true,Bool.not_eq_true'] at h
   simp only [mapA,Y4,Bool.and_eq_true,Bool.not_eq_true']
   exact ⟨c3b h.1,ih h.2⟩)

theorem c3E:∀ {t:Ty} {p:List Step} {b off:Nat} {G:Array Go.Obj} {r:Nat×Nat},a5k p=true→w7 G t p b off=some r→r.1=b:=by
 intro t
 induction t with
 | pair a c iha ihc =>
  intro p b off G r h hn
  match p,h,hn with
  | [],_,hn=>rw [w8] at hn; cases hn; rfl
  | .l7 0::p,h,hn=>exact iha (p:=p) h hn
  | .l7 (n+1)::p,h,hn=>exact ihc (p:=.l7 n::p) h hn
  | .idx i::p,h,_=>cases h
 | d0 o t ih =>
  intro p b off G r h hn
  match p,h,hn with
  | [],_,hn=>rw [w8] at hn; cases hn; rfl
  | .l7 i::p,_,hn=>cases o<;>simp [w7] at hn
  | .idx i::p,h,_=>cases h
 | _ =>
  intro p b off G r h hn
  match p,h,hn with
  | [],_,hn=>rw [w8] at hn; cases hn; rfl
  | .l7 i::p,_,hn=>simp [w7] at hn
  | .idx i::p,h,_=>cases h

theorem c4Y {i:Nat} {e:g8} {p:List Step} {r:Nat×Nat} (hl:Loc H ι i e p=some r) (he:e.W4=true):a5k p=false:=by
 obtain ⟨h1,h2⟩:=y9 (b:=r.1) (off:=r.2) hl
 cases hf:a5k p with
 | false=>rfl
 | true =>
  exfalso
  cases e with
  | own t x =>
   rw [F7 (by simp)] at h1
   have:=c3E hf h1
   simp only [VR] at this
   omega
  | _=>cases he

theorem a1i (hE:C2 E B) (h:RS B S ι s a w) {o:Oper} {T:TypeId} {x y:Operand} (ho:o.op=.store T x y) {i:Nat} {e:g8} (h1:look i s.hp=some e) {p:List Step} (h2:w4 e.ty e.x p) {b off:Nat} (h3:Loc w.heap ι i e p=some (b,off)) (h4:a.eval x=.pointer (some ⟨b,off,none⟩))
  {u:Ty} {y0:u.den} (hg:j6 e.ty e.x p=some ⟨u,y0⟩) (hck:I0 E T u=true) {u':Ty} {z:u'.den} {O2:List Nat} {cs:List Value} {r:Sigma Ty.den}
  (hz:f7 w.heap S u' O2 cs z) (hnd:O2.Nodup) (hey:a.eval y=j7 u' cs) (hset:r9 e.ty e.x p u' z=some r)
  (hO2:∀ c∈O2,(¬ S c∧(B.w0.heap.size≤c∨B.M c)∧c<w.heap.size)∧(∀ j ej,j≠i→look j s.hp=some ej→c∉l6 ι j ej)∧(c∈l6 ι i e→∃ Op,f7 w.heap S u Op (d8 w.heap b off u.size) y0∧c∈Op)) (hbO:b∉O2) :
  u6 E.P B o a w (.raw undef) ((s.kill i e.kd p).s8 i (e.D6 r)):=by
 intro next Q hn
 obtain ⟨Op,m1,mn,m2,m3,m4,m5⟩:=N2 (K3 h3) (h.hs.ob i e h1) h.hs.slt h2 hg h3
 have hsh:=a3R hg hset
 have hnS:¬ S b:=(h.hs.bl i e h1 b m4).1
 obtain ⟨ι',hrs⟩:=h.store h1 h2 hg h3 (u':=u') (z:=z) (cs:=cs) (O2:=O2) (fun H' hsz hc=>hz.r7 (fun c hc'=>hc.rest c (by
   rintro rfl
   rcases hc' with hc'|hc'
   ·exact hbO hc'
   ·exact hnS hc') (by
   rcases hc' with hc'|hc'
   ·exact (hO2 c hc').1.2.2
   ·exact h.hs.slt c hc')) (fun _ h=>h)) (by rw [hz.length,E3 hsh]) hnd hO2 hset (fun how _=>c2r hset (c4Y h3 how))
 unfold Oper.wp
 have hrun:(execOp a.eval o).run E.P w=.ok .skip (w.setRow b (over (s5 w.heap b) off cs).toArray):=by
  simp [execOp,ho,h4,hey,Instr.storeAt,Instr.sureAddr,a52 (C1 hE hck) hsh m5 hz]
 rw [hrun]
 exact hn S ι' _ undef hrs rfl

theorem a8q:∀ t:Ty,t.a0v.sh=t.sh:=by
 intro t
 induction t with
 | pair a b iha ihb=>simp only [Ty.a0v,Ty.sh,iha,ihb]
 | d0 o t ih=>cases o<;>rfl
 | _=>rfl

theorem f7.a0v {H:Array Go.Obj} {S:Nat→Prop}:∀ {u:Ty} {O:List Nat} {cs:List Value} {y:u.den},f7 H S u O cs y→u.a0v.shared=true→f7 H S u.a0v [] cs (b2L u y):=by
 intro u
 induction u with
 | pair a b iha ihb =>
  rintro O cs y ⟨O1,O2,rfl,h1,h2⟩ hs
  simp only [Ty.a0v,Ty.shared,Bool.and_eq_true] at hs
  have ea:a.a0v.size=a.size:=E3 (a8q a)
  have eb:b.a0v.size=b.size:=E3 (a8q b)
  exact ⟨[],[],rfl,by rw [ea]; exact iha h1 hs.1,by rw [ea]; exact ihb h2 hs.2⟩
 | d0 o t ih =>
  intro O cs y h hs
  cases o with
  | true =>
   rcases h with ⟨_,⟨a,c,rfl,_⟩,_⟩|⟨b,off,cap,O',rfl,_⟩
   ·exact ⟨rfl,_,rfl,rfl⟩
   ·exact ⟨rfl,_,rfl,rfl⟩
  | false =>
   have hn:=h.J5 hs
   subst hn; exact h
 | arr n t ih =>
  intro O cs y h hs
  have hn:=h.J5 hs
  subst hn; exact h
 | map o k v =>
  intro O cs y h hs
  have hn:=h.J5 hs
  subst hn; exact h
 | box o g t =>
  intro O cs y h hs
  have hn:=h.J5 hs
  subst hn; exact h
 | _ =>
  intro O cs y h hs
  have hn:=h.J5 hs
  subst hn; exact h

theorem c1e {H:Array Go.Obj} {S:Nat→Prop} {u:Ty} {q:Sigma Ty.den} {O:List Nat} {cs:List Value} (h:f7 H S q.1 O cs q.2):f7 H S (a2U u q).1 O cs (a2U u q).2∧(a2U u q).1.agg=q.1.agg∧(a2U u q).1.size=q.1.size:=by
 obtain ⟨t,z⟩:=q
 cases u with
 | w5 a =>
  cases t with
  | d0 o b =>
   by_cases e:b=a
   ·subst e
    cases o with
    | false=>rw [show a2U (.w5 b) ⟨.d0 false b,z⟩=⟨.w5 b,(0,z,[])⟩ from dif_pos rfl]; exact ⟨h,rfl,rfl⟩
    | true=>rw [show a2U (.w5 b) ⟨.d0 true b,z⟩=⟨.w5 b,(1,z,[])⟩ from dif_pos rfl]; exact ⟨h,rfl,rfl⟩
   ·cases o with
    | false=>rw [show a2U (.w5 a) ⟨.d0 false b,z⟩=⟨.d0 false b,z⟩ from dif_neg e]; exact ⟨h,rfl,rfl⟩
    | true=>rw [show a2U (.w5 a) ⟨.d0 true b,z⟩=⟨.d0 true b,z⟩ from dif_neg e]; exact ⟨h,rfl,rfl⟩
  | _=>exact ⟨h,rfl,rfl⟩
 | _=>exact ⟨h,rfl,rfl⟩

theorem b1v {H:Array Go.Obj} {S:Nat→Prop}:∀ {u:Ty} {q:Sigma Ty.den} {O:List Nat} {cs:List Value},f7 H S q.1 O cs q.2→f7 H S (U9 u q).1 O cs (U9 u q).2∧(U9 u q).1.agg=q.1.agg∧(U9 u q).1.size=q.1.size:=by
 intro u
 induction u with
 | w5 a=>intro q O cs h; exact c1e h
 | pair a b iha ihb =>
  rintro ⟨t,z⟩ O cs h
  cases hm:a.b0v || b.b0v with
  | false =>
   have:U9 (.pair a b) ⟨t,z⟩=⟨t,z⟩:=by simp only [U9,hm]
   rw [this]; exact ⟨h,rfl,rfl⟩
  | true =>
   cases t with
   | pair c d =>
    have e:U9 (.pair a b) ⟨.pair c d,z⟩=⟨.pair (U9 a ⟨c,z.1⟩).1 (U9 b ⟨d,z.2⟩).1,((U9 a ⟨c,z.1⟩).2,(U9 b ⟨d,z.2⟩).2)⟩:=by
     simp only [U9,hm]
    rw [e]
    obtain ⟨O1,O2,rfl,h1,h2⟩:=h
    obtain ⟨k1,_,k3⟩:=iha (q:=⟨c,z.1⟩) h1
    obtain ⟨m1,_,m3⟩:=ihb (q:=⟨d,z.2⟩) h2
    have k3:(U9 a ⟨c,z.1⟩).1.size=c.size:=k3
    have m3:(U9 b ⟨d,z.2⟩).1.size=d.size:=m3
    refine ⟨⟨O1,O2,rfl,?_,?_⟩,rfl,?_⟩
    ·rw [k3]; exact k1
    ·rw [k3]; exact m1
    ·simp only [Ty.size,k3,m3]
   | _ =>
    have:∀ r:Sigma Ty.den,r=⟨_,z⟩→U9 (.pair a b) r=r:=by
     rintro r rfl
     simp only [U9,hm]
    rw [this _ rfl]; exact ⟨h,rfl,rfl⟩
 | _=>intro q O cs h; exact ⟨h,rfl,rfl⟩

theorem c2Y {H:Array Go.Obj} {S:Nat→Prop} {u:Ty} {q:Sigma Ty.den} {O:List Nat} {cs:List Value} (h:f7 H S q.1 O cs q.2):f7 H S (U9 u q).1 O cs (U9 u q).2∧(U9 u q).1.agg=q.1.agg :=
 ⟨(b1v h).1,(b1v h).2.1⟩

theorem b3c (hE:C2 E B) (h:RS B S ι s a w) {o:Oper} {T:TypeId} {x y:Operand} (ho:o.op=.store T x y) {i:Nat} {p:List Step} (hx:s.ev x=.ptr i p):D3 E.P B o a w (a0h E T i p (s.ev y) s):=by
 obtain ⟨e,b,off,h1,h2,h3,h4⟩:=x8 h hx
 have h4:a.eval x=.pointer (some ⟨b,off,none⟩):=by simpa using h4
 unfold a0h
 split
 ·trivial
 ·rename_i e' hob
  obtain rfl:=a0l h1 hob
  split
  ·trivial
  ·rename_i u y0 hg
   obtain ⟨Op,m1,mn,m2,m3,m4,m5⟩:=N2 (K3 h3) (h.hs.ob i e' h1) h.hs.slt h2 hg h3
   split
   ·trivial
   ·rename_i hck
    split
    ·rename_i hy
     have hvy:=x8 h hy
     split
     ·rename_i o' u' _
      split
      ·rename_i r hset
       refine a1i hE h ho h1 h2 h3 h4 hg hck (u':=.d0 o' u') (z:=([]:List u'.den)) (O2:=[]) (cs:=[.slice none 0 0]) (.inl ⟨rfl,⟨none,0,rfl,fun _=>rfl⟩,rfl⟩) List.nodup_nil ?_ hset (by simp) (by simp)
       have:[a.eval y]=[Value.slice none 0 0]:=hvy
       simpa [j7,Ty.agg] using this
      ·trivial
     ·rename_i a' _
      split
      ·rename_i r hset
       refine a1i hE h ho h1 h2 h3 h4 hg hck (u':=.w5 a') (z:=(1,([],[]))) (O2:=[]) (cs:=[.slice none 0 0]) (.inl ⟨rfl,⟨none,0,rfl,fun _=>rfl⟩,rfl⟩) List.nodup_nil ?_ hset (by simp) (by simp)
       have:[a.eval y]=[Value.slice none 0 0]:=hvy
       simpa [j7,Ty.agg] using this
      ·trivial
     ·trivial
    ·rename_i j q lo hi hy
     split
     ·rename_i u' y1
      split
      ·rename_i r hset
       split
       ·rename_i hij
        have hij:=Nat.eq_of_beq_eq_true hij
        subst hij
        rintro ⟨rfl,_⟩
        obtain ⟨e2,v2,k1,k2,k3,k4,k5,k6⟩:=x8 h hy
        rw [h1] at k1; cases k1
        rcases k6 with ⟨t',l,A,cap,q1,q2,q3,q4⟩|⟨n,t',l,b2,off2,q1,_⟩
        ·rw [hg] at q1; cases q1
         obtain ⟨b0,off0,r1,r2⟩:=q3
         obtain ⟨r3,r4⟩:=y9 h3
         rw [r3] at r1; cases r1
         rw [l4 (E8 r4)] at r2
         have m2':f7 w.heap S (.d0 true u') Op [.slice A (List.length y1) cap] y1:=by rw [r2]; exact m2
         obtain ⟨O,cs,g1,g2,g3,g4⟩:=b7d m2' mn k4 k5 q2 q4
         have k3:a.eval y=v2:=by simpa using k3
         refine a1i hE h ho h1 h2 h3 h4 hg hck (u':=.d0 true u') (z:=n7 lo hi y1) g2 g3 (by rw [k3,g1]) hset (fun c hc=>?_) ?_
         ·have hcm:=m1 c (g4 c hc)
          exact ⟨h.hs.bl i e' h1 c (F5 hcm),fun j ej hj hlj=>h.hs.dj i j e' ej h1 hlj (Ne.symm hj) c (F5 hcm),fun _=>⟨Op,m2,g4 c hc⟩⟩
         ·intro hb
          have:=(h.hs.ob i e' h1).a0E (K3 h3) h.hs.slt h2 hg h3 m2
          exact this (g4 b hb)
        ·rw [hg] at q1; cases q1
       ·trivial
      ·trivial
     ·trivial
    ·rename_i xv _ _
     split
     ·rename_i q g hgv
      split
      ·rename_i r hset
       split
       ·rename_i hgc
        simp only [Bool.and_eq_true,Bool.not_eq_true'] at hgc
        obtain ⟨⟨hgi,hgn⟩,hgp⟩:=hgc
        have hgi:i∉g:=by
         intro hm
         simp [hm] at hgi
        obtain ⟨O2,cs,k1,k2,k3,k4⟩:=a3Q h.hs (t:=q.1) (x:=q.2) hgv (h.ev y)
        obtain ⟨k2,kf⟩:=c2Y (u:=u) k2
        rw [← a7b kf] at k1
        have hd:=h.s7 (g:=g) hgp
        have hl1:look i (St.s7 g s).hp=some e':=by rw [H5,if_neg hgi]; exact h1
        have hne:∀ c∈O2,∀ j ej,j∉g→look j s.hp=some ej→c∉l6 ι j ej:=by
         intro c hc j ej hj hlj
         obtain ⟨j2,e2,q1,q2,q3⟩:=k4 c hc
         exact h.hs.dj j2 j e2 ej q2 hlj (by rintro rfl; exact hj q1) c q3
        refine a1i hE hd ho hl1 h2 h3 h4 hg hck k2 k3 k1 hset (fun c hc=>?_) (fun hb=>hne b hb i e' hgi h1 m4)
        obtain ⟨j2,e2,q1,q2,q3⟩:=k4 c hc
        refine ⟨h.hs.bl j2 e2 q2 c q3,fun j ej hj hlj=>?_,fun hci=>absurd hci (hne c hc i e' hgi h1)⟩
        rw [H5] at hlj
        split at hlj
        ·cases hlj
        ·rename_i hjg; exact hne c hc j ej hjg hlj
       ·trivial
      ·trivial
     ·split
      ·rename_i j q hy
       split
       ·rename_i u' y' hpt
        split
        ·rename_i r hset
         split
         ·rename_i hc
          simp only [Bool.and_eq_true] at hc
          obtain ⟨e2,u2,y2,cs,k1,k2,k3,k4,k5⟩:=x8 h hy
          have hg2:=G3 k1 hpt
          rw [k3] at hg2; cases hg2
          obtain ⟨O2,g1,_,g2⟩:=F0 h.hs k1 k2 k3 k4
          exact a1i hE h ho h1 h2 h3 h4 hg hck (g2.a0v hc.1.1) List.nodup_nil (by rw [b3a (a8q _)]; simpa using k5) hset (by simp) (by simp)
         ·trivial
        ·trivial
       ·trivial
      ·trivial

theorem c1D (_hE:C2 E B) (h:RS B S ι s a w) {o:Oper} {T:TypeId} {x:Operand} (ho:o.op=.box T x):D3 E.P B o a w (n6 E o s):=by
 unfold n6
 rw [ho]
 simp only
 split
 ·rename_i t d ht hd
  split
  ·rename_i hf
   have core:∀ {u:Ty} {y:u.den} {O:List Nat} {cs:List Value} {g:List Nat},f7 w.heap S u O cs y→a.eval x=j7 u cs→(g.all fun i=>!pinned i)=true→d∉g→C9 B S ι (St.s7 g s).hp w O→u6 E.P B o a w (.ptr d []) ((St.s7 g s).s8 d (.var u y)):=by
    intro u y O cs g hR e hg hdg hF next Q hn
    unfold Oper.wp
    have:(execOp a.eval o).run E.P w=.ok (.value (.pointer (some ⟨w.heap.size,0,none⟩))) (C6 w (.cells cs.toArray T)):=by
     simp [execOp,ho,Instr.box,e,newVar,newRow,newObj,Sem.run,C6,hR.cells]
    rw [this]
    have hfd:(St.s7 g s).fresh d=true:=by
     obtain ⟨f1,f2⟩:=a3S hf
     simp only [St.fresh,Bool.and_eq_true,Option.isNone_iff_eq_none]
     refine ⟨by rw [H5]; split<;>first|rfl|exact f1,?_⟩
     exact a3n (by simp only [St.fresh,Bool.and_eq_true] at hf; exact hf.2)
    exact hn S _ _ _ ((h.s7 hg).alloc hfd hR hF T) (b0n (by simp [C6]))
   split
   ·rename_i u y g hgv
    split
    ·rename_i hs
     split
     ·rename_i hgc
      simp only [Bool.and_eq_true,Bool.not_eq_true'] at hgc
      obtain ⟨⟨hgn,hgd⟩,hgp⟩:=hgc
      obtain ⟨O2,cs,k1,k2,k3,k4⟩:=a3Q h.hs hgv (h.ev x)
      exact core k2 k1 hgp (by intro hm; simp [hm] at hgd) (C9.s7 h.hs k3 k4)
     ·trivial
    ·trivial
   ·split
    ·rename_i o' u hx _
     have hv:[a.eval x]=[Value.slice none 0 0]:=x8 h hx
     exact core (g:=[]) (cs:=[.slice none 0 0]) (u:=.d0 o' u) (y:=([]:List u.den)) (O:=[]) (.inl ⟨rfl,⟨none,0,rfl,fun _=>rfl⟩,rfl⟩) (by simpa [j7,Ty.agg] using hv) rfl (by simp) C9.nil
    ·rename_i i p o0 t0 hx _
     intro next Q hn
     obtain ⟨e,b,off,k1,k2,k3,k4⟩:=x8 h hx
     have k4:a.eval x=.pointer (some ⟨b,off,none⟩):=by simpa using k4
     unfold Oper.wp
     have:(execOp a.eval o).run E.P w=.ok (.value (.pointer (some ⟨w.heap.size,0,none⟩))) (C6 w (.cells #[.pointer (some ⟨b,off,none⟩)] T)):=by
      simp [execOp,ho,Instr.box,k4,newVar,newRow,newObj,Sem.run,C6,Value.cells]
     rw [this]
     have h1:=h.V7 C9.nil (y8.push (.cells #[.pointer (some ⟨b,off,none⟩)] T))
     have h2:=h1.share (S':=fun c=>S c∨c=w.heap.size) (fun _ h=>.inl h) (fun c hc=>by
      rcases hc with hc|rfl
      ·exact .inl hc
      ·exact .inr ⟨.inl h.hs.size,by simp [C6],fun j ej hj hb=>Nat.lt_irrefl _ (h.hs.bl j ej hj _ hb).2.2⟩)
     have hb:s5 (C6 w (.cells #[.pointer (some ⟨b,off,none⟩)] T)).heap w.heap.size=[.pointer (some ⟨b,off,none⟩)]:=by
      simp only [s5,C6,Array.getElem?_push_size]
     refine hn _ _ _ _ h2 ⟨w.heap.size,0,.pointer (some ⟨b,off,none⟩),rfl,.inr rfl,by rw [hb]; simp,by rw [d8,hb]; rfl,?_⟩
     have h3:=h2.ev x
     rw [hx,k4] at h3
     exact h3
    ·trivial
  ·trivial
 ·trivial

end
end Go.Ex

namespace Go.Ex

section
variable {E:Env} {B:D4} {S S':Nat→Prop} {ι:Ix} {s:St} {a:Act} {w:World} {hp:List (Nat×g8)} {H H':Array Go.Obj}

theorem a7Y {P:Program} {k:Nat} {T U:TypeId} {t:Ty} (hT:n8 P k T (.d0 true t)=true) (ty:TypeId) (hS:∀ c,S c→c<w.heap.size)
  {base:Option Addr} {cap:Nat} {l m:List t.den} {O1 Og:List Nat} {x:Value} {olds news:List Value}
  (hold:(Builtin.firstCells t.size l.length (.slice base l.length cap)).run P w.drew=.ok olds.toArray w.drew) (hL:i7 (f7 w.heap S t) t.size O1 olds l)
  (hs:Src P t.size U x m.length news w) (hN:i7 (f7 w.heap S t) t.size Og news m) (hnd:(O1++Og).Nodup) (hO:∀ c∈O1++Og,c<w.heap.size)
  (hcap:cap<l.length+m.length) (h63:l.length+m.length≤140737488355328) (hby:(l.length+m.length)*t.wb≤140737488355328) :
  ∃ v' w' O',(Builtin.append_ #[T,U] ty #[.slice base l.length cap,x]).run P w=.ok v' w'∧f7 w'.heap S (.d0 true t) O' [v'] (l++m)∧O'.Nodup∧y8 [] w w'∧w.heap.size<w'.heap.size∧∀ c∈O',(c=w.heap.size∨c∈O1++Og)∧c<w'.heap.size:=by
 obtain ⟨et,k2,h1,h2,h3⟩:=E5 hT
 obtain ⟨i,hi,hisz,hiz⟩:=Q9 h3
 have hib:=a2N h3 hi
 have hl1:olds.length=l.length*t.size:=i7.length (fun _ _ _ h=>h.length) hL
 have hl2:news.length=m.length*t.size:=i7.length (fun _ _ _ h=>h.length) hN
 have hge:=grownCap_ge w (l.length+m.length) cap et
 have hmax:=grownCap_le_maxLen w (l.length+m.length) cap et (by unfold maxLen; omega)
 have hzz:(j7 t (zc t)).cells=(zc t).toArray:=(f7.o7 (H:=w.heap) (S:=S) t).cells
 have hrun:=run_append_grow_src (P:=P) w T U ty et i (j7 t (zc t)) h1 hi hiz base l.length cap olds (by rw [hisz]; exact hold) x m.length news (by rw [hisz]; exact hs) hcap (by omega) (by rw [hib]; exact growslice_fits hcap hby)
 generalize hgc:grownCap w (l.length+m.length) cap et=gc at hrun hge hmax
 have hpast:y8 [] w (w.drew.alloc (.cells ((olds++news).toArray++Builtin.zeroCells (j7 t (zc t)).cells (gc - (l.length+m.length))) et)) :=
  y8.trans y8.drew (y8.push _) (by simp)
 have hcells:((olds++news).toArray++Builtin.zeroCells (j7 t (zc t)).cells (gc - (l.length+m.length)))=((olds++news)++(List.replicate (gc - (l.length+m.length)) (zc t)).flatten).toArray:=by
  rw [hzz,a1q]; simp
 rw [hcells] at hrun hpast
 have hlt:(l++m).length=l.length+m.length:=List.length_append
 obtain ⟨O',q1,q2,q3⟩:=a4Y (w:=w) (t:=t) (l:=l++m) (cap:=gc) hS (O:=O1++Og) (cells:=(olds++news)++(List.replicate (gc - (l.length+m.length)) (zc t)).flatten) (by
  rw [hlt,List.take_left' (by rw [List.length_append,hl1,hl2,Nat.add_mul])]
  exact i7.append (fun _ _ _ h=>h.length) hL hN) (by rw [hlt]; exact hge) hmax (by
  simp only [List.length_append,hl1,hl2,List.length_flatten,List.map_replicate,List.sum_replicate_nat,I3]
  rw [← Nat.add_mul,← Nat.add_mul]; exact Nat.mul_le_mul_right _ (by omega)) et hO (w':=w.drew.alloc (.cells ((olds++news)++(List.replicate (gc - (l.length+m.length)) (zc t)).flatten).toArray et)) rfl (.inl rfl)
 have hsz:(w.drew.alloc (.cells ((olds++news)++(List.replicate (gc - (l.length+m.length)) (zc t)).flatten).toArray et)).heap.size=w.heap.size+1:=by
  show (w.heap.push _).size=_
  simp
 refine ⟨_,_,O',hrun,?_,q3 hnd,hpast,by omega,fun c hc=>⟨q2 c hc,?_⟩⟩
 ·rw [hlt] at q1; exact q1
 ·rcases q2 c hc with rfl|h
  ·omega
  ·have:=hO c h; omega

theorem a7X {P:Program} {k:Nat} {T U:TypeId} {t:Ty} (hT:n8 P k T (.d0 true t)=true) (ty:TypeId)
  {b off cap:Nat} {l m:List t.den} {O1 Og:List Nat} {x:Value} {news:List Value}
  (hl:l.length≤cap) (hcm:cap≤maxLen) (hfree:Q8 t.isB w.heap b (off+cap*t.size)) (hL:i7 (f7 w.heap S t) t.size O1 (d8 w.heap b off (l.length*t.size)) l)
  (hs:Src P t.size U x m.length news w) (hN:i7 (f7 w.heap S t) t.size Og news m) (hnd:(b::O1++Og).Nodup) (hbS:¬ S b)
  (hroom:l.length+m.length≤cap) (h1c:1≤cap) :
  ∃ w',(Builtin.append_ #[T,U] ty #[.slice (some ⟨b,off,none⟩) l.length cap,x]).run P w=.ok (.slice (some ⟨b,off,none⟩) (l.length+m.length) cap) w' ∧
   T4 w.heap w'.heap b (off+l.length*t.size) news.length∧w'.heap.size=w.heap.size∧f7 w'.heap S (.d0 true t) (b::(O1++Og)) [.slice (some ⟨b,off,none⟩) (l.length+m.length) cap] (l++m)∧y8 [b] w w' ∧
   f7 w'.heap S (.d0 true t) (b::O1) [.slice (some ⟨b,off,none⟩) l.length cap] l:=by
 obtain ⟨et,k2,h1,h2,h3⟩:=E5 hT
 obtain ⟨i,hi,hisz,hiz⟩:=Q9 h3
 have hl2:news.length=m.length*t.size:=i7.length (fun _ _ _ h=>h.length) hN
 have hle:l.length*t.size+m.length*t.size≤cap*t.size:=by rw [← Nat.add_mul]; exact Nat.mul_le_mul_right _ hroom
 have hlt:(l++m).length=l.length+m.length:=List.length_append
 obtain ⟨arr,T',⟨fz,e,ef⟩,hn⟩:=hfree
 have hbl:s5 w.heap b=arr.toList:=by simp only [s5,e]
 have hst:=X7 (P:=P) b (off+l.length*t.size) T' fz news 0 arr w ⟨e,ef.imp id (·.2)⟩ (by omega) hs.one
 simp only [Nat.add_zero] at hst
 have hover:arr.toList.take (off+l.length*t.size)++news++arr.toList.drop (off+l.length*t.size+news.length)=over (s5 w.heap b) (off+l.length*t.size) news:=by rw [hbl]; rfl
 rw [hover] at hst
 have hrun:(Builtin.append_ #[T,U] ty #[.slice (some ⟨b,off,none⟩) l.length cap,x]).run P w=.ok (.slice (some ⟨b,off,none⟩) (l.length+m.length) cap) (w.setRow b (over (s5 w.heap b) (off+l.length*t.size) news).toArray):=by
  rw [← hisz] at hs hst ⊢
  rcases hs.kind with ⟨e',hk⟩|hk<;>simp [Builtin.append_,run_underlying h1,run_underlying hk,sizeOf,typeInfo,hi,hs.len,hroom,hs.cells,Addr.add_lit,hst]
 obtain ⟨hc,hcs⟩:=a3E (w:=w) (b:=b) (off:=off+l.length*t.size) (cs:=news) ⟨arr,T',⟨fz,e,ef.imp id (·.2)⟩,by omega⟩
 have hblt:b<w.heap.size:=(Array.getElem?_eq_some_iff.1 e).1
 have hndb:=(List.nodup_cons.1 (by simpa using hnd:(b::(O1++Og)).Nodup))
 have hold:d8 (w.setRow b (over (s5 w.heap b) (off+l.length*t.size) news).toArray).heap b off (l.length*t.size)=d8 w.heap b off (l.length*t.size):=hc.cells hblt (fun _=>.inl (Nat.le_refl _))
 have hst:∀ {O:List Nat} {cs:List Value} {y:t.den},(∀ c∈O,c∈O1++Og)→f7 w.heap S t O cs y→f7 (w.setRow b (over (s5 w.heap b) (off+l.length*t.size) news).toArray).heap S t O cs y:=by
  intro O cs y hO hr
  refine hr.r7 (fun c hcc=>setRow_other ?_) (fun _ h=>h)
  intro hcb
  rw [hcb] at hcc
  rcases hcc with h|h
  ·exact hndb.1 (hO _ h)
  ·exact hbS h
 have hfr:Q8 t.isB (w.setRow b (over (s5 w.heap b) (off+l.length*t.size) news).toArray).heap b (off+cap*t.size):=hc.b8L ⟨arr,T',⟨fz,e,ef⟩,hn⟩
 refine ⟨_,hrun,hc,setRow_size,?_,⟨rfl,.of rfl rfl,rfl,by rw [setRow_size]; exact Nat.le_refl _,fun c hcl hcb=>setRow_other (by simpa using hcb)⟩,?_⟩
 rotate_left
 ·refine .inr ⟨b,off,cap,O1,rfl,hl,⟨hcm,fun _=>h1c⟩,?_,?_,rfl,hfr⟩
  ·have:=hfr.free.s5
   have:=Nat.mul_le_mul_right t.size hl
   omega
  ·rw [hold]
   exact i7.mono (L:=O1) (fun _ h=>h) (fun O cs y hO hr=>hst (fun c hc=>by simp [hO c hc]) hr) hL
 refine .inr ⟨b,off,cap,O1++Og,by rw [hlt],by rw [hlt]; exact hroom,⟨hcm,fun _=>h1c⟩,?_,?_,rfl,hfr⟩
 ·have:=hfr.free.s5
  rw [hlt,Nat.add_mul]; omega
 ·rw [hlt,Nat.add_mul,a2d,hold,← hl2,hcs]
  exact i7.append (fun _ _ _ h=>h.length) (i7.mono (L:=O1) (fun _ h=>h) (fun O cs y hO hr=>hst (fun c hc=>by simp [hO c hc]) hr) hL) (i7.mono (L:=Og) (fun _ h=>h) (fun O cs y hO hr=>hst (fun c hc=>by simp [hO c hc]) hr) hN)

theorem a9V {P:Program} {k:Nat} {T U:TypeId} {t:Ty} (hT:n8 P k T (.d0 true t)=true) (ty:TypeId) (hS:∀ c,S c→c<w.heap.size)
  {v:Value} {l m:List t.den} {Of Og:List Nat} {x:Value} {news:List Value}
  (hR:f7 w.heap S (.d0 true t) Of [v] l) (hs:Src P t.size U x m.length news w) (hN:i7 (f7 w.heap S t) t.size Og news m)
  (hnd:(Of++Og).Nodup) (hO:∀ c∈Of++Og,¬ S c∧c<w.heap.size)
  (h63:l.length+m.length≤140737488355328) (hby:(l.length+m.length)*t.wb≤140737488355328) :
  ∃ v' w' O',(Builtin.append_ #[T,U] ty #[v,x]).run P w=.ok v' w'∧f7 w'.heap S (.d0 true t) O' [v'] (l++m)∧O'.Nodup∧y8 Of w w'∧(∀ c∈O',(w.heap.size≤c∨c∈Of++Og)∧c<w'.heap.size)∧f7 w'.heap S (.d0 true t) Of [v] l ∧
   (y8 [] w w'∨∃ b off cap n,v=.slice (some ⟨b,off,none⟩) l.length cap∧l.length≤cap∧1≤cap∧T4 w.heap w'.heap b (off+l.length*t.size) n∧w'.heap.size=w.heap.size):=by
 have hR0:=hR
 rcases hR with ⟨rfl,⟨A,c,e,hc⟩,rfl⟩|⟨b,off,cap,O1,e,c2,c3,c4,c5,rfl,c7⟩
 ·obtain rfl:=hc rfl
  simp only [List.cons.injEq,and_true] at e
  subst e
  by_cases h0:m.length=0
  ·obtain rfl:m=[]:=List.length_eq_zero_iff.1 h0
   obtain ⟨rfl,rfl⟩:=hN
   obtain ⟨et,k2,h1,h2,h3⟩:=E5 hT
   obtain ⟨i,hi,hisz,hiz⟩:=Q9 h3
   refine ⟨.slice A 0 0,w,[],?_,.inl ⟨rfl,⟨A,0,rfl,fun _=>rfl⟩,rfl⟩,List.nodup_nil,⟨rfl,.refl _,rfl,Nat.le_refl _,fun _ _ _=>rfl⟩,by simp,hR0,.inl ⟨rfl,.refl _,rfl,Nat.le_refl _,fun _ _ _=>rfl⟩⟩
   rw [← hisz] at hs
   have hl0:=hs.len
   have hc0:=hs.cells
   simp only [List.length_nil] at hl0 hc0
   rcases hs.kind with ⟨e',hk⟩|hk<;>cases A<;>simp [Builtin.append_,run_underlying h1,run_underlying hk,sizeOf,typeInfo,hi,hl0,hc0,storeCells]
  ·obtain ⟨v',w',O',q1,q2,q3,q4,q5,q6⟩:=a7Y hT ty hS (base:=A) (cap:=0) (l:=([]:List t.den)) (olds:=[]) (O1:=[]) (by
    cases A with
    | none=>exact run_firstCells_none w.drew t.size 0 0 0
    | some A=>exact run_firstCells_some w.drew t.size 0 A 0 0 [] (by simp) (by simp)) ⟨rfl,rfl⟩ hs hN (by simpa using hnd) (fun c hc=>(hO c (by simpa using hc)).2) (by simp; omega) h63 hby
   exact ⟨v',w',O',q1,q2,q3,q4,fun c hc=>⟨(q6 c hc).1.imp (fun h=>by omega) (fun h=>by simpa using h),(q6 c hc).2⟩,hR0.r7 (fun c hc=>q4.frame c (hc.elim (fun h=>by cases h) (hS c)) (by simp)) (fun _ h=>h),.inl q4⟩
 ·simp only [List.cons.injEq,and_true] at e
  subst e
  by_cases hroom:l.length+m.length≤cap
  ·obtain ⟨w',q1,q2,q3,q4,q5,q6⟩:=a7X (S:=S) hT ty c2 c3.1 c7 c5 hs hN hnd (hO b (by simp)).1 hroom (c3.2 rfl)
   refine ⟨_,w',b::(O1++Og),q1,q4,by simpa using hnd,q5.mono (by simp),fun c hc=>⟨.inr (by simpa using hc),?_⟩,q6,.inr ⟨b,off,cap,news.length,rfl,c2,c3.2 rfl,q2,q3⟩⟩
   rw [q3]; exact (hO c (by simpa using hc)).2
  ·have hnd':(O1++Og).Nodup:=(List.nodup_cons.1 (by simpa using hnd:(b::(O1++Og)).Nodup)).2
   obtain ⟨v',w',O',q1,q2,q3,q4,q5,q6⟩:=a7Y hT ty hS (base:=some ⟨b,off,none⟩) (cap:=cap) (l:=l) (olds:=d8 w.heap b off (l.length*t.size)) (O1:=O1) (by
    refine run_firstCells_some w.drew t.size l.length _ l.length cap _ (a12 _ _ _ c4) (fun j u hu=>?_)
    rw [Addr.F6]; exact J8 hu) c5 hs hN hnd' (fun c hc=>(hO c (by simp at hc ⊢; exact .inr hc)).2) (by omega) h63 hby
   exact ⟨v',w',O',q1,q2,q3,q4.mono (by simp),fun c hc=>⟨(q6 c hc).1.imp (fun h=>by omega) (fun h=>by simp at h ⊢; exact .inr h),(q6 c hc).2⟩,hR0.r7 (fun c hc=>q4.frame c (hc.elim (fun h=>(hO c (List.mem_append_left _ h)).2) (hS c)) (by simp)) (fun _ h=>h),.inl q4⟩

theorem a5y {P:Program} (h:RS B S ι s a w) {v:AV} {t0:Ty} {U:TypeId} (hk:(∃ e',P.underlying U=some (.slice e'))∨P.underlying U=some .string) {t:Ty} {m:List t.den} {g:List Nat} {x:Value} (hx:v.a1e s t0=some (⟨t,m⟩,g)) (hv:VX w.heap S ι s.hp v [x]) :
  ∃ Og news,Src P t.size U x m.length news w∧i7 (f7 w.heap S t) t.size Og news m∧Og.Nodup∧∀ b∈Og,J9 ι s.hp g b:=by
 have src:∀ {A:Option Addr} {n c:Nat} {news:List Value},news.length=n*t.size→(n≠0→∃ b off,A=some ⟨b,off,none⟩∧news=d8 w.heap b off (n*t.size))→(∀ u∈news,u.oneCell'=true)→Src P t.size U (.slice A n c) n news w:=by
  intro A n c news hl hn h1
  by_cases h0:n=0
  ·subst h0
   have:news=[]:=List.length_eq_zero_iff.1 (by omega)
   subst this
   cases A with
   | none=>exact ⟨hk,fun _=>rfl,run_firstCells_none w _ 0 0 c,run_firstCells_none w.drew _ 0 0 c,by simp,fun _ h=>by cases h⟩
   | some A=>exact ⟨hk,fun _=>rfl,run_firstCells_some w _ 0 A 0 c [] (by simp) (by simp),run_firstCells_some w.drew _ 0 A 0 c [] (by simp) (by simp),by simp,fun _ h=>by cases h⟩
  ·obtain ⟨b,off,rfl,e⟩:=hn h0
   have hcell:∀ j u,news[j]?=some u→w.cell? ((⟨b,off,none⟩:Addr).add j)=some u:=by
    intro j u hu
    rw [Addr.F6]; rw [e] at hu; exact J8 hu
   exact ⟨hk,fun _=>rfl,run_firstCells_some w _ n _ n c news hl hcell,run_firstCells_some w.drew _ n _ n c news hl (by simpa using hcell),hl,h1⟩
 unfold AV.a1e at hx
 split at hx
 ·cases hx
  have hv':[x]=[Value.slice none 0 0]:=hv
  obtain rfl:x=.slice none 0 0:=by simpa using hv'
  exact ⟨[],[],src (by simp) (by simp) (by simp),⟨rfl,rfl⟩,List.nodup_nil,by simp⟩
 ·rename_i y
  cases hx
  obtain ⟨rfl,hm⟩:=VX.a1S hv
  refine ⟨[],byteCells ⟨y.toArray⟩,?_,?_,List.nodup_nil,by simp⟩
  ·have hl:(List.map (fun b:UInt8=>(b.toNat:Int)) y).length=(⟨y.toArray⟩:ByteArray).size:=by simp [ByteArray.size]
   have e:∀ w':World,(Builtin.firstCells 1 (⟨y.toArray⟩:ByteArray).size (.string ⟨y.toArray⟩)).run P w'=.ok (byteCells ⟨y.toArray⟩).toArray w':=firstCells_string _
   show Src P 1 U (.string ⟨y.toArray⟩) (List.map (fun b:UInt8=>(b.toNat:Int)) y).length (byteCells ⟨y.toArray⟩) w
   rw [hl]
   exact ⟨hk,fun _=>rfl,e w,e w.drew,by rw [byteCells_length,Nat.mul_one],fun u hu=>by
    obtain ⟨_,_,rfl⟩:=List.mem_map.1 hu
    rfl⟩
  ·simp only [byteCells]
   clear src hv hm
   induction y with
   | nil=>exact ⟨rfl,rfl⟩
   | cons c y ih=>exact ⟨[],[],rfl,⟨rfl,rfl,by simp only [q9,IntKind.min,IntKind.max,IntKind.signed,IntKind.bits]; have:=c.toNat_lt; simp; omega⟩,by simpa [Ty.size] using ih⟩
 ·split at hx
  ·cases hx
  ·rename_i t' l hels
   split at hx
   ·rename_i hsh
    cases hx
    obtain ⟨A,c,e,k⟩:=a7m h.hs hv hels
    subst e
    rcases k with rfl|⟨b,off,O',rfl,k1,k2,k3,k4⟩
    ·exact ⟨[],[],src (by simp) (by simp) (by simp),⟨rfl,rfl⟩,List.nodup_nil,by simp⟩
    ·have hO:O'=[]:=i7.J5 (fun _ _ _ hr=>f7.J5 hsh hr) k3
     subst hO
     exact ⟨[],_,src (i7.length (fun _ _ _ h=>h.length) k3) (fun _=>⟨b,off,rfl,rfl⟩) (i7.plain (fun _ _ _ hr=>hr.plain) k3 · · |>.1),k3,List.nodup_nil,by simp⟩
   ·split at hx
    ·rename_i u m' g' hgv
     cases hx
     obtain ⟨O,cs,k1,k2,k3,k4⟩:=a1a h.hs hgv hv
     rcases k2 with ⟨rfl,⟨A,c,rfl,hc⟩,rfl⟩|⟨b,off,cap,O',rfl,c2,c3,c4,c5,rfl,c7⟩
     ·have e:x=.slice A 0 c:=k1
      subst e
      exact ⟨[],[],src (by simp) (by simp) (by simp),⟨rfl,rfl⟩,List.nodup_nil,by simp⟩
     ·have e:x=.slice (some ⟨b,off,none⟩) (List.length m) cap:=k1
      subst e
      exact ⟨O',_,src (i7.length (fun _ _ _ h=>h.length) c5) (fun _=>⟨b,off,rfl,rfl⟩) (i7.plain (fun _ _ _ hr=>hr.plain) c5 · · |>.1),c5,(List.nodup_cons.1 k3).2,fun c hc=>k4 c (by simp [hc])⟩
    ·cases hx

theorem b9K (hE:C2 E B) (h:RS B S ι s a w) {o:Oper} {c:Call} (ho:o.op=.call c) (hc:c.callee=.builtin .append) {x y:Operand} {T U:TypeId} (ha:c.args.toList=[x,y]) (hTs:c.argTypes.toList=[T,U])
  {q:Bool} {t0:Ty} {bts d:Nat} (hT:look T E.tt=some ⟨.d0 q t0,bts⟩) {l m:List t0.den} {f g Of Og:List Nat} {v1:Value} {news:List Value} (hv1:a.eval x=v1) (hR:f7 w.heap S (.d0 true t0) Of [v1] l) (hOf:Of.Nodup) (hbf:∀ b∈Of,J9 ι s.hp f b)
  (hs:Src E.P t0.size U (a.eval y) m.length news w) (hN:i7 (f7 w.heap S t0) t0.size Og news m) (hOg:Og.Nodup) (hbg:∀ b∈Og,J9 ι s.hp g b) {p:Prop} (hp:p→l.length+m.length≤140737488355328∧(l.length+m.length)*t0.wb≤140737488355328) :
  D3 E.P B o a w ((s.lay d (f++g) (.d0 true t0) (l++m)).f6 p):=by
 refine D3.a4t (fun v s' hl hpp=>?_)
 obtain ⟨h63,hby⟩:=hp hpp
 obtain ⟨gn,gp⟩:=a7j hl
 have hty:n8 E.P 100 T (.d0 true t0)=true:=a4n (t:=.d0 q t0) (u:=.d0 true t0) rfl (p9 hE hT)
 have hnd:(Of++Og).Nodup:=List.nodup_append.2 ⟨hOf,hOg,by
  rintro c h1 c' h2 rfl
  obtain ⟨i,e,i1,i2,i3⟩:=hbf c h1
  obtain ⟨j,e',j1,j2,j3⟩:=hbg c h2
  exact h.hs.dj i j e e' i2 j2 (fun e=>(List.nodup_append.1 gn).2.2 i i1 j j1 e) c i3 j3⟩
 have hblk:∀ b∈Of++Og,J9 ι s.hp (f++g) b:=fun b hb=>(List.mem_append.1 hb).elim (fun hb=>(hbf b hb).mono (by simp +contextual)) (fun hb=>(hbg b hb).mono (by simp +contextual))
 have hF:=C9.s7 h.hs hnd hblk
 have hd:=h.s7 (g:=f++g) gp
 obtain ⟨v',w',O',q1,q2,q3,q4,q5,_⟩:=a9V hty o.type h.hs.slt hR hs hN hnd (fun c hc=>⟨(hF.2 c hc).1,(hF.2 c hc).2.2.1⟩) h63 hby
 have hargs:c.args=#[x,y]:=by rw [← ha]
 have hts:c.argTypes=#[T,U]:=by rw [← hTs]
 have hrun:(execOp a.eval o).run E.P w=.ok (.value v') w':=by
  subst hv1
  simp [execOp,ho,resolve,hc,invoke,builtin,hargs,hts,q1]
 have hF1:C9 B S ι (St.s7 (f++g) s).hp w Of:=hF.sub hOf (by simp +contextual)
 refine u6.lay hl hrun (cs:=[v']) rfl q2 (hd.V7 hF1 q4) ⟨q3,fun c hc=>?_⟩
 obtain ⟨k1,k2⟩:=q5 c hc
 rcases k1 with k1|k1
 ·exact ⟨fun hS=>by have:=h.hs.slt c hS; omega,.inl (by have:=h.hs.size; omega),k2,fun i e hi hb=>by have:=(hd.hs.bl i e hi c hb).2.2; omega⟩
 ·exact ⟨(hF.2 c k1).1,(hF.2 c k1).2.1,k2,(hF.2 c k1).2.2.2⟩

theorem a6O (hE:C2 E B) (h:RS B S ι s a w) {o:Oper} {c:Call} (ho:o.op=.call c) (hc:c.callee=.builtin .append) {x y:Operand} {T U:TypeId} (ha:c.args.toList=[x,y]) (hTs:c.argTypes.toList=[T,U])
  (hk:(∃ e',E.P.underlying U=some (.slice e'))∨E.P.underlying U=some .string):D3 E.P B o a w (Z0 E T (s.ev x) (s.ev y) o.dst s):=by
 unfold Z0
 split
 ·rename_i q t0 bts d hT hd
  split
  ·trivial
  ·rename_i t m g happ
   obtain ⟨Og,news,k1,k2,k3,k4⟩:=a5y (P:=E.P) h hk happ (h.ev y)
   simp only
   have own:∀ {l:List t0.den} {f Of:List Nat} {v1:Value},a.eval x=v1→f7 w.heap S (.d0 true t0) Of [v1] l→Of.Nodup→(∀ b∈Of,J9 ι s.hp f b) →
     D3 E.P B o a w (if h:t=t0 then (s.lay d (f++g) (.d0 true t0) (l++I1 h m)).f6 ((l.length+m.length:Nat)≤140737488355328∧(l.length+m.length:Nat)*(t0.wb:Nat)≤140737488355328) else .fail "append: type"):=by
    intro l f Of v1 e1 e2 e3 e4
    split
    ·rename_i ht
     subst ht
     exact b9K hE h ho hc ha hTs hT e1 e2 e3 e4 k1 k2 k3 k4 (fun hp=>hp)
    ·trivial
   split
   ·rename_i hx
    have hx':[a.eval x]=[Value.slice none 0 0]:=x8 h hx
    exact own (f:=[]) (Of:=[]) (v1:=.slice none 0 0) (by simpa using hx') (.inl ⟨rfl,⟨none,0,rfl,fun _=>rfl⟩,rfl⟩) List.nodup_nil (by simp)
   ·rename_i u lx hx
    split
    ·obtain ⟨cs,e,hR⟩:=x8 h hx
     rcases hR with ⟨_,⟨A,c,rfl,hc0⟩,rfl⟩|⟨b,off,cap,O',rfl,c2,c3,c4,c5,c6,c7⟩
     ·exact own (f:=[]) (Of:=[]) (v1:=.slice A 0 c) (by simpa [j7,Ty.agg] using e) (.inl ⟨rfl,⟨A,c,rfl,hc0⟩,rfl⟩) List.nodup_nil (by simp)
     ·cases c6
    ·trivial
   ·rename_i xv _ _
    split
    ·rename_i u l f hgv
     split
     ·rename_i hu
      subst hu
      obtain ⟨O2,cs,r1,r2,r3,r4⟩:=a1a h.hs hgv (h.ev x)
      have r1':a.eval x=cs.headD undef:=r1
      have hcs:cs=[cs.headD undef]:=by
       have:=r2.length
       match cs,this with
       | [c],_=>rfl
      rw [hcs] at r2
      exact own r1' r2 r3 r4
     ·trivial
    ·trivial
 ·trivial

end
end Go.Ex

namespace Go.Ex

section
variable {E:Env} {B:D4} {S S':Nat→Prop} {ι:Ix} {s:St} {a:Act} {w:World} {hp:List (Nat×g8)} {H H':Array Go.Obj}

def a66 (a:Act) (d n:Int):Option Operand→Prop
 | none=>n=d
 | some x=>∃ k,a.eval x=.int k n

theorem V9 (h:RS B S ι s a w) {d n:Int} {x:Option Operand} (hb:X6 s d x=some n):a66 a d n x:=by
 unfold X6 at hb
 split at hb
 ·cases hb; rfl
 ·rename_i x
  split at hb
  ·rename_i k m hx
   cases hb
   exact ⟨k,(VX.F8 (x8 h hx)).1⟩
  ·cases hb

theorem a0C {P:Program} {k:IntKind} {n:Int} {y:Nat} {c:BoundsCode} (h0:0≤n) (h1:n≤y):(Instr.sliceBound (.int k n) y c).run P w=.ok n.toNat w:=by
 simp [Instr.sliceBound,asIntOf,h0,h1]

theorem a4W {P:Program} {isS:Bool} {len cap:Nat} {lo hi:Option Operand} {x y:Int} (h1:a66 a 0 x lo) (h2:a66 a (len:Int) y hi) (h0:0≤x) (hxy:x≤y) (hy:y≤(cap:Int)) :
  (Instr.sliceBounds isS len cap (lo.map a.eval) (hi.map a.eval) none).run P w=.ok (x.toNat,y.toNat,cap) w:=by
 cases hi with
 | none =>
  have h2:y=len:=h2
  cases lo with
  | none =>
   have h1:x=0:=h1
   subst h1 h2
   simp [Instr.sliceBounds,Sem.run_pure]
  | some z =>
   obtain ⟨k,e⟩:=h1
   subst h2
   simp only [Instr.sliceBounds,Option.map_some,Option.map_none,e,Sem.run_bind,Sem.run_pure,Result.andThen_ok,a0C h0 hxy,Int.toNat_natCast]
 | some z2 =>
  obtain ⟨k2,e2⟩:=h2
  have hb:∀ c,(Instr.sliceBound (.int k2 y) cap c).run P w=.ok y.toNat w:=fun c=>a0C (by omega) (by omega)
  cases lo with
  | none =>
   have h1:x=0:=h1
   subst h1
   simp [Instr.sliceBounds,e2,hb]
  | some z =>
   obtain ⟨k,e⟩:=h1
   have hb2:∀ c,(Instr.sliceBound (.int k x) y.toNat c).run P w=.ok x.toNat w:=fun c=>a0C h0 (by omega)
   simp only [Instr.sliceBounds,Option.map_some,e,e2,Sem.run_bind,Sem.run_pure,Result.andThen_ok,hb,hb2]

theorem b5G {P:Program} {len cap:Nat} {lo:Option Operand} {x y:Operand} {k k':IntKind} (h1:a66 a 0 0 lo) (h2:a.eval x=.int k 0) (h3:a.eval y=.int k' 0) :
  (Instr.sliceBounds true len cap (lo.map a.eval) (some (a.eval x)) (some (a.eval y))).run P w=.ok (0,0,0) w:=by
 have hb:∀ (k:IntKind) (n:Nat) c,(Instr.sliceBound (.int k 0) n c).run P w=.ok 0 w:=fun k n c=>a0C (n:=0) (by omega) (by omega)
 cases lo with
 | none=>simp only [Instr.sliceBounds,Option.map_none,h2,h3,Sem.run_bind,hb,Sem.run_pure,Result.andThen_ok,if_true]
 | some z =>
  obtain ⟨k,e⟩:=h1
  simp only [Instr.sliceBounds,Option.map_some,e,h2,h3,Sem.run_bind,hb,Sem.run_pure,Result.andThen_ok,if_true]

theorem c4J {y:List UInt8} {x z:Int} (h:0≤x):(⟨y.toArray⟩:ByteArray).extract x.toNat z.toNat=⟨(n7 x z y).toArray⟩:=by
 have:((⟨y.toArray⟩:ByteArray).extract x.toNat z.toNat).data=(n7 x z y).toArray:=by
  rw [ByteArray.data_extract]
  simp only [List.extract_toArray,List.extract_eq_take_drop,n7]
  congr 2
  omega
 exact congrArg ByteArray.mk this

theorem c5n {α:Type} {x z:Int} {l:List α}:(n7 x z l).length≤l.length:=by simp only [n7,List.length_take,List.length_drop]; omega

theorem a4V {P:Program} {T:TypeId} {k:Nat} {q:Bool} {t:Ty} (hT:n8 P k T (.d0 q t)=true) {A:Option Addr} {len cap:Nat} {lo hi:Option Operand} {x y:Int} (h1:a66 a 0 x lo) (h2:a66 a (len:Int) y hi) (h0:0≤x) (hxy:x≤y) (hy:y≤(cap:Int)) :
  (Instr.sliceAt T (.slice A len cap) (lo.map a.eval) (hi.map a.eval) none).run P w=.ok (.slice (if cap=x.toNat then A else A.map (·.add (x.toNat*t.size))) (y.toNat - x.toNat) (cap - x.toNat)) w:=by
 obtain ⟨et,k',e1,e2,e3⟩:=E5 hT
 simp only [Instr.sliceAt,Instr.slice,Sem.run_bind,n9 e1,Result.andThen_ok,a4W h1 h2 h0 hxy hy,run_sizeOf e3,Sem.run_pure]
theorem a54 {P:Program} {T:TypeId} {k:Nat} {q:Bool} {t:Ty} (hT:n8 P k T (.d0 q t)=true) {A:Option Addr} {len cap:Nat} {lo hi:Option Operand} {x y:Int} (h1:a66 a 0 x lo) (h2:a66 a (len:Int) y hi) (h0:0≤x) (hxy:x≤y) (hy:y≤(len:Int)) (hc:len≤cap) :
  (Instr.sliceAt T (.slice A len cap) (lo.map a.eval) (hi.map a.eval) none).run P w=.ok (.slice (if cap=x.toNat then A else A.map (·.add (x.toNat*t.size))) (y.toNat - x.toNat) (cap - x.toNat)) w:=a4V hT h1 h2 h0 hxy (by omega)

theorem b3e (hE:C2 E B) (h:RS B S ι s a w) {o:Oper} {T:TypeId} {x:Operand} {lo hi mx:Option Operand} (ho:o.op=.slice T x lo hi mx):D3 E.P B o a w (a2n E T (s.ev x) lo hi mx s):=by
 have he:execOp a.eval o=(do pure (.value (← Instr.sliceAt T (a.eval x) (lo.map a.eval) (hi.map a.eval) (mx.map a.eval)))):=by simp [execOp,ho]
 unfold a2n
 split
 ·trivial
 ·rename_i m hlo
  have h1:=V9 h hlo
  -- [:0:0]
  have nil3:∀ {q:Bool} {t:Ty} {A:Option Addr} {len cap:Nat} {c n:Int},I0 E T (.d0 q t)=true→hi.isSome=true→(∃ z,mx=some z)→X6 s 0 mx=some c→(X6 s (len:Int) hi=some n)→a.eval x=.slice A len cap→m=0∧n=0∧c=0 →
    u6 E.P B o a w (.val (.d0 true t) ([]:List t.den)) s:=by
   rintro q t A len cap c n hck hh ⟨z,rfl⟩ hm hb hv ⟨rfl,rfl,rfl⟩
   cases hi with
   | none=>cases hh
   | some y =>
    obtain ⟨k1,e1⟩:=V9 h hb
    obtain ⟨k2,e2⟩:=V9 h hm
    obtain ⟨et,k',f1,f2,f3⟩:=E5 (C1 hE hck)
    refine u6.value (val:=.slice A 0 0) ?_ h ⟨[.slice A 0 0],rfl,.inl ⟨rfl,⟨A,0,rfl,fun _=>rfl⟩,rfl⟩⟩
    rw [he]
    simp only [Option.map_some,hv,Instr.sliceAt,Instr.slice,Sem.run_bind,n9 f1,Result.andThen_ok,b5G h1 e1 e2,run_sizeOf f3,Sem.run_pure]
    simp
  have any3:∀ {q:Bool} {t:Ty} {A:Option Addr} {len cap:Nat} {c n:Int},I0 E T (.d0 q t)=true→hi.isSome=true→lo.isSome=true→(∃ z,mx=some z)→X6 s 0 mx=some c→(X6 s (len:Int) hi=some n)→a.eval x=.slice A len cap→len≤cap→(0≤m∧m≤n∧n≤c∧c≤(len:Int)) →
    u6 E.P B o a w .any s:=by
   rintro q t A len cap c n hck hh hl2 ⟨z,rfl⟩ hm hb hv hcap ⟨g1,g2,g3,g4⟩
   cases hi with
   | none=>cases hh
   | some y =>
    cases lo with
    | none=>cases hl2
    | some z0 =>
     obtain ⟨k1,e1⟩:=V9 h hb
     obtain ⟨k2,e2⟩:=V9 h hm
     obtain ⟨k0,e0⟩:=h1
     obtain ⟨et,k',f1,f2,f3⟩:=E5 (C1 hE hck)
     have hb1:∀ d,(Instr.sliceBound (.int k2 c) cap d).run E.P w=.ok c.toNat w:=fun d=>a0C (by omega) (by omega)
     have hb2:∀ d,(Instr.sliceBound (.int k1 n) c.toNat d).run E.P w=.ok n.toNat w:=fun d=>a0C (by omega) (by omega)
     have hb3:∀ d,(Instr.sliceBound (.int k0 m) n.toNat d).run E.P w=.ok m.toNat w:=fun d=>a0C g1 (by omega)
     refine u6.value (val:=.slice (if c.toNat=m.toNat then A else A.map (·.add (m.toNat*t.size))) (n.toNat - m.toNat) (c.toNat - m.toNat)) ?_ h ⟨_,rfl⟩
     rw [he]
     simp only [Option.map_some,hv,Instr.sliceAt,Instr.slice,Instr.sliceBounds,e0,e1,e2,hb1,hb2,hb3,Sem.run_bind,n9 f1,Result.andThen_ok,run_sizeOf f3,Sem.run_pure,if_true]
  split
  ·rename_i y hx
   split
   ·rename_i n hb
    split
    ·rename_i hck
     rintro ⟨g1,g2,g3⟩
     obtain ⟨hv,hl⟩:=VX.a1S (x8 h hx)
     have hu:=S6 (C1 hE hck)
     refine u6.value (val:=.string ⟨(n7 m n y).toArray⟩) ?_ h (VX.str (Nat.le_trans c5n hl))
     rw [he]
     have hsz:(⟨y.toArray⟩:ByteArray).size=List.length y:=rfl
     simp only [hv,Option.map_none,Instr.sliceAt,Instr.slice,Sem.run_bind,n9 hu,Result.andThen_ok,hsz]
     simp only [Option.isSome_none,Bool.false_eq_true,if_false,a4W (isS:=false) h1 (V9 h hb) g1 g2 g3,Sem.run_pure,Result.andThen_ok,Sem.run_bind,c4J g1]
    ·trivial
   ·trivial
  ·rename_i t y hx
   obtain ⟨cs,e,hR⟩:=x8 h hx
   split
   ·rename_i n hb
    split
    ·rename_i hck
     rintro ⟨g1,g2,g3⟩
     have key:∀ {A:Option Addr} {cap:Nat},a.eval x=.slice A (List.length y) cap→List.length y≤cap→(∃ cs',Value.slice (if cap=m.toNat then A else A.map (·.add (m.toNat*t.size))) (n.toNat - m.toNat) (cap - m.toNat)=j7 (.d0 false t) cs'∧f7 w.heap S (.d0 false t) [] cs' (n7 m n y)) →
       u6 E.P B o a w (.val (.d0 false t) (n7 m n y)) s:=by
      rintro A cap hv hc ⟨cs',e1,e2⟩
      refine u6.value (val:=j7 (.d0 false t) cs') ?_ h ⟨cs',rfl,e2⟩
      rw [he,hv,← e1]
      simp only [Option.map_none,Sem.run_bind,a54 (C1 hE hck) h1 (V9 h hb) g1 g2 g3 hc,Result.andThen_ok,Sem.run_pure]
     have hlen:(n7 m n y).length=(n - m).toNat:=X4 g1 g3
     rcases hR with ⟨_,⟨A,c,rfl,_⟩,rfl⟩|⟨b1,o1,cap,O',rfl,c2,c3,c4,c5,c6,rfl,c7⟩
     ·have hn:n=0:=by have:n≤((([]:List t.den).length:Nat):Int):=g3; simp at this; omega
      have hm0:m=0:=by omega
      subst hn hm0
      exact key (A:=A) (cap:=c) (by simpa [j7,Ty.agg] using e) (by simp) ⟨[_],rfl,.inl ⟨rfl,⟨_,_,rfl,by simp⟩,by simp [n7]⟩⟩
     ·refine key (A:=some ⟨b1,o1,none⟩) (cap:=cap) (by simpa [j7,Ty.agg] using e) c2 ⟨[_],rfl,?_⟩
      by_cases hz:n7 m n y=[]
      ·have:n.toNat - m.toNat=0:=by rw [hz] at hlen; simp at hlen; omega
       rw [this]
       exact .inl ⟨rfl,⟨_,_,rfl,by simp⟩,hz⟩
      ·have hpos:0<(n - m).toNat:=by rw [← hlen]; exact List.length_pos_iff.2 hz
       obtain ⟨P1,P2,P3,e1,g⟩:=c5.cut m.toNat (n - m).toNat
       have hP:P2=[]:=by have:=e1.symm; simp at this; exact this.2.1
       subst hP
       have hle:m.toNat*t.size+(n - m).toNat*t.size≤List.length y*t.size:=by rw [← Nat.add_mul]; exact Nat.mul_le_mul_right _ (by omega)
       rw [n5,m0 _ _ _ _ (by omega)] at g
       refine .inr ⟨b1,o1+m.toNat*t.size,cap - m.toNat,[],?_,by rw [hlen]; omega,⟨by have:=c3.1; omega,by simp⟩,by rw [hlen]; omega,by rw [hlen]; exact g,rfl,rfl,c7⟩
       rw [if_neg (by omega),Option.map_some,Addr.F6,hlen,show n.toNat - m.toNat=(n - m).toNat from by omega]
    ·trivial
   ·rename_i z hb
    split
    ·rename_i c hck hc
     simp only [Bool.and_eq_true] at hck
     intro hp
     obtain ⟨A,c,e1,_⟩:=a4p hR
     exact nil3 hck.1 hck.2 ⟨_,rfl⟩ hc hb (by rw [show a.eval x=j7 (.d0 false t) cs by simpa using e]; exact e1) hp
    ·trivial
   ·trivial
  ·rename_i t y hx
   obtain ⟨cs,e,hR⟩:=x8 h hx
   split
   ·rename_i n hb
    split
    ·rename_i hck
     obtain ⟨fl,l,m'⟩:=y
     rintro ⟨rfl,g1,g2,g3⟩
     obtain ⟨b1,o1,O',rfl,c2,c4,c5,_,rfl,c7⟩:=hR
     have hv:a.eval x=.slice (some ⟨b1,o1,none⟩) l.length (l.length+m'.length):=by simpa [j7,Ty.agg] using e
     have g3:n≤((l++m').length:Int):=by rw [List.length_append]; exact g3
     have hlen:(n7 m n (l++m')).length=(n - m).toNat:=X4 g1 g3
     have c4':=c4
     rw [List.length_append] at g3
     refine u6.value (val:=.slice (if l.length+m'.length=m.toNat then some ⟨b1,o1,none⟩ else (some ⟨b1,o1,none⟩:Option Addr).map (·.add (m.toNat*t.size))) (n.toNat - m.toNat) (l.length+m'.length - m.toNat)) ?_ h ⟨[_],rfl,?_⟩
     ·rw [he,hv]
      simp only [Option.map_none,Sem.run_bind,a4V (C1 hE hck) h1 (V9 h hb) g1 g2 g3,Result.andThen_ok,Sem.run_pure]
     by_cases hz:n7 m n (l++m')=[]
     ·have:n.toNat - m.toNat=0:=by rw [hz] at hlen; simp at hlen; omega
      rw [this]
      exact .inl ⟨rfl,⟨_,_,rfl,by simp⟩,hz⟩
     ·have hpos:0<(n - m).toNat:=by rw [← hlen]; exact List.length_pos_iff.2 hz
      obtain ⟨P1,P2,P3,e1,g⟩:=c5.cut m.toNat (n - m).toNat
      have hP:P2=[]:=by have:=e1.symm; simp at this; exact this.2.1
      subst hP
      have hle:m.toNat*t.size+(n - m).toNat*t.size≤List.length (l++m')*t.size:=by rw [← Nat.add_mul,List.length_append]; exact Nat.mul_le_mul_right _ (by omega)
      rw [n5,m0 _ _ _ _ (by omega)] at g
      refine .inr ⟨b1,o1+m.toNat*t.size,l.length+m'.length - m.toNat,[],?_,by rw [hlen]; omega,⟨by have:=c2.1; omega,by simp⟩,by rw [hlen]; omega,by rw [hlen]; exact g,rfl,rfl,c7⟩
      rw [if_neg (by omega),Option.map_some,Addr.F6,hlen,show n.toNat - m.toNat=(n - m).toNat from by omega]
    ·trivial
   ·trivial
  ·rename_i hx
   split
   ·rename_i n q t bts hb hT
    rintro ⟨rfl,rfl⟩
    have hv:a.eval x=.slice none 0 0:=by simpa using (show [a.eval x]=[Value.slice none 0 0] from x8 h hx)
    refine u6.value (val:=.slice none 0 0) ?_ h rfl
    rw [he,hv]
    have:=a54 (w:=w) (A:=none) (len:=0) (cap:=0) (p9 hE hT) h1 (V9 h hb) (Int.le_refl _) (Int.le_refl _) (Int.le_refl _) (Nat.le_refl _)
    simp only [Option.map_none,Sem.run_bind,this,Result.andThen_ok,Sem.run_pure]
    simp
   ·trivial
  ·rename_i i p hx
   obtain ⟨e,u,y0,cs,k1,k2,k3,k4,k5⟩:=x8 h hx
   have k5:a.eval x=j7 u cs:=by simpa using k5
   split
   ·rename_i t y hpt
    have hg:=G3 k1 hpt
    rw [k3] at hg; cases hg
    obtain ⟨O2,m1,m2,m3⟩:=F0 h.hs k1 k2 k3 k4
    have hform:∃ A cap,cs=[.slice A (List.length y) cap]∧List.length y≤cap:=by
     rcases m3 with ⟨_,⟨A,c,rfl,_⟩,rfl⟩|⟨b1,o1,cap,O',rfl,c2,_⟩
     ·exact ⟨A,c,rfl,by simp⟩
     ·exact ⟨_,cap,rfl,c2⟩
    obtain ⟨A,cap,rfl,hc⟩:=hform
    have k5:a.eval x=.slice A (List.length y) cap:=k5
    split
    ·rename_i n hb
     split
     ·rename_i hck
      rintro ⟨g1,g2,g3⟩
      refine u6.value (val:=.slice (if cap=m.toNat then A else A.map (·.add (m.toNat*t.size))) (n.toNat - m.toNat) (cap - m.toNat)) ?_ h ⟨e,_,k1,k2,rfl,g1,g2,.inl ⟨t,y,A,cap,k3,g3,k4,_,_,by rw [show (n - m).toNat=n.toNat - m.toNat from by omega],fun hne=>by rw [if_neg (by omega)],by omega,by omega⟩⟩
      rw [he,k5]
      simp only [Option.map_none,Sem.run_bind,a54 (C1 hE hck) h1 (V9 h hb) g1 g2 g3 hc,Result.andThen_ok,Sem.run_pure]
     ·trivial
    ·rename_i z hb
     split
     ·rename_i c hck hc'
      simp only [Bool.and_eq_true] at hck
      split
      ·intro hp
       exact nil3 hck.1 hck.2 ⟨_,rfl⟩ hc' hb k5 hp
      ·rename_i hlo2
       rintro ⟨g1,g2,g3,g4⟩
       exact any3 hck.1 hck.2 hlo2 ⟨_,rfl⟩ hc' hb k5 hc ⟨g1,g2,g3,g4⟩
     ·trivial
    ·trivial
   ·trivial
  ·rename_i i p a0 b0 hx
   obtain ⟨e,v,k1,k2,k3,k4,k5,k6⟩:=x8 h hx
   have k3:a.eval x=v:=by simpa using k3
   have core:∀ {t:Ty} {n:Int} {A0:Option Addr} {cap:Nat},I0 E T (.d0 true t)=true→X6 s (b0 - a0) hi=some n→mx=none→0≤m→m≤n→a0+n≤(cap:Int)→b4D t.size A0 cap a0 b0 v→∃ val,(execOp a.eval o).run E.P w=.ok (.value val) w∧b4D t.size A0 cap (a0+m) (a0+n) val:=by
    rintro t n A0 cap hck hb rfl g1 g2 g3 ⟨c,A,e1,e2,e3,e4⟩
    refine ⟨.slice (if c=m.toNat then A else A.map (·.add (m.toNat*t.size))) (n.toNat - m.toNat) (c - m.toNat),?_,_,_,by rw [show (a0+n - (a0+m)).toNat=n.toNat - m.toNat from by omega],?_,by omega,by omega⟩
    ·rw [he,k3,e1]
     have hb':X6 s (((b0 - a0).toNat:Nat):Int) hi=some n:=by rw [Int.toNat_of_nonneg (by omega)]; exact hb
     simp only [Option.map_none,Sem.run_bind,a4V (A:=A) (cap:=c) (C1 hE hck) h1 (V9 h hb') g1 g2 (show n≤(c:Int) by omega),Result.andThen_ok,Sem.run_pure]
    ·intro hne
     rw [if_neg (by omega),e2 (by omega),Option.map_map,show (a0+m).toNat=a0.toNat+m.toNat from by omega]
     congr 1
     funext ad
     have hadd:∀ x y:Nat,(ad.add x).add y=ad.add (x+y):=by
      intro x y
      unfold Addr.add
      by_cases hx:x=0<;>by_cases hy:y=0<;>simp [hx,hy,Nat.add_assoc]
     simp only [Function.comp,Nat.add_mul,hadd]
   split
   ·rename_i t y hvw
    split
    ·rename_i n hb
     split
     ·rename_i hck
      rintro ⟨g1,g2,g3⟩
      have hg:=G3 k1 hvw
      rcases k6 with ⟨t',l,A,cap,q1,q2,q3,q4⟩|⟨n',t',l,b2,off2,q1,q2,q3,q4⟩
      ·rw [q1] at hg; cases hg
       obtain ⟨O2,m1,m2,m3⟩:=F0 h.hs k1 k2 q1 q3
       have hc:List.length y≤cap:=by
        rcases m3 with ⟨_,⟨A,c,_,_⟩,rfl⟩|⟨b1,o1,cap',O',c1,c2,_⟩
        ·simp
        ·cases c1; exact c2
       obtain ⟨val,r1,r2⟩:=core hck hb rfl g1 g2 (by omega) q4
       exact u6.value r1 h ⟨e,val,k1,k2,rfl,by omega,by omega,.inl ⟨_,_,A,cap,q1,by omega,q3,r2⟩⟩
      ·rw [q1] at hg; cases hg
     ·trivial
    ·trivial
   ·rename_i n0 t y hvw
    split
    ·rename_i n hb
     split
     ·rename_i hck
      rintro ⟨g1,g2,g3⟩
      have hg:=G3 k1 hvw
      rcases k6 with ⟨t',l,A,cap,q1,q2,q3,q4⟩|⟨n',t',l,b2,off2,q1,q2,q3,q4⟩
      ·rw [q1] at hg; cases hg
      ·rw [q1] at hg; cases hg
       obtain ⟨val,r1,r2⟩:=core hck hb rfl g1 g2 (by omega) q4
       exact u6.value r1 h ⟨e,val,k1,k2,rfl,by omega,by omega,.inr ⟨_,_,_,b2,off2,q1,⟨by omega,q2.2⟩,q3,r2⟩⟩
     ·trivial
    ·trivial
   ·trivial
  ·rename_i i p hx
   obtain ⟨e,b,off,k1,k2,k3,k4⟩:=x8 h hx
   have k4:a.eval x=.pointer (some ⟨b,off,none⟩):=by simpa using k4
   split
   ·rename_i N t y hpt
    have hg:=G3 k1 hpt
    split
    ·rename_i n hb
     split
     ·rename_i hck
      simp only [Bool.and_eq_true,Nat.ble_eq] at hck
      rintro ⟨g1,g2,g3⟩
      have hb2:=a4W (P:=E.P) (w:=w) (isS:=false) h1 (V9 h hb) g1 g2 g3
      refine u6.value (val:=.slice (some (if N=m.toNat then ⟨b,off,none⟩ else (⟨b,off,none⟩:Addr).add (m.toNat*t.size))) (n.toNat - m.toNat) (N - m.toNat)) ?_ h ⟨e,_,k1,k2,rfl,g1,g2,.inr ⟨N,t,y,b,off,hg,⟨g3,by have:=hck.2; unfold maxLen; omega⟩,k3,_,_,by rw [show (n - m).toNat=n.toNat - m.toNat from by omega],fun hne=>by rw [if_neg (by omega)]; rfl,by omega,by omega⟩⟩
      rw [he,k4]
      have hc:=hck.1
      unfold a2n.c6z at hc
      split at hc
      ·rename_i A hT
       obtain ⟨et,k',f1,f2,f3⟩:=U1 (C1 hE hc)
       simp only [Option.map_none,Instr.sliceAt,Instr.slice,Sem.run_bind,n9 hT,n9 f1,asAddr,hb2,Result.andThen_ok,Sem.run_pure,run_sizeOf f3]
      ·obtain ⟨et,k',f1,f2,f3⟩:=U1 (C1 hE hc)
       simp only [Option.map_none,Instr.sliceAt,Sem.run_bind,n9 f1,Instr.sureAddr,hb2,Result.andThen_ok,Sem.run_pure,run_sizeOf f3]
      ·cases hc
     ·trivial
    ·trivial
   ·trivial
  ·trivial

end
end Go.Ex

namespace Go.Ex

section
variable {E:Env} {B:D4} {S S':Nat→Prop} {ι:Ix} {s:St} {a:Act} {w:World} {hp:List (Nat×g8)} {H H':Array Go.Obj}

theorem i7.two {α:Type} {R:List Nat→List Value→α→Prop} {sz:Nat} (hR:∀ O cs x,R O cs x→cs.length=sz) (h0:∀ O cs x,R O cs x→O=[]) {l m:List α} {O:List Nat} {cs:List Value} (h:i7 R sz O cs (l++m)):i7 R sz [] (cs.take (l.length*sz)) l∧i7 R sz [] (cs.drop (l.length*sz)) m:=by
 induction l generalizing O cs with
 | nil =>
  have:=i7.J5 h0 h
  subst this
  exact ⟨⟨rfl,by simp⟩,by simpa using h⟩
 | cons x l ih =>
  obtain ⟨O1,O2,e,h1,h2⟩:=h
  obtain ⟨k1,k2⟩:=ih h2
  have e1:=h0 _ _ _ h1
  subst e1
  refine ⟨⟨[],[],rfl,?_,?_⟩,?_⟩
  ·rw [List.take_take,List.length_cons,Nat.succ_mul,Nat.min_eq_left (by omega)]; exact h1
  ·rw [List.length_cons,Nat.succ_mul,List.drop_take,show l.length*sz+sz - sz=l.length*sz by omega]; exact k1
  ·rw [List.length_cons,Nat.succ_mul,Nat.add_comm,← List.drop_drop]; exact k2

theorem b6u (hE:C2 E B) (h:RS B S ι s a w) {o:Oper} {c:Call} (ho:o.op=.call c) (hc:c.callee=.builtin .append) {x y:Operand} {T U:TypeId} (ha:c.args.toList=[x,y]) (hTs:c.argTypes.toList=[T,U])
  (hk:∃ e',E.P.underlying U=some (.slice e')):D3 E.P B o a w (a5A E T (s.ev x) (s.ev y) o.dst s):=by
 obtain ⟨eU,hU⟩:=hk
 unfold a5A
 split
 ·rename_i q t0 bts d i hT hd hx
  split
  ·rename_i u z t m hob happ
   split
   ·rename_i hu
    split
    ·rename_i ht
     subst hu
     subst ht
     split
     ·rename_i hsh
      refine D3.a4t (fun v s' hl hp=>?_)
      obtain ⟨fl,l,mm⟩:=z
      obtain ⟨hfl,g2⟩:=hp
      have hfl:fl=2:=hfl
      subst hfl
      have g2:m.length≤mm.length:=g2
      have hgv:(AV.at_ i []).Y6 s=some (⟨.w5 t,(2,l,mm)⟩,[i]):=by simp only [AV.Y6,hob]
      obtain ⟨O2,cs,r1,r2,r3,r4⟩:=a1a h.hs hgv (x8 h hx)
      obtain ⟨gn,gp⟩:=a7j hl
      have hF:=C9.s7 h.hs r3 r4
      have hd':=h.s7 (g:=[i]) gp
      obtain ⟨b,off,O',rfl,c2,c4,c5,c6,c7⟩:=r2
      obtain rfl:O'=[]:=i7.J5 (fun _ _ _ hr=>hr.J5 hsh) c5
      subst c6
      have hlen:=fun (O:List Nat) (cs:List Value) (x:t.den) (hr:f7 w.heap S t O cs x)=>hr.length
      have hnil:=fun (O:List Nat) (cs:List Value) (x:t.den) (hr:f7 w.heap S t O cs x)=>hr.J5 hsh
      obtain ⟨Og,news,a1,a2,a3,a4⟩:=a5y (P:=E.P) h (.inl ⟨eU,hU⟩) happ (h.ev y)
      obtain rfl:Og=[]:=i7.J5 hnil a2
      have hlt:(l++mm).length=l.length+mm.length:=List.length_append
      rw [hlt,Nat.add_mul] at c4 c5
      have s1:=i7.two hlen hnil c5
      rw [m0 _ _ _ _ (by omega),n5] at s1
      obtain ⟨s1,s2⟩:=s1
      rw [show l.length*t.size+mm.length*t.size - l.length*t.size=mm.length*t.size by omega] at s2
      have hmm:mm=mm.take m.length++mm.drop m.length:=(List.take_append_drop _ _).symm
      rw [hmm] at s2
      have s3:=(i7.two hlen hnil s2).2
      rw [← hmm,n5,List.length_take,Nat.min_eq_left g2] at s3
      have hty:n8 E.P 100 T (.d0 true t)=true:=a4n (t:=.d0 q t) (u:=.d0 true t) rfl (p9 hE hT)
      have hbS:¬ S b:=(hF.2 b (by simp)).1
      obtain ⟨w',q1,q2,q3,q4,q5,q6⟩:=a7X (S:=S) hty o.type (Nat.le_add_right l.length mm.length) c2.1 c7 s1 a1 a2 (by simp) hbS (by omega) (c2.2 rfl)
      have hargs:c.args=#[x,y]:=by rw [← ha]
      have hts:c.argTypes=#[T,U]:=by rw [← hTs]
      have hv:a.eval x=.slice (some ⟨b,off,none⟩) l.length (l.length+mm.length):=r1
      have hrun:(execOp a.eval o).run E.P w=.ok (.value (.slice (some ⟨b,off,none⟩) (l.length+m.length) (l.length+mm.length))) w':=by
       simp [execOp,ho,resolve,hc,invoke,builtin,hargs,hts,hv,q1]
      have hblt:b<w.heap.size:=(hF.2 b (by simp)).2.2.1
      have hnl:news.length=m.length*t.size:=i7.length hlen a2
      have hdl:(mm.drop m.length).length=mm.length - m.length:=List.length_drop
      have hmul:m.length*t.size≤mm.length*t.size:=Nat.mul_le_mul_right _ g2
      have tail:i7 (f7 w'.heap S t) t.size [] (d8 w'.heap b (off+l.length*t.size+m.length*t.size) (mm.length*t.size - m.length*t.size)) (mm.drop m.length):=by
       rw [q2.cells hblt (fun _=>.inr (by omega))]
       refine i7.mono (L:=[]) (fun _ hc=>hc) (fun O cs y hO hr=>hr.r7 (fun c hc=>?_) (fun _ hc=>hc)) s3
       rcases hc with hc|hc
       ·cases hO c hc
       ·exact q5.frame c (h.hs.slt c hc) (by simp only [List.mem_singleton]; rintro rfl; exact hbS hc)
      have k4:f7 w'.heap S (.w5 t) [b] [.slice (some ⟨b,off,none⟩) (l.length+m.length) (l.length+mm.length)] (2,l++m,mm.drop m.length):=by
       rcases q4 with ⟨h9,_⟩|⟨b2,off2,cap2,O3,d1,d2,d3,d4,d5,d6,d7⟩
       ·cases h9
       ·simp only [List.length_append,List.cons.injEq,Value.slice.injEq,Option.some.injEq,Addr.mk.injEq,and_true] at d1
        obtain ⟨⟨rfl,rfl⟩,-,rfl⟩:=d1
        obtain rfl:O3=[]:=by simpa using d6.symm
        rw [List.length_append,Nat.add_mul] at d4 d5
        have hs1:(l++m).length+(mm.drop m.length).length=l.length+mm.length:=by rw [List.length_append,hdl]; omega
        refine ⟨b,off,[],by rw [hs1,List.length_append],by rw [hs1]; exact c2,?_,?_,rfl,by rw [hs1]; exact d7⟩
        ·rw [List.length_append,hs1,Nat.add_mul]
         have:=d7.free.s5
         rw [Nat.add_mul] at this
         exact this
        ·rw [List.length_append (as:=l++m),Nat.add_mul,List.length_append,Nat.add_mul,hdl,Nat.sub_mul,a2d]
         refine i7.append (O:=[]) (O':=[]) (fun _ _ _ hr=>hr.length) d5 ?_
         rw [← Nat.add_assoc]
         exact tail
      refine u6.lay hl hrun (cs:=[.slice (some ⟨b,off,none⟩) (l.length+m.length) (l.length+mm.length)]) rfl k4 (hd'.V7 hF q5) (hF.V7 q5)
     ·trivial
    ·trivial
   ·trivial
  ·trivial
 ·trivial

theorem b9M (hE:C2 E B) (h:RS B S ι s a w) {o:Oper} {c:Call} (ho:o.op=.call c) (hc:c.callee=.builtin .append) {x y:Operand} {T U:TypeId} (ha:c.args.toList=[x,y]) (hTs:c.argTypes.toList=[T,U])
  (hk:∃ e',E.P.underlying U=some (.slice e')):D3 E.P B o a w (a5x E T (s.ev x) (s.ev y) o.dst s):=by
 unfold a5x
 split
 ·exact b6u hE h ho hc ha hTs hk
 ·exact a6O hE h ho hc ha hTs (.inl hk)

end
end Go.Ex

namespace Go.Ex

section
variable {E:Env} {B:D4} {S S':Nat→Prop} {ι:Ix} {s:St} {a:Act} {w:World} {hp:List (Nat×g8)} {H H':Array Go.Obj}

theorem b6K {q:Bool} {u:Ty} {O:List Nat} {cs:List Value} {z:List u.den} (hR:f7 H S (.d0 q u) O cs z):z.length≤maxLen:=by
 rcases hR with ⟨_,_,h2⟩|⟨b,off,cap,O',c1,c2,c3,_⟩
 ·rw [h2]; exact Nat.zero_le _
 ·have:=c3.1
  have c2:z.length≤cap:=c2
  omega

theorem b0A (h:HS B S ι s.hp w) {v:AV} {val:Value} (hv:VX w.heap S ι s.hp v [val]) {t:Ty} {l:List t.den} (hw:v.els s=some ⟨t,l⟩):l.length≤maxLen:=by
 unfold AV.els at hw
 split at hw
 ·cases hw
  obtain ⟨cs,_,hR⟩:=hv
  exact b6K hR
 ·rename_i i p
  split at hw
  ·rename_i q t' l' hp
   cases hw
   obtain ⟨e,u,y,cs,h1,h2,h3,h4,h5⟩:=hv
   have hg:=G3 h1 hp
   rw [h3] at hg; cases hg
   obtain ⟨O2,m1,m2,m3⟩:=F0 h h1 h2 h3 h4
   exact b6K m3
  ·cases hw
 ·obtain ⟨A,c,_,k⟩:=b6I h hv hw
  rcases k with rfl|⟨b,off,O,_,_,_,_,_,k1,k2⟩
  ·exact Nat.zero_le _
  ·omega
 ·cases hw

theorem c5p (c:UInt8):q9 .u8 (c.toNat:Int):=by
 simp only [q9,IntKind.min,IntKind.max,IntKind.signed,IntKind.bits]; have:=c.toNat_lt; simp; omega

theorem c1z (y:List UInt8):i7 (f7 H S (.int .u8)) 1 [] (byteCells ⟨y.toArray⟩) (List.map (fun b:UInt8=>(b.toNat:Int)) y:List Int):=by
 simp only [byteCells]
 induction y with
 | nil=>exact ⟨rfl,rfl⟩
 | cons c y ih=>exact ⟨[],[],rfl,⟨rfl,rfl,c5p c⟩,by simpa [Ty.size] using ih⟩

theorem a0P {k:IntKind}:∀ {l:List Int} {O:List Nat} {cs:List Value},i7 (f7 H S (.int k)) 1 O cs l→cs=l.map (Value.int k)
 | [],_,_,⟨_,h⟩=>h
 | n::l,O,cs,⟨O1,O2,_,h1,h2⟩=>by
  have e1:cs.take 1=[.int k n]:=h1.2.1
  have e2:=a0P h2
  rw [← List.take_append_drop 1 cs,e1,e2]; rfl

theorem b3p:∀ (l:List Int) (r:ByteArray),l.foldl (fun r n=>r.push (UInt8.ofNat n.toNat)) r=⟨r.data++(l.map fun n=>UInt8.ofNat n.toNat).toArray⟩
 | [],r=>by simp
 | n::l,r=>by
  rw [List.foldl_cons,b3p l]
  simp [ByteArray.push]

theorem b2z (hE:C2 E B) (h:RS B S ι s a w) {o:Oper} {T T':TypeId} {x:Operand} (ho:o.op=.convert T' T x):D3 E.P B o a w (n6 E o s):=by
 have he:execOp a.eval o=(do pure (.value (← convert T' T (a.eval x)))):=by simp [execOp,ho]
 unfold n6
 rw [ho]
 simp only
 split
 ·rename_i k n k0 by0 k' by_ hx hT0 hT
  obtain ⟨hv,_⟩:=VX.F8 (x8 h hx)
  have hu:=X1 (p9 hE hT)
  have hu0:=X1 (p9 hE hT0)
  refine G2 he h (val:=.int k' (k'.wrap n)) ?_ (VX.int (P8 _ _))
  rw [hv]
  simp [convert,n9 hu,n9 hu0,Conv.intToInt]
 ·rename_i y b0 b1 hx hT0 hT
  split
  ·rename_i d hd
   refine D3.lay (fun v s' hl=>?_)
   obtain ⟨hv,hlen⟩:=VX.a1S (x8 h hx)
   have hu0:=S6 (p9 hE hT0)
   obtain ⟨et,k',f1,f2,f3⟩:=E5 (p9 hE hT)
   have f4:=X1 f3
   have hrun:=run_bytes_of_string (P:=E.P) w T' T et ⟨y.toArray⟩ hu0 f1 f4
   have hsz:(⟨y.toArray⟩:ByteArray).size=List.length y:=rfl
   rw [hsz] at hrun
   have hge:=grownCap_ge w (List.length y) 0 et
   have hmax:=grownCap_le_maxLen w (List.length y) 0 et hlen
   generalize grownCap w (List.length y) 0 et=gc at hrun hge hmax
   have hcells:(bytesRow ⟨y.toArray⟩ gc)=(byteCells ⟨y.toArray⟩++List.replicate (gc - List.length y) (Value.int .u8 0)).toArray:=by
    apply Array.ext'
    simp [bytesRow,byteCells,hsz]
   rw [hcells] at hrun
   have hbl:(byteCells ⟨y.toArray⟩).length=List.length y:=by rw [byteCells_length]; rfl
   have hml:(List.map (fun b:UInt8=>(b.toNat:Int)) y).length=List.length y:=List.length_map ..
   have hp:y8 [] w (w.drew.alloc (.cells (byteCells ⟨y.toArray⟩++List.replicate (gc - List.length y) (Value.int .u8 0)).toArray et ((byteCells ⟨y.toArray⟩++List.replicate (gc - List.length y) (Value.int .u8 0)).toArray.size,(byteCells ⟨y.toArray⟩++List.replicate (gc - List.length y) (Value.int .u8 0)).toArray.size+1))) :=
    y8.trans y8.drew (y8.push _) (by simp)
   obtain ⟨O2,k1,k2,k3⟩:=a4Y (w:=w) (S:=S) (t:=.int .u8) (l:=(List.map (fun b:UInt8=>(b.toNat:Int)) y:List Int)) (cap:=gc) h.hs.slt (O:=[]) (cells:=byteCells ⟨y.toArray⟩++List.replicate (gc - List.length y) (Value.int .u8 0)) (by
    show i7 _ 1 [] (List.take ((List.map (fun b:UInt8=>(b.toNat:Int)) y).length*1) _) _
    rw [hml,Nat.mul_one,List.take_left' hbl]
    exact c1z y) (by show (List.map (fun b:UInt8=>(b.toNat:Int)) y).length≤gc; rw [hml]; exact hge) hmax (by simp only [List.length_append,List.length_replicate,hbl,Ty.size]; omega) et (by simp)
    (w':=w.drew.alloc (.cells (byteCells ⟨y.toArray⟩++List.replicate (gc - List.length y) (Value.int .u8 0)).toArray et ((byteCells ⟨y.toArray⟩++List.replicate (gc - List.length y) (Value.int .u8 0)).toArray.size,(byteCells ⟨y.toArray⟩++List.replicate (gc - List.length y) (Value.int .u8 0)).toArray.size+1))) rfl (.inr ⟨rfl,by simp⟩)
   have hd':=h.s7 (g:=[]) rfl
   refine u6.lay hl (val:=.slice (some ⟨w.heap.size,0,none⟩) (List.length y) gc) (by rw [he,hv]; simp only [Sem.run_bind,hrun,Result.andThen_ok,Sem.run_pure]) (by rw [← hml]; rfl) k1 (hd'.V7 C9.nil hp) (C9.new hd' C9.nil hp (by show w.heap.size<(w.heap.push _).size; simp) k2 (k3 List.nodup_nil))
  ·trivial
 ·rename_i b0 b1 _ hT0 hT
  obtain ⟨et,k',f1,f2,f3⟩:=E5 (p9 hE hT0)
  have f4:=X1 f3
  have f5:=S6 (p9 hE hT)
  split
  ·rename_i l hels
   obtain ⟨A,c,e,k⟩:=a7m h.hs (h.ev x) hels
   have hlen:=b0A h.hs (h.ev x) hels
   refine G2 he h (val:=.string ⟨(List.map (fun n:Int=>UInt8.ofNat n.toNat) l).toArray⟩) ?_ (VX.str (by rw [List.length_map]; exact hlen))
   rw [e]
   simp only [convert,Sem.run_bind,n9 f1,n9 f5,Result.andThen_ok,n9 f4]
   have hsome:∀ a0:Addr,(loadCells a0 l.length).run E.P w=.ok (l.map (Value.int .u8)).toArray w→(Conv.bytesToString (.slice (some a0) l.length c)).run E.P w=.ok (.string ⟨(List.map (fun n:Int=>UInt8.ofNat n.toNat) l).toArray⟩) w:=by
    intro a0 hl
    rw [run_bytesToString w a0 l.length c l hl,b3p]
    simp
   rcases k with rfl|⟨b,off,O',rfl,k1,k2,k3,k4⟩
   ·cases A with
    | none=>simp [Conv.bytesToString,Sem.run_pure]; rfl
    | some A=>exact hsome A (run_firstCells_some w 1 0 A 0 c [] (by simp) (by simp))
   ·refine hsome _ ?_
    have hc:=a0P k3
    have:=run_firstCells_some (P:=E.P) w 1 l.length ⟨b,off,none⟩ l.length c (l.map (Value.int .u8)) (by simp) (fun j u hu=>by
     rw [Addr.F6]; rw [← hc] at hu; exact J8 hu)
    simpa [Builtin.firstCells] using this
  ·split
   ·rename_i hx
    have hx':[a.eval x]=[Value.slice none 0 0]:=x8 h hx
    have hx':a.eval x=Value.slice none 0 0:=by simpa using hx'
    refine G2 he h (val:=.string ⟨([]:List UInt8).toArray⟩) ?_ (VX.str (by simp))
    rw [hx']
    simp [convert,Sem.run_bind,n9 f1,n9 f5,Result.andThen_ok,n9 f4,Conv.bytesToString,Sem.run_pure]
    rfl
   ·trivial
 ·trivial

end
end Go.Ex
