import Derived.Test.YtijlnmgondibnaaGreatDoorExK8
import Derived.WalkKit
import Derived.ProofKit
import Derived.OpenShut
import Derived.JoinedCond
set_option linter.unusedVariables false
set_option linter.unusedSimpArgs false
set_option linter.unusedSectionVars false
namespace Go.Ex
section
variable {E:Env} {B:E6} {S S':Nat->Prop} {ι:Ix} {s:St} {a:Act} {w:World} {hp:List (Nat×i6)} {H H':Array Go.Obj}
def At (P:Program) (fn:Func) (R:Ending->World->Prop) (k:List Item) (a:Act) (w:World):Prop :=
 ∀ (b:Frame) (cs:List Frame),∃ (e:Exit) (a':Act) (w':World),bodyPost P fn R e a' w'/\Arrives P (lone (b.at a k) cs w) b [] cs e a' w'
section at_
variable {P:Program} {fn:Func} {R:Ending->World->Prop} {k k':List Item}
theorem At.step (hs:∀ (b:Frame) (cs:List Frame),step P (lone (b.at a k) cs w)=.next (lone (b.at a k') cs w)) (h:At P fn R k' a w):At P fn R k a w :=
 λ b cs=>let ⟨e,a',w',q,r⟩:=h b cs; ⟨e,a',w',q,.of_steps (.one (hs b cs)) r⟩
theorem At.region {id:Nat} {ops:Array Oper} {d:Bool} (h:(Code.region id ops d).wp P (λ e a w=>e=.normal/\At P fn R k a w) a w):At P fn R (.code (.region id ops d)::k) a w:=by
 intro b cs;obtain ⟨e,a',w',⟨rfl,h2⟩,eO⟩:=h b k cs;obtain ⟨e,a'',w'',q,r⟩:=h2 b cs;exact ⟨e,a'',w'',q,.of_steps eO r⟩
theorem At.done (h:bodyPost P fn R .normal a w):At P fn R [] a w:=λ _ _=>⟨.normal,a,w,h,Steps.refl _ _⟩
theorem At.ret (h:bodyPost P fn R .ret a w):At P fn R (.code .ret::k) a w:=λ _ _=>⟨.ret,a,w,h,_,.one step_ret⟩
theorem b84 {f:FuncId} {c:Code} {args:Array Value} (hf:P.funcs[f]?=some fn) (hb:fn.body=some c)
  (h:At P fn R [.code c] { tmps:=args++Array.replicate (fn.ntmps - args.size) undef,defers:=[] } w):Calls P f args w R:=by
 intro cs
 let b:Frame:={ (default:Frame) with fn:=f,kind:=.normal }
 have lh:Frame.enter P f args .normal=b.at { tmps:=args++Array.replicate (fn.ntmps - args.size) undef,defers:=[] } [.code c]:=by
  simp [Frame.enter,Frame.at,hf,hb,b]
 obtain ⟨e,a',w',hq,eO⟩:=h b cs;rw [<- lh] at eO;cases e with
 | normal =>
  obtain ⟨hd,v,hr,hR⟩:=hq;exact ⟨.returned v,w',_,hR,Steps.trans eO (.one step_end),rfl,rfl,hd,rfl,fn,hf,hr⟩
 | ret =>
  obtain ⟨hd,v,hr,hR⟩:=hq;obtain ⟨todo,hs⟩:=eO;exact ⟨.returned v,w',_,hR,hs,rfl,rfl,hd,rfl,fn,hf,hr⟩
 | panic chain =>
  obtain ⟨hd,hR⟩:=hq;obtain ⟨todo,hs⟩:=eO;exact ⟨.panicked chain,w',_,hR,hs,rfl,rfl,hd,fn,hf⟩
 | exit id=>exact hq.elim
 | goto l=>exact hq.elim
 | outgrown=>exact ⟨.outgrown,w',b,hq,eO.resolve_left (by simp [b]),rfl,trivial⟩
end at_
theorem RS.Q6 (live:List Nat) (s0:St):∀ {l:List (Nat×i6)} {s:St},RS B S ι s a w->RS B S ι (Q6 live s0 l s) a w
 | [],_,h=>h
 | (i,_)::l,s,h=>by
  simp only [Ex.Q6]
  split
  ·exact RS.Q6 live s0 h
  ·rename_i hp
   simp only [aBu] at hp;exact RS.Q6 live s0 (h.drop hp.1)
theorem RS.Hi (h:RS B S ι s a w) {m d:Nat} (hf:s.fresh d=true) {t:Ty} {x:t.den} {O:List Nat} {cs:List Value} (hv:a.tmps.getD m (B.gd m)=l5 t cs) (hR:g9 w.heap S t O cs x) (hF:F2 B S ι s.hp w O) :
  ∃ ι',RS B S ι' { s.w8 d (.own t x) with fr:=Ex.put m (.at_ d []) s.fr } a w :=
 ⟨_,(h.hold hf hR hF).slot (t:=m) (v:=.at_ d []) (by rw [hv]; exact Aq hR.length)⟩
def zk (ι ι':Ix) (i j:Nat):Prop:=ι'.root j=ι.root i/\ι'.cells j=ι.cells i/\ι'.own j=ι.own i
theorem zk.place {ι':Ix} {i j:Nat} (h:zk ι ι' i j) {H:Array Go.Obj} {e:i6} {p:List Step}:Place H ι' j e p=Place H ι i e p:=by
 obtain ⟨h1,h2,h3⟩:=h;cases e<;>simp only [Place,VH,VR,h1,h2]
theorem zk.loc {ι':Ix} {i j:Nat} (h:zk ι ι' i j) {H:Array Go.Obj} {e:i6} {p:List Step}:Loc H ι' j e p=Loc H ι i e p:=by
 simp only [Loc,h.place]
theorem zk.BC {ι':Ix} {i j:Nat} (h:zk ι ι' i j) {H:Array Go.Obj} {e:i6} {p:List Step} {u:Ty} {cs:List Value}:Cells H ι' j e p u cs↔Cells H ι i e p u cs:=by
 have hv:VH H ι' j e=VH H ι i e:=by obtain ⟨h1,h2,h3⟩:=h; cases e<;>simp only [VH,h2]
 simp only [Cells,h.place,hv]
theorem RS.ren (h:RS B S ι s a w) {i j:Nat} (hi:pinned i=false) {u:Ty} {x:u.den} (h1:look i s.hp=some (.own u x)) (hf:s.fresh j=true) :
  ∃ ι',RS B S ι' { fr:=mapA (AV.ren i j) s.fr,hp:=Ex.put j (.own u x) (del i s.hp) } a w:=by
 obtain ⟨f1,f2⟩:=Ff hf;have bS:i≠j:=by rintro rfl; rw [f1] at h1; cases h1
 let ι':Ix:={ root:=λ k=>if k=j then ι.root i else ι.root k,cells:=λ k=>if k=j then ι.cells i else ι.cells k,own:=λ k=>if k=j then ι.own i else ι.own k }
 have lH:zk ι ι' i j:=⟨by simp [ι'],by simp [ι'],by simp [ι']⟩;have rf:∀ k,k≠j->F0 ι ι' k:=λ k hk=>⟨by simp [ι',hk],by simp [ι',hk],by simp [ι',hk]⟩;have hF:F2 B S ι (St.w9 [i] s).hp w (ι.own i):=by
  obtain ⟨⟨O,hO,hR⟩,aJ⟩:=(h.hs.ob i _ h1:OB w.heap S ι i (.own u x));exact F2.w9 h.hs aJ (λ b hb=>⟨i,_,by simp,h1,hb⟩)
 have aS:OB w.heap S ι' j (.own u x):=by
  obtain ⟨⟨O,hO,hR⟩,aJ⟩:=(h.hs.ob i _ h1:OB w.heap S ι i (.own u x));obtain ⟨e1,e2,e3⟩:=lH;exact ⟨⟨O,by rw [e3]; exact hO,by rw [e2]; exact hR⟩,by rw [e3]; exact aJ⟩
 have hd:=h.hs.drop hi;refine ⟨ι',⟨hd.add (d:=j) (e:=.own u x) (ι':=ι') (O:=ι.own i) ?_ rf aS ?_ hF,h.dfr,h.sz,?_⟩⟩
 ·rw [L8]; split<;>first|rfl|exact f1
 ·intro b hb
  have:ι'.own j=ι.own i:=lH.2.2;show b∈ι.own i;rw [<- this]; exact hb
 ·intro t v hv
  simp only [P9,aCl] at hv;obtain ⟨v0,eY,rfl⟩:=hv;have nQ:=f2 t v0 eY;refine VX.map (λ _ _=>rfl) (λ _ h=>h) (λ q vs hq hm hv=>?_) (h.fr t v0 eY);have df:∀ k,q.i8 k=true->k≠i->look k (Ex.put j (.own u x) (del i s.hp))=look k s.hp:=by
   intro k hk gC;have mX:k≠j:=by rintro rfl; rw [hm k hk] at nQ; cases nQ
   rw [o7,if_neg mX,L8,if_neg gC]
  have di:look j (Ex.put j (i6.own u x) (del i s.hp))=some (.own u x):=by rw [o7,if_pos rfl]
  dsimp only
  split
  ·rename_i bZ
   refine VX.other (λ k hk=>df k hk ?_) (λ k hk=>rf k ?_) hv
   ·rintro rfl; rw [hk] at bZ; cases bZ
   ·rintro rfl; rw [hm k hk] at nQ; cases nQ
  ·rename_i bZ
   split
   ·rename_i k p
    have:=aAd bZ;subst this;obtain ⟨e,b,off,k1,k2,k3,k4⟩:=hv;rw [h1] at k1; cases k1;exact ⟨_,b,off,di,k2,lH.loc.trans k3,k4⟩
   ·rename_i k p
    have:=aAd bZ;subst this;obtain ⟨e,u',y,cs,k1,k2,k3,k4,k5⟩:=hv;rw [h1] at k1; cases k1;exact ⟨_,u',y,cs,di,k2,k3,lH.BC.2 k4,k5⟩
   ·rename_i k p lo cN
    have:=aAd bZ;subst this;obtain ⟨e,v,k1,k2,k3,k4,k5,k6⟩:=hv;rw [h1] at k1; cases k1;refine ⟨_,v,di,k2,k3,k4,k5,?_⟩;rcases k6 with ⟨t',l,A,cap,q1,q2,q3,q4⟩|⟨n,t',l,b,off,q1,q2,q3,q4⟩
    ·exact .inl ⟨t',l,A,cap,q1,q2,lH.BC.2 q3,q4⟩
    ·exact .inr ⟨n,t',l,b,off,q1,q2,lH.loc.trans q3,q4⟩
   ·obtain ⟨y,e⟩:=VX.one hq hv
    exact ⟨y,e⟩
theorem RS.settle (h:RS B S ι s a w) (m:Nat) (t:Ty):∃ ι',RS B S ι' (settle m t s) a w:=by
 have hg:=h.get m;unfold Ex.settle
 split
 ·rename_i hm
  rw [hm] at hg;have hv:a.tmps.getD m (B.gd m)=Value.slice none 0 0:=by
   have:[a.tmps.getD m (B.gd m)]=[Value.slice none 0 0]:=hg;simpa using this
  split
  ·rename_i u hf
   exact h.Hi hf (t:=.d0 true u) (x:=([]:List u.den)) (O:=[]) (cs:=[.slice none 0 0]) hv (.inl ⟨rfl,⟨none,0,rfl,λ _=>rfl⟩,rfl⟩) F2.nil
  ·exact ⟨ι,h⟩
 ·rename_i i hm
  split
  ·rename_i u x aS
   split
   ·exact ⟨ι,h⟩
   ·rename_i hc
    simp only [aBu,aFe] at hc;exact h.ren hc.1 aS hc.2
  ·exact ⟨ι,h⟩
 ·rename_i i lo hi hm
  rw [hm] at hg
  split
  ·rename_i u x g cR
   split
   ·exact ⟨ι,h⟩
   ·rename_i hc
    simp only [aBu,aFe] at hc;obtain ⟨O,cs,k1,k2,k3,k4⟩:=Az h.hs cR hg;have eh:g=[i]:=by
     simp only [AV.vl] at cR;split at cR<;>cases cR;rfl
    subst eh;exact (h.drop hc.1).Hi hc.2 k1 k2 (F2.w9 h.hs k3 k4)
  ·exact ⟨ι,h⟩
 ·rename_i u x hm
  rw [hm] at hg
  split
  ·rename_i hc
   simp only [aAa] at hc;obtain ⟨cs,e,hR⟩:=hg;exact h.Hi hc.2 (by simpa using e) hR F2.nil
  ·exact ⟨ι,h⟩
 ·exact ⟨ι,h⟩
theorem RS.X9:∀ {l:List (Nat×Option Ty)} {ι:Ix} {s:St},RS B S ι s a w->∃ ι',RS B S ι' (X9 l s) a w
 | [],ι,s,h=>⟨ι,h⟩
 | (_,none)::l,ι,s,h=>RS.X9 (l:=l) h
 | (m,some t)::l,ι,s,h=>by
  obtain ⟨ι',h'⟩:=h.settle m t;exact RS.X9 (l:=l) h'
theorem RS.canon (h:RS B S ι s a w) (x:List (Nat×Option Ty)):∃ ι',RS B S ι' (canon x s) a w:=by
 have h1:RS B S ι (Ex.Q6 (x.map (·.1)) s s.hp s) a w:=RS.Q6 (x.map (·.1)) s h;obtain ⟨ι',h2⟩:=RS.X9 (l:=x) h1;have h3:=RS.Q6 (x.map (·.1)) (Ex.X9 x (Ex.Q6 (x.map (·.1)) s s.hp s)) (l:=(Ex.X9 x (Ex.Q6 (x.map (·.1)) s s.hp s)).hp) h2;refine ⟨ι',h3.hs,h3.dfr,h3.sz,?_⟩;intro t v hv;simp only [Ex.canon] at hv;generalize hs:Ex.Q6 (x.map (·.1)) (Ex.X9 x (Ex.Q6 (x.map (·.1)) s s.hp s)) (Ex.X9 x (Ex.Q6 (x.map (·.1)) s s.hp s)).hp (Ex.X9 x (Ex.Q6 (x.map (·.1)) s s.hp s))=s1 at hv h3;have:v=s1.get t:=by
  generalize x.map (·.1)=ts at hv;clear h3 hs;revert hv
  induction ts with
  | nil=>intro hv; cases hv
  | cons t' l ih =>
   intro hv;simp only [aDb,look] at hv;cases hb:Nat.beq t t' with
   | true =>
    rw [hb] at hv;have:=aAd hb;subst this;cases hv; rfl
   | false=>rw [hb] at hv; exact ih hv
 rw [this];have:=h3.get t;simp only [Ex.canon,hs];exact this
theorem KQ (hE:D3 E B) (h:RS B S ι s a w):∀ {rs:List ResultVar} {l:AV},yl E s rs=some l ->
  ∃ us,(rs.mapM λ r=>(match r with
   | .tmp t=>pure (a.tmps.getD t undef)
   | .cell c t=>do loadVar t (<- asAddr (a.tmps.getD c undef)):Sem Value)).run E.P w=.ok us w/\VX w.heap S ι s.hp l us
 | [],l,hl=>by
  simp only [yl,aAc] at hl;subst hl;exact ⟨[],rfl,rfl⟩
 | .tmp t::rs,l,hl=>by
  simp only [yl] at hl;split at hl
  ·rename_i v hv
   cases hl;obtain ⟨us,h1,h2⟩:=KQ hE h hv;exact ⟨a.tmps.getD t undef::us,by simp only [aGs,Sem.run_bind,Sem.run_pure,Result.andThen,h1],_,us,rfl,h.ev (.tmp t),h2⟩
  ·cases hl
 | .cell c T::rs,l,hl=>by
  simp only [yl] at hl;split at hl
  ·rename_i i p hc
   have hv:=h.ev (.tmp c);rw [hc] at hv;obtain ⟨e,b,off,k1,k2,k3,k4⟩:=hv;have k4:a.tmps.getD c undef=.pointer (some ⟨b,off,none⟩):=by
    have k5:[a.tmps.getD c undef]=[.pointer (some ⟨b,off,none⟩)]:=k4;exact List.head_eq_of_cons_eq k5
   split at hl
   ·rename_i u y cQ
    have hg:=I3 k1 cQ;split at hl
    ·rename_i bH
     split at hl
     ·rename_i v hv
      obtain ⟨us,h1,h2⟩:=KQ hE h hv;obtain ⟨O2,m1,mn,m2,m3,m4,m5⟩:=N5 (K9 k3) (h.hs.ob i _ k1) h.hs.slt k2 hg k3;have sU:(do loadVar T (<- asAddr (a.tmps.getD c undef)):Sem Value).run E.P w=.ok (l5 u (e8 w.heap b off u.size)) w:=by
       rw [k4]; simp [asAddr,CT (D6 hE bH) m2]
      refine ⟨l5 u (e8 w.heap b off u.size)::us,?_,?_⟩
      ·simp only [aGs]
       rw [Sem.run_bind,sU];simp only [Result.andThen,Sem.run_bind,Sem.run_pure,h1]
      ·split at hl
       ·rename_i hs
        cases hl;have:=m2.O7 hs;subst this;exact ⟨_,us,rfl,⟨_,rfl,m2⟩,h2⟩
       ·cases hl
        obtain ⟨r3,r4⟩:=C8 k3;exact ⟨_,us,rfl,⟨_,u,y,_,k1,k2,hg,⟨b,off,r3,by rw [l6 (G4 r4)]⟩,rfl⟩,h2⟩
     ·cases hl
    ·cases hl
   ·cases hl
  ·cases hl
theorem b8n (hE:D3 E B) (h:RS B S ι s a w) {fn:Func} (eK:fn.results.toList=E.res) {l:AV} (hl:yl E s E.res=some l) :
  ∃ us,(results fn a.tmps).run E.P w=.ok (wR us) w/\VX w.heap S ι s.hp l us:=by
 obtain ⟨us,h1,h2⟩:=KQ hE h hl;refine ⟨us,?_,h2⟩;rw [<- eK] at h1;have:(fn.results.mapM λ r=>(match r with
   | .tmp t=>pure (a.tmps.getD t undef)
   | .cell c t=>do loadVar t (<- asAddr (a.tmps.getD c undef)):Sem Value)).run E.P w=.ok us.toArray w:=by
  rw [aGu,Sem.run_map,h1]; rfl
 simp only [results];rw [Sem.run_bind];refine (congrArg (λ r:Result (Array Value)=>r.andThen λ vs w'=>Sem.run E.P (pure (if h:vs.size=1 then vs[0] else Value.tuple vs)) w') this).trans ?_;simp only [Result.andThen,Sem.run_pure]
 match us with
 | []=>rfl
 | [v]=>rfl
 | v::v2::l=>rfl
theorem c0T (h:HS B S ι s.hp w) {t:Ty} {used fc:List Nat} {av:AV} {x:t.den} {v:Value} (hr:Iv s t used av=some (x,fc)) (hv:VX w.heap S ι s.hp av [v]) :
  ∃ O cs,v=l5 t cs/\g9 w.heap S t O cs x/\O.Nodup/\(∀ b∈O,∃ i e,i∈fc/\i∉used/\pinned i=false/\look i s.hp=some e/\b∈l7 ι i e)/\∀ i∈used,i∈fc:=by
 unfold Iv at hr;split at hr
 ·rename_i i
  split at hr
  ·cases hr
  ·rename_i hc
   simp only [aBu] at hc;obtain ⟨dJ,il⟩:=hc;have kP:i∉used:=by intro hm; simp [hm] at dJ
   obtain ⟨e,u,y,cs,h1,h2,h3,h4,h5⟩:=hv;have key:∀ {e0:i6},s.obj i=some e0->(hu:e0.ty=t)->∀ {x},x=I8 hu e0.x->∃ O cs,v=l5 t cs/\g9 w.heap S t O cs x/\O.Nodup/\(∀ b∈O,∃ j e,j∈i::used/\j∉used/\pinned j=false/\look j s.hp=some e/\b∈l7 ι j e)/\∀ j∈used,j∈i::used:=by
    rintro e0 aS rfl x rfl;obtain rfl:=wG h1 aS;rw [C1] at h3; cases h3;obtain ⟨O2,m1,m2,m3⟩:=H5 h h1 h2 C1 h4;exact ⟨O2,cs,by simpa using h5,m3,m2,λ b hb=>⟨i,_,by simp,kP,il,h1,G6 (m1 b hb)⟩,λ j hj=>by simp [hj]⟩
   split at hr
   ·rename_i u' x' aS
    split at hr
    ·rename_i hu; cases hr; exact key (e0:=.var u' x') aS hu rfl
    ·cases hr
   ·rename_i u' x' aS
    split at hr
    ·rename_i hu; cases hr; exact key (e0:=.own u' x') aS hu rfl
    ·cases hr
   ·cases hr
 ·rename_i i lo hi
  split at hr
  ·cases hr
  ·rename_i hc
   simp only [aBu] at hc;obtain ⟨dJ,il⟩:=hc;have kP:i∉used:=by intro hm; simp [hm] at dJ
   split at hr
   ·rename_i u x' g cR
    split at hr
    ·rename_i hu
     cases hr;subst hu;obtain ⟨O,cs,k1,k2,k3,k4⟩:=Az h cR hv;have eh:g=[i]:=by
      simp only [AV.vl] at cR;split at cR<;>cases cR;rfl
     subst eh;refine ⟨O,cs,k1,k2,k3,λ b hb=>?_,λ j hj=>by simp [hj]⟩;obtain ⟨j,e,j1,j2,j3⟩:=k4 b hb;simp only [aAp,aDq,or_false] at j1;subst j1;exact ⟨j,e,by simp,kP,il,j2,j3⟩
    ·cases hr
   ·cases hr
 ·rename_i i
  split at hr
  ·cases hr
  ·rename_i hc
   simp only [aBu] at hc;obtain ⟨dJ,il⟩:=hc;have kP:i∉used:=by intro hm; simp [hm] at dJ
   split at hr
   ·rename_i u y aS
    split at hr
    ·rename_i hu
     subst hu;cases hr;obtain ⟨e,b,off,h1,h2,h3,h4⟩:=hv;obtain rfl:=wG h1 aS;obtain ⟨⟨O,hO,hR⟩,hf,aJ⟩:=h.ob i _ h1;have hl:(ι.root i).1=b/\(ι.root i).2=off:=by
      have:=(C8 h3).1;simp only [Place,y9,VR,aAc,aAx] at this;exact this
     obtain ⟨rfl,rfl⟩:=hl;refine ⟨(ι.root i).1::O,[.pointer (some ⟨(ι.root i).1,(ι.root i).2,none⟩)],by simpa [l5,Ty.agg] using h4,.inr ⟨_,_,_,O,rfl,rfl,hf.w6,hR,rfl,hf⟩,((hO.cons _).nodup_iff).2 aJ,λ c hc=>⟨i,_,by simp,kP,il,h1,?_⟩,λ j hj=>by simp [hj]⟩;simp only [l7];exact ((hO.cons _).mem_iff).1 hc
    ·cases hr
   ·cases hr
 ·rename_i f i
  split at hr
  ·cases hr
  ·rename_i hc
   simp only [aBu] at hc;obtain ⟨dJ,il⟩:=hc;have kP:i∉used:=by intro hm; simp [hm] at dJ
   split at hr
   ·rename_i u y aS
    split at hr
    ·rename_i hu
     subst hu;cases hr;obtain ⟨us,eT,v0,us0,rfl,⟨e,b,off,h1,h2,h3,h4⟩,kG⟩:=hv;have kG:us0=[]:=kG;subst kG;have h4:v0=.pointer (some ⟨b,off,none⟩):=by simpa using h4
     subst h4;obtain rfl:=wG h1 aS;obtain ⟨⟨O,hO,hR⟩,hf,aJ⟩:=h.ob i _ h1;have hl:(ι.root i).1=b/\(ι.root i).2=off:=by
      have:=(C8 h3).1;simp only [Place,y9,VR,aAc,aAx] at this;exact this
     obtain ⟨rfl,rfl⟩:=hl;refine ⟨(ι.root i).1::O,[xi (some f) ⟨(ι.root i).1,(ι.root i).2,none⟩],by simpa [l5,Ty.agg,xi] using eT,.inr ⟨_,_,_,O,rfl,rfl,hf.w6,hR,rfl,hf⟩,((hO.cons _).nodup_iff).2 aJ,λ c hc=>⟨i,_,by simp,kP,il,h1,?_⟩,λ j hj=>by simp [hj]⟩;simp only [l7];exact ((hO.cons _).mem_iff).1 hc
    ·cases hr
   ·cases hr
 ·split at hr
  ·cases hr
   have hv:v=Value.pointer none:=by
    have:[v]=[Value.pointer none]:=hv;simpa using this
   subst hv;exact ⟨[],[.pointer none],by simp [l5,Ty.agg],.inl ⟨rfl,rfl,rfl⟩,aAw,by simp,λ _ h=>h⟩
  ·cases hr
 ·split at hr
  ·rename_i x' hx
   cases hr;obtain ⟨cs,e,hR⟩:=Iu hx hv;exact ⟨[],cs,e,hR,aAw,by simp,λ _ h=>h⟩
  ·cases hr
theorem Tg (h:HS B S ι s.hp w):∀ {rs:List Ty} {used:List Nat} {l:AV} {y:DL rs} {us:List Value},Bf s rs used l=some y->VX w.heap S ι s.hp l us ->
  ∃ O,M3 w.heap S rs O us y/\O.Nodup/\∀ b∈O,∃ i e,i∉used/\pinned i=false/\look i s.hp=some e/\b∈l7 ι i e
 | [],used,l,y,us,hr,hv=>by
  cases l<;>simp only [Bf] at hr<;>first|cases hr|skip
  exact ⟨[],⟨rfl,hv⟩,aAw,by simp⟩
 | t::ts,used,l,y,us,hr,hv=>by
  cases l<;>simp only [Bf] at hr<;>first|cases hr|skip
  rename_i av bv;obtain ⟨v,us',rfl,ha,hb⟩:=hv;split at hr
  ·rename_i x fc h1
   split at hr
   ·rename_i y' h2
    cases hr;obtain ⟨O1,cs,k1,k2,k3,k4,k5⟩:=c0T h h1 ha;obtain ⟨O2,m1,m2,m3⟩:=Tg h h2 hb;refine ⟨O1++O2,⟨v,us',O1,O2,cs,rfl,rfl,k1,k2,m1⟩,aAg.2 ⟨k3,m2,?_⟩,?_⟩
    ·rintro c hc d hd rfl
     obtain ⟨i,e,i1,_,_,i2,i3⟩:=k4 c hc;obtain ⟨j,e',j1,_,j2,j3⟩:=m3 c hd;exact h.dj i j e e' i2 j2 (by rintro rfl; exact j1 i1) c i3 j3
    ·intro c hc
     rcases aAi.1 hc with hc|hc
     ·obtain ⟨i,e,_,i1,i4,i2,i3⟩:=k4 c hc
      exact ⟨i,e,i1,i4,i2,i3⟩
     ·obtain ⟨j,e',j1,j4,j2,j3⟩:=m3 c hc
      exact ⟨j,e',λ hj=>j1 (k5 j hj),j4,j2,j3⟩
   ·cases hr
  ·cases hr
def N2:(ks:List PK)->List Value->Nat->List (Nat×(Nat×Nat)×List Value)
 | .rw _::ks,v::vs,i=>(match v with
  | .pointer (some a)=>(2000000+i,(a.block,a.off),[])
  | _=>(2000000+i,(0,0),[]))::N2 ks vs (i+1)
 | .mu _::ks,v::vs,i=>(2000000+i,(0,0),[v])::N2 ks vs (i+1)
 | _::ks,_::vs,i=>N2 ks vs (i+1)
 | _,_,_=>[]
theorem Fs (h:HS B S ι s.hp w) {H0:Array Go.Obj} {S0:Nat->Prop}:∀ {ks:List PK} {vs:List Value} {x:DK ks} {L0:List Nat} {j:Nat} {z:DL (E8 ks)},V3 H0 S0 ks vs x L0->(∀ q∈N2 ks vs j,q∈B.pins)->vz s ks j=some z ->
  ∃ Lo,H4 w.heap S ks vs z Lo/\Lo.Nodup/\∀ b∈Lo,∃ i e,2000000+j<=i/\look i s.hp=some e/\b∈l7 ι i e
 | [],vs,x,L0,j,z,hK,_,hz=>⟨[],⟨hK.1,rfl⟩,aAw,by simp⟩
 | k::ks,vs,x,L0,j,z,⟨v,us,L1,L2,e1,e2,hk,hK⟩,hp,hz=>by
  subst e1 e2;have plain:∀ {z':DL (E8 ks)},(∀ q∈N2 ks us (j+1),q∈B.pins)->vz s ks (j+1)=some z'->∃ Lo,H4 w.heap S ks us z' Lo/\Lo.Nodup/\∀ b∈Lo,∃ i e,2000000+j<=i/\look i s.hp=some e/\b∈l7 ι i e:=by
   intro z' hp hz;obtain ⟨Lo,k1,k2,k3⟩:=Fs h hK hp hz;exact ⟨Lo,k1,k2,λ b hb=>by obtain ⟨i,e,i1,i2,i3⟩:=k3 b hb; exact ⟨i,e,by omega,i2,i3⟩⟩
  have join:∀ {L1 Lo:List Nat} {e0:i6},look (2000000+j) s.hp=some e0->L1.Nodup->(∀ b∈L1,b∈l7 ι (2000000+j) e0)->Lo.Nodup->(∀ b∈Lo,∃ i e,2000000+(j+1)<=i/\look i s.hp=some e/\b∈l7 ι i e) ->
    (L1++Lo).Nodup/\∀ b∈L1++Lo,∃ i e,2000000+j<=i/\look i s.hp=some e/\b∈l7 ι i e:=by
   intro L1 Lo e0 h1 n1 m1 n2 m2;refine ⟨aAg.2 ⟨n1,n2,?_⟩,?_⟩
   ·rintro c hc d hd rfl
    obtain ⟨i,e,i1,i2,i3⟩:=m2 c hd;exact h.dj (2000000+j) i e0 e h1 i2 (by omega) c (m1 c hc) i3
   ·intro b hb
    rcases aAi.1 hb with hb|hb
    ·exact ⟨_,e0,aAj _,h1,m1 b hb⟩
    ·obtain ⟨i,e,i1,i2,i3⟩:=m2 b hb; exact ⟨i,e,by omega,i2,i3⟩
  cases k with
  | v t=>obtain ⟨Lo,k1,k2⟩:=plain hp hz; exact ⟨Lo,⟨v,us,rfl,k1⟩,k2⟩
  | rd t=>obtain ⟨Lo,k1,k2⟩:=plain hp hz; exact ⟨Lo,⟨v,us,rfl,k1⟩,k2⟩
  | C7 f ts=>obtain ⟨Lo,k1,k2⟩:=plain hp hz; exact ⟨Lo,⟨v,us,rfl,k1⟩,k2⟩
  | W6=>obtain ⟨Lo,k1,k2⟩:=plain hp hz; exact ⟨Lo,⟨v,us,rfl,k1⟩,k2⟩
  | rcs f n=>obtain ⟨Lo,k1,k2⟩:=plain hp hz; exact ⟨Lo,⟨v,us,rfl,k1⟩,k2⟩
  | el q=>obtain ⟨Lo,k1,k2⟩:=plain hp hz; exact ⟨Lo,⟨v,us,rfl,k1⟩,k2⟩
  | own t=>obtain ⟨Lo,k1,k2⟩:=plain hp hz; exact ⟨Lo,⟨v,us,rfl,k1⟩,k2⟩
  | rw t =>
   obtain ⟨b0,off0,O0,rfl,_,_,_⟩:=hk;simp only [vz] at hz;split at hz
   ·rename_i u x' y' aS iq
    split at hz
    ·rename_i hu
     cases hz;subst hu;have aS:look (2000000+j) s.hp=some (.var u x'):=aS;obtain ⟨Lo,k1,k2,k3⟩:=Fs h hK (λ q hq=>hp q (by simp only [N2]; exact aBd _ hq)) iq;obtain ⟨_,_,p3,p4⟩:=h.pin (2000000+j,(b0,off0),[]) (hp _ (by simp [N2]));have p3:ι.root (2000000+j)=(b0,off0):=p3;obtain ⟨⟨O,hO,hR⟩,dV,aJ⟩:=(h.ob _ _ aS:OB w.heap S ι (2000000+j) (.var u x'));rw [p3] at hR dV aJ;have ez:(b0::O).Nodup:=aAs.2 ⟨λ hb=>(aAs.1 aJ).1 (hO.mem_iff.1 hb),hO.nodup_iff.2 (aAs.1 aJ).2⟩;obtain ⟨j1,j2⟩:=join aS ez (λ b hb=>by
      rcases aAp.1 hb with rfl|hb
      ·simp [l7,p3]
      ·simp [l7,hO.mem_iff.1 hb]) k2 k3
     exact ⟨(b0::O)++Lo,⟨b0,off0,O,us,Lo,rfl,hR,dV,rfl,k1⟩,j1,j2⟩
    ·cases hz
   ·cases hz
  | mu t =>
   obtain ⟨cs0,rfl,fD⟩:=hk;simp only [vz] at hz;split at hz
   ·rename_i u x' y' aS iq
    split at hz
    ·rename_i hu
     cases hz;subst hu;have aS:look (2000000+j) s.hp=some (.own (.d0 true t) x'):=aS;obtain ⟨Lo,k1,k2,k3⟩:=Fs h hK (λ q hq=>hp q (by simp only [N2]; exact aBd _ hq)) iq;obtain ⟨_,_,p3,p4⟩:=h.pin (2000000+j,(0,0),[l5 (.d0 true t) cs0]) (hp _ (by simp [N2]));have p4:ι.cells (2000000+j)=[l5 (.d0 true t) cs0]:=p4;obtain ⟨⟨O,hO,hR⟩,aJ⟩:=(h.ob _ _ aS:OB w.heap S ι (2000000+j) (.own (.d0 true t) x'));rw [p4] at hR;obtain ⟨j1,j2⟩:=join aS (hO.nodup_iff.2 aJ) (λ b hb=>hO.mem_iff.1 hb) k2 k3;exact ⟨O++Lo,⟨[l5 (.d0 true t) cs0],O,us,Lo,rfl,rfl,hR,rfl,k1⟩,j1,j2⟩
    ·cases hz
   ·cases hz
end
end Go.Ex
namespace Go.Ex
def zM {α:Type} (p:α->Prop) (l:List α):Prop:=∀ x∈l,p x
def H9:(t:Ty)->t.den->Prop
 | .int k,n=>r9 k n
 | .bool,_=>True
 | .str,s=>List.length s<=maxLen
 | .unit,_=>True
 | .fn _,_=>True
 | .hole _,_=>True
 | .B9 t,x=>List.length x.2.1<=maxLen/\zM (H9 t) x.2.1
 | .map _ k v,x=>match x with
  | none=>True
  | some l=>zM (λ p=>H9 k p.1/\H9 v p.2) l
 | .box _ _ t,x=>match x with
  | none=>True
  | some y=>H9 t y
 | .pair a b,x=>H9 a x.1/\H9 b x.2
 | .arr n t,l=>List.length l=n/\zM (H9 t) l
 | .d0 _ t,l=>List.length l<=maxLen/\zM (H9 t) l
def AV.H9:AV->Prop
 | .val t x=>Ex.H9 t x
 | .M1 t x=>Ex.H9 t x
 | _=>True
def Hd:List (Nat×AV)->Prop
 | []=>True
 | (_,v)::l=>v.H9/\Hd l
def Bj:List (Nat×i6)->Prop
 | []=>True
 | (_,.var t x)::l=>Ex.H9 t x/\Bj l
 | (_,.own t x)::l=>Ex.H9 t x/\Bj l
 | (_,.M0)::l=>Bj l
def St.H9 (s:St):Prop:=Hd s.fr/\Bj s.hp
def PK.H9:(k:PK)->k.den->Prop
 | .v t,x=>Ex.H9 t x
 | .rd t,x=>Ex.H9 t x
 | .C7 _ ts,x=>Hz ts x
 | .own t,x=>Ex.H9 t x
 | .rw t,x=>Ex.H9 t x
 | .mu t,x=>Ex.H9 (.d0 true t) x
 | .W6,_=>True
 | .rcs _ _,_=>True
 | .el _,_=>True
where Hz:(ts:List Ty)->DL ts->Prop
 | [],_=>True
 | t::ts,x=>Ex.H9 t x.1/\Hz ts x.2
def Hg:(ks:List PK)->DK ks->Prop
 | [],_=>True
 | k::ks,x=>k.H9 x.1/\Hg ks x.2
section
variable {E:Env} {B:E6} {S S':Nat->Prop} {ι:Ix} {s:St} {a:Act} {w:World} {hp:List (Nat×i6)} {H H':Array Go.Obj}
theorem j5.H9 {t:Ty} (hr:∀ {O:List Nat} {cs:List Value} {x:t.den},g9 H S t O cs x->Ex.H9 t x):∀ {l:List t.den} {O:List Nat} {cs:List Value},j5 (g9 H S t) t.size O cs l->zM (Ex.H9 t) l
 | [],_,_,_=>by intro x hx; cases hx
 | x::l,_,_,⟨O1,O2,_,h1,h2⟩=>by
  intro y hy;rcases aAp.1 hy with rfl|hy
  ·exact hr h1
  ·exact j5.H9 hr h2 y hy
theorem S3.H9 {t u:Ty} (hr:∀ {cs:List Value} {x:t.den},g9 H S t [] cs x->Ex.H9 t x) (kL:∀ {cs:List Value} {x:u.den},g9 H S u [] cs x->Ex.H9 u x):∀ {es:List MapEntry} {l:List (t.den×u.den)},S3 (g9 H S t []) (g9 H S u []) t u es l->zM (λ p=>Ex.H9 t p.1/\Ex.H9 u p.2) l
 | [],l,h=>by rw [show l=[] from h]; intro x hx; cases hx
 | e::es,l,⟨x,y,l',cs,ds,e1,_,h1,_,h2,h3⟩=>by
  rw [e1]; intro p hp;rcases aAp.1 hp with rfl|hp
  ·exact ⟨hr h1,kL h2⟩
  ·exact S3.H9 hr kL h3 p hp
theorem g9.H9:∀ {t:Ty} {O:List Nat} {cs:List Value} {x:t.den},g9 H S t O cs x->Ex.H9 t x:=by
 intro t
 induction t with
 | int k=>intro O cs x h; exact h.2.2
 | bool=>intro O cs x h; trivial
 | str=>intro O cs x h; exact h.2.2
 | fn f=>intro O cs x _; exact trivial
 | hole t _=>intro O cs x _; exact trivial
 | B9 t ih =>
  rintro O cs ⟨n,l,m⟩ h
  match n,h with
  | 0,h =>
   rcases h with ⟨_,_,h3⟩|⟨b,off,cap,O',c1,c2,c3,c4,c5,c6⟩
   ·subst h3; exact ⟨aAz _,by intro x hx; cases hx⟩
   ·exact ⟨aAv c2 c3.1,j5.H9 (λ h=>ih h) c5⟩
  | 1,h =>
   rcases h with ⟨_,_,h3⟩|⟨b,off,cap,O',c1,c2,c3,c4,c5,c6⟩
   ·subst h3; exact ⟨aAz _,by intro x hx; cases hx⟩
   ·exact ⟨aAv c2 c3.1,j5.H9 (λ h=>ih h) c5⟩
  | n+2,⟨b,off,O',c1,c2,c3,c4,c5⟩ =>
   have hr:=j5.H9 (λ h=>ih h) c4;exact ⟨by have:=c2.1; show List.length l<=maxLen; omega,λ x hx=>hr x (aAi.2 (.inl hx))⟩
 | map o k v ihk ihv =>
  rintro O cs x (⟨rfl,_⟩|⟨l,b,es,ck,rfl,_,_,h4,_⟩)
  ·trivial
  ·exact S3.H9 (λ h=>ihk h) (λ h=>ihv h) h4
 | box o g t ih =>
  rintro O cs x (⟨rfl,_⟩|⟨y,b,off,O',rfl,_,_,h3,_⟩)
  ·trivial
  ·exact ih h3
 | unit=>intro O cs x h; trivial
 | pair a c iha ihc=>rintro O cs x ⟨O1,O2,_,h1,h2⟩; exact ⟨iha h1,ihc h2⟩
 | arr n t ih=>rintro O cs x ⟨h1,h2⟩; exact ⟨h1,j5.H9 (λ h=>ih h) h2⟩
 | d0 o t ih =>
  rintro O cs x h;rcases h with ⟨_,_,h3⟩|⟨b,off,cap,O',c1,c2,c3,c4,c5,c6⟩
  ·subst h3; exact ⟨aAz _,by intro x hx; cases hx⟩
  ·exact ⟨aAv c2 c3.1,j5.H9 (λ h=>ih h) c5⟩
theorem VX.H9 {v:AV} {vs:List Value} (h:VX H S ι hp v vs):v.H9:=by
 cases v<;>try trivial
 ·obtain ⟨cs,_,h⟩:=h; exact h.H9
 ·obtain ⟨b,off,_,_,_,h⟩:=h; exact h.H9
theorem RS.H9 (h:RS B S ι s a w) (h1:uniq s.fr) (h2:uniq s.hp):s.H9:=by
 have look_tail:∀ {α:Type} {n m:Nat} {x:α} {l:List (Nat×α)} {y:α},look m l=none->look n l=some y->look n ((m,x)::l)=some y:=by
  intro α n m x l y h1 h2;simp only [look];cases hb:Nat.beq n m with
  | true =>
   have:=aAd hb;subst this;rw [h1] at h2; cases h2
  | false=>exact h2
 have fr:∀ l:List (Nat×AV),uniq l->(∀ t v,look t l=some v->v.H9)->Hd l:=by
  intro l
  induction l with
  | nil=>intro _ _; trivial
  | cons q l ih =>
   obtain ⟨n,v⟩:=q;rintro ⟨k0,k2⟩ k3;have k1:=Fc k0;exact ⟨k3 n v (by simp [look]),ih k2 (λ t v hv=>k3 t v (look_tail k1 hv))⟩
 have pk:∀ l:List (Nat×i6),uniq l->(∀ t e,look t l=some e->Ex.H9 e.ty e.x)->Bj l:=by
  intro l
  induction l with
  | nil=>intro _ _; trivial
  | cons q l ih =>
   obtain ⟨n,e⟩:=q;rintro ⟨k0,k2⟩ k3;have k1:=Fc k0;have h0:=k3 n e (by simp [look]);have h3:=ih k2 (λ t e he=>k3 t e (look_tail k1 he));cases e<;>first|exact ⟨h0,h3⟩|exact h3
 refine ⟨fr _ h1 (λ t v hv=>(h.fr t v hv).H9),pk _ h2 (λ i e he=>?_)⟩;have:=h.hs.ob i e he;cases e with
 | var t x=>obtain ⟨⟨O,_,hR⟩,_⟩:=this; exact hR.H9
 | own t x=>obtain ⟨⟨O,_,hR⟩,_⟩:=this; exact hR.H9
 | M0=>trivial
def E6.of (w:World) (S:Nat->Prop) (ps:List PK) (vs:List Value) (L:List Nat) (n:Nat) (gv:Value:=undef):E6:=⟨w,S,λ b=>b∈L,n,N2 ps vs 0,gv⟩
def GOk (gp:Option (List Step)) (gv:Value) (H:Array Go.Obj):(ps:List PK)->List Value->DL (E8 ps)->Prop
 | .rw t::_,vs,z=>(match gp,vs with
  | some p,.pointer (some ⟨b,off,none⟩)::_=>x8 t z.1 p/\∃ b' aA,y8 H t p b off=some (b',aA)/\gv=.pointer (some ⟨b',aA,none⟩)
  | _,_=>True)
 | _,_,_=>True
def VK (P:Program) (w0:World) (S0:Nat->Prop) (L:List Nat):Prop:=vv P w0 S0/\∀ b,S0 b->b<w0.heap.size/\¬ b∈L
def Reach (E:Env) (fn:Func) (y:DL E.rs) (z:DL (E8 E.ps)) (k:List Item) (s:St):Prop :=
 ∀ (w0:World) (S0:Nat->Prop) (vs:List Value) (x:DK E.ps) (L:List Nat) (gv:Value) (S:Nat->Prop) (ι:Ix) (a:Act) (w:World),VK E.P w0 S0 L->V3 w0.heap S0 E.ps vs x L ->
  RS (E6.of w0 S0 E.ps vs L fn.ntmps gv) S ι s a w->At E.P fn (λ e w'=>xK w0 S0 E.rs E.ps vs L y z e w'/\GOk E.gp gv w'.heap E.ps vs z) k a w
structure C0 (E:Env) (fn:Func):Prop where
 nt:fn.ntmps=E.nt
 res:fn.results.toList=E.res
theorem NZ:∀ {a b:List Ty} {x x':DL a} {y y':DL b},DL.app x y=DL.app x' y'->x=x'/\y=y'
 | [],_,_,_,_,_,h=>⟨rfl,h⟩
 | _::_,_,x,x',_,_,h=>by
  have h1:=congrArg Prod.fst h;have h2:=congrArg Prod.snd h;obtain ⟨h3,h4⟩:=NZ h2;exact ⟨Prod.ext h1 h3,h4⟩
theorem UC {fn:Func} {w0:World} {S0:Nat->Prop} {vs:List Value} {x:DK E.ps} {L:List Nat} {gv:Value} (hE:D3 E (E6.of w0 S0 E.ps vs L fn.ntmps gv)) (hf:C0 E fn) {y:DL E.rs} {z:DL (E8 E.ps)} {L':Code->List Item->St->Prop} (ht:(finish E s).holds L' (·=DL.app y z)) (hK:V3 w0.heap S0 E.ps vs x L)
  (h:RS (E6.of w0 S0 E.ps vs L fn.ntmps gv) S ι s a w) (hG:vz s E.ps 0=some z->GOk E.gp gv w.heap E.ps vs z) (e:Exit) (he:e=.normal\/e=.ret) :
  bodyPost E.P fn (λ e w'=>xK w0 S0 E.rs E.ps vs L y z e w'/\GOk E.gp gv w'.heap E.ps vs z) e a w:=by
 unfold finish at ht;split at ht
 ·exact ht.elim
 ·rename_i l hl
  split at ht
  ·rename_i y' z' hy hz
   have ht:DL.app y' z'=DL.app y z:=ht;obtain ⟨rfl,rfl⟩:=NZ ht;obtain ⟨us,h1,h2⟩:=b8n hE h hf.res hl;obtain ⟨O,k1,k2,k3⟩:=Tg h.hs hy h2;obtain ⟨Lo,m1,m2,m3⟩:=Fs h.hs hK (λ q hq=>hq) hz;have hR:xK w0 S0 E.rs E.ps vs L y' z' (.returned (wR us)) w:=by
    refine ⟨us,O,Lo,S,rfl,⟨h.hs.os,h.hs.tape,h.hs.out,h.hs.size,λ c hc hL=>h.hs.frame c hc hL⟩,h.hs.s0,λ b hb=>?_,k1,m1,aAg.2 ⟨k2,m2,?_⟩,λ b hb=>?_⟩
    ·rcases h.hs.s1 b hb with h1|h1
     ·exact .inl h1
     ·exact .inr ⟨h1,h.hs.slt b hb⟩
    ·rintro c hc d hd rfl
     obtain ⟨i,e,i0,ip,i1,i2⟩:=k3 c hc;obtain ⟨j,e',j0,j1,j2⟩:=m3 c hd;refine h.hs.dj i j e e' i1 j1 ?_ c i2 j2;rintro rfl;have:pinned i=true:=by simp only [pinned,aFs]; omega
     rw [ip] at this; cases this
    ·have:∃ i e,look i s.hp=some e/\b∈l7 ι i e:=by
      rcases aAi.1 hb with hb|hb
      ·obtain ⟨i,e,_,_,n2,n3⟩:=k3 b hb; exact ⟨i,e,n2,n3⟩
      ·obtain ⟨i,e,_,n2,n3⟩:=m3 b hb; exact ⟨i,e,n2,n3⟩
     obtain ⟨i,e,n2,n3⟩:=this;exact h.hs.bl i e n2 b n3
   rcases he with rfl|rfl
   ·exact ⟨h.dfr,_,h1,hR,hG hz⟩
   ·exact ⟨h.dfr,_,h1,hR,hG hz⟩
  ·exact ht.elim
theorem XZ {gv:Value} {H:Array Go.Obj}:∀ {ps:List PK} {vs:List Value} {z:DL (E8 ps)},GOk none gv H ps vs z
 | [],_,_=>trivial
 | k::_,_,_=>by cases k<;>trivial
theorem gok {H0:Array Go.Obj} {S0:Nat->Prop} {gv:Value} {p:List Step}:∀ {ps:List PK} {vs:List Value} {x:DK ps} {L:List Nat} {z:DL (E8 ps)},V3 H0 S0 ps vs x L->vz s ps 0=some z->(∀ q∈N2 ps vs 0,ι.root q.1=q.2.1)->VX H S ι s.hp (.ptr 2000000 p) [gv]->GOk (some p) gv H ps vs z
 | [],_,_,_,_,_,_,_,_=>trivial
 | k::ps,vs,x,L,z,⟨v,us,L1,L2,e1,_,hk,_⟩,hz,hp,hv=>by
  cases k with
  | rw t =>
   obtain ⟨b,off,O,rfl,_,_,_⟩:=hk;subst e1;have hr:ι.root 2000000=(b,off):=hp (2000000,(b,off),[]) (by simp [N2]);obtain ⟨e,b',aA,k1,k2,k3,k4⟩:=hv;unfold vz at hz;split at hz
   ·rename_i u x0 y0 ho hy
    have ho:look 2000000 s.hp=some (.var u x0):=ho;rw [k1] at ho; cases ho;split at hz
    ·rename_i hu
     subst hu;cases hz;obtain ⟨p1,_⟩:=C8 k3;have p1:y8 H u p (ι.root 2000000).1 (ι.root 2000000).2=some (b',aA):=p1;rw [hr] at p1;exact ⟨k2,b',aA,p1,by simpa using k4⟩
    ·cases hz
   ·cases hz
  | _=>trivial
theorem Ut {fn:Func} {w0:World} {S0:Nat->Prop} {vs:List Value} {x:DK E.ps} {L:List Nat} {gv:Value} (hE:D3 E (E6.of w0 S0 E.ps vs L fn.ntmps gv)) (hf:C0 E fn) {y:DL E.rs} {z:DL (E8 E.ps)} {L':Code->List Item->St->Prop} (ht:(Jf E s).holds L' (·=DL.app y z)) (hK:V3 w0.heap S0 E.ps vs x L)
  (h:RS (E6.of w0 S0 E.ps vs L fn.ntmps gv) S ι s a w) (e:Exit) (he:e=.normal\/e=.ret) :
  bodyPost E.P fn (λ e w'=>xK w0 S0 E.rs E.ps vs L y z e w'/\GOk E.gp gv w'.heap E.ps vs z) e a w:=by
 unfold Jf at ht;split at ht
 ·rename_i dO
  exact UC hE hf ht hK h (λ _=>by rw [dO]; exact XZ) e he
 ·rename_i p dO
  split at ht
  ·rename_i i q hl
   obtain ⟨⟨rfl,rfl,sG⟩,ht⟩:=ht;have ht:=ht ⟨rfl,rfl,sG⟩;refine UC hE hf ht hK h (λ hz=>?_) e he;rw [dO];refine gok (S:=S) (ι:=ι) hK hz (λ q hq=>(h.hs.pin q hq).2.2.1) ?_;have hv:=h.fr J4 _ hl;have aW:¬ J4<a.tmps.size:=by rw [h.sz]; show ¬ J4<fn.ntmps; rw [hf.nt]; omega
   have:a.tmps.getD J4 (E6.gd (E6.of w0 S0 E.ps vs L fn.ntmps gv) J4)=gv:=by
    rw [aCi,aCf (by omega)];rfl
   rw [this] at hv;exact hv
  ·exact ht.elim
theorem j7 {rs:List Ty} {L:Code->List Item->St->Prop} {R:DL rs->Prop} {b:Bool} {t e:Tree rs}:(cond b t e).holds L R↔(b=true->t.holds L R)/\(b=false->e.holds L R):=by
 cases b<;>simp
theorem yN:∀ {ks:List PK} {H:Array Go.Obj} {S:Nat->Prop} {vs:List Value} {x:DK ks} {L:List Nat},ks.any PK.l4=false->V3 H S ks vs x L->L=[]
 | [],_,_,_,_,_,_,h=>h.2
 | k::ks,_,_,_,_,_,hp,⟨v,us,L1,L2,_,e,h1,h2⟩=>by
  rw [aFl,aBu] at hp;have e2:=yN hp.2 h2;have e1:L1=[]:=by
   cases k<;>first|(exfalso; simp [PK.l4] at hp; done)|exact h1.1|exact h1
  rw [e,e1,e2]; rfl
theorem j6 (hE:w7 E) {fn:Func} (hf:C0 E fn) {y:DL E.rs} {z:DL (E8 E.ps)}:∀ {n:Nat} {k:List Item} {s:St},(exec E n k s).holds (λ c k s=>Reach E fn y z (.code c::.inLoop c::k) s) (·=DL.app y z)->Reach E fn y z k s
 | 0,k,s,ht=>ht.elim
 | n+1,k,s,ht=>by
  intro w0 S0 vs x L gv S ι a w eQ hK h;have hB:D3 E (E6.of w0 S0 E.ps vs L fn.ntmps gv):=⟨hE,eQ⟩;unfold exec at ht;split at ht
  ·obtain ⟨S2,ι2,h2⟩:=Y7 (E:=E) (l:=Cn E.res E.rs) (λ hp b hb=>by have hb:b∈L:=hb; rw [yN hp hK] at hb; cases hb) h
   exact At.done (Ut hB hf ht hK h2 _ (.inl rfl))
  ·refine At.step (λ b cs=>step_inBlock) ?_
   exact j6 hE hf ht w0 S0 vs x L gv S ι a w eQ hK h
  ·rename_i c k'
   refine At.step (λ b cs=>step_inLoop) ?_;obtain ⟨S2,ι2,h2⟩:=Y7 (E:=E) (l:=(look (R0 c) E.B8).getD []) (λ hp b hb=>by have hb:b∈L:=hb; rw [yN hp hK] at hb; cases hb) h;obtain ⟨ι',h'⟩:=h2.canon ((look (R0 c) E.B8).getD []);exact ht w0 S0 vs x L gv S2 ι' a w eQ hK h'
  ·rename_i c k'
   split at ht
   ·exact At.step (λ b cs=>step_skip) (j6 hE hf ht w0 S0 vs x L gv S ι a w eQ hK h)
   ·exact At.step (λ b cs=>step_seq) (j6 hE hf ht w0 S0 vs x L gv S ι a w eQ hK h)
   ·rename_i xc c1 c2
    split at ht
    ·rename_i g hg
     have cR:=VX.Ay (C3 h hg);refine At.step (λ b cs=>step_cond cR) ?_;cases g with
     | true=>exact j6 hE hf ht w0 S0 vs x L gv S ι a w eQ hK h
     | false=>exact j6 hE hf ht w0 S0 vs x L gv S ι a w eQ hK h
    ·exact ht.elim
   ·exact At.step (λ b cs=>step_block) (j6 hE hf ht w0 S0 vs x L gv S ι a w eQ hK h)
   ·rename_i c'
    obtain ⟨S2,ι2,h2⟩:=Y7 (E:=E) (l:=(look (R0 c') E.B8).getD []) (λ hp b hb=>by have hb:b∈L:=hb; rw [yN hp hK] at hb; cases hb) h;obtain ⟨ι',h'⟩:=h2.canon ((look (R0 c') E.B8).getD []);exact At.step (λ b cs=>step_loop) (ht w0 S0 vs x L gv S2 ι' a w eQ hK h')
   ·split at ht
    ·rename_i k2 hx
     exact At.step (λ b cs=>step_exit hx) (j6 hE hf ht w0 S0 vs x L gv S ι a w eQ hK h)
    ·exact ht.elim
   ·obtain ⟨S2,ι2,h2⟩:=Y7 (E:=E) (l:=Cn E.res E.rs) (λ hp b hb=>by have hb:b∈L:=hb; rw [yN hp hK] at hb; cases hb) h
    exact At.ret (Ut hB hf ht hK h2 _ (.inr rfl))
   ·rename_i id ops draw
    split at ht
    ·obtain ⟨S,ι,h⟩:=Tt (E:=E) (λ hp b hb=>by have hb:b∈L:=hb; rw [yN hp hK] at hb; cases hb) h ops
     refine At.region (wp_region_list ?_);exact X2 hB (by exact hf.nt) (λ hp b hb=>by have hb:b∈L:=hb; rw [yN hp hK] at hb; cases hb) (m:=0) (l:=ops.toList) (Q:=λ e a w=>e=.normal/\At E.P fn (λ e w'=>xK w0 S0 E.rs E.ps vs L y z e w'/\GOk E.gp gv w'.heap E.ps vs z) k' a w) (λ S' ι' s' a' w' h1 h2=>⟨rfl,j6 hE hf h2 w0 S0 vs x L gv S' ι' a' w' eQ hK h1⟩) h ht
    ·skip
     obtain ⟨S,ι,h⟩:=c0Y (E:=E) (λ hp b hb=>by have hb:b∈L:=hb; rw [yN hp hK] at hb; cases hb) h ops;generalize zU E ops s=s at h ht;split at ht
     ·rename_i hd
      rcases RY (bK:=[]) rfl (by simp) ht with ⟨s',h1,h2⟩|⟨q,s',_,hA,h1,h2⟩
      ·exact At.region (b6v hB (by exact hf.nt) hd h1 (λ S' ι' a' w' h3=>⟨rfl,j6 hE hf h2 w0 S0 vs x L gv S' ι' a' w' eQ hK h3⟩) h.K8)
      ·have dn:look q.d (K8 ops.toList s).fr=some .any:=by
        obtain ⟨oa,c,a1,_,a3,_,a5,a6,_⟩:=hA;exact FE a5 a6 a3 (by have:=Array.mem_of_getElem? a1; simpa using this)
       exact At.region (c1w hB (by exact hf.nt) hd hA h1 h2 dn (λ S' ι' s2 a' w' h3 h4=>⟨rfl,j6 hE hf h4 w0 S0 vs x L gv S' ι' a' w' eQ hK h3⟩) h.K8)
     ·split at ht
      ·rename_i hd
       obtain ⟨s',h1,h2⟩:=RZ (bK:=[]) rfl (by simp) ht;exact At.region (b45 hB (by exact hf.nt) hd h1 (λ S' ι' a' w' h3=>⟨rfl,j6 hE hf h2 w0 S0 vs x L gv S' ι' a' w' eQ hK h3⟩) h.K8)
      ·exact ht.elim
   ·exact ht.elim
  ·exact ht.elim
theorem Tree.holds.mono {rs:List Ty} {L L':Code->List Item->St->Prop} {R:DL rs->Prop}:∀ {t:Tree rs},t.holds L R->(∀ c k s,L c k s->L' c k s)->t.holds L' R
 | .f8 _ _,h,hl=>⟨h.1,λ hp=>(h.2 hp).mono hl⟩
 | .both _ _ _,h,hl=>⟨λ hp=>(h.1 hp).mono hl,h.2.mono hl⟩
 | .cut c k s,h,hl=>hl c k s h
 | .ret _,h,_=>h
 | .stuck _,h,_=>h
theorem Reach.loop (hE:w7 E) {fn:Func} (hf:C0 E fn) {y:DL E.rs} {z:DL (E8 E.ps)} {c:Code} {k:List Item} {α:Type} (mk:α->St) (I:α->Prop) (μ:α->Nat) (n:Nat) (hu:∀ x,uniq (mk x).fr/\uniq (mk x).hp)
  (h:∀ x,I x->(mk x).H9->(exec E n (.code c::.inLoop c::k) (mk x)).holds (λ c' k' s'=>(c'=c/\k'=k/\∃ x',s'=mk x'/\I x'/\μ x'<μ x)\/Reach E fn y z (.code c'::.inLoop c'::k') s') (·=DL.app y z)) :
  ∀ x,I x->Reach E fn y z (.code c::.inLoop c::k) (mk x):=by
 have key:∀ m x,μ x=m->I x->Reach E fn y z (.code c::.inLoop c::k) (mk x):=by
  intro m
  induction m using Nat.strongRecOn with
  | _ m ih =>
   intro x hm hI w0 S0 vs x0 L gv S ι a w eQ hK cn;have hx:=h x hI (cn.H9 (hu x).1 (hu x).2);refine j6 hE hf (hx.mono ?_) w0 S0 vs x0 L gv S ι a w eQ hK cn;rintro c' k' s' (⟨rfl,rfl,x',rfl,h1,h2⟩|h1)
   ·exact ih (μ x') (hm▸h2) x' rfl h1
   ·exact h1
 exact λ x hI=>key (μ x) x rfl hI
end
end Go.Ex
namespace Go.Ex
section
variable {E:Env} {B:E6} {S S':Nat->Prop} {ι:Ix} {s:St} {a:Act} {w:World} {hp:List (Nat×i6)} {H H':Array Go.Obj}
theorem VX.has {v:AV} {i:Nat}:∀ {vs:List Value},VX H S ι hp v vs->v.i8 i=true->∃ e,look i hp=some e:=by
 induction v with
 | cons a b iha ihb =>
  rintro vs ⟨v,us,_,ha,hb⟩ hm;simp only [AV.i8,aBo] at hm;exact hm.elim (iha ha) (ihb hb)
 | K6 l ih=>rintro vs ⟨us,_,h⟩ hm; exact ih h hm
 | C7 f l ih=>rintro vs ⟨us,_,h⟩ hm; exact ih h hm
 | bx l ih=>rintro vs ⟨_,_,u,_,_,_,_,h⟩ hm; exact ih h hm
 | rc f l ih=>rintro vs ⟨_,_,u,_,_,_,_,h⟩ hm; exact ih h hm
 | ptr j p=>rintro vs ⟨e,_,_,h1,_⟩ hm; have:=aAd hm; subst this; exact ⟨e,h1⟩
 | at_ j p=>rintro vs ⟨e,_,_,_,h1,_⟩ hm; have:=aAd hm; subst this; exact ⟨e,h1⟩
 | sub j p a b=>rintro vs ⟨e,_,h1,_⟩ hm; have:=aAd hm; subst this; exact ⟨e,h1⟩
 | _=>intro vs _ hm; cases hm
structure HF (B:E6) (S:Nat->Prop) (w:World) (ks:List PK) (vs:List Value) (x:DK ks) (L:List Nat) (i:Nat) (ι:Ix):Prop where
 hs:HS B S ι (F4 ks x i) w
 fr:∀ t v,look t (W9 ks x i)=some v->i<=t/\∃ val,vs[t - i]?=some val/\VX w.heap S ι (F4 ks x i) v [val]
 pins:∀ q∈N2 ks vs i,pinned q.1=true/\(∃ e,look q.1 (F4 ks x i)=some e)/\ι.root q.1=q.2.1/\ι.cells q.1=q.2.2
 keys:∀ k e,look k (F4 ks x i)=some e->∃ m,i<=m/\m<1000/\(k=1500000+m\/k=2000000+m)
 own:∀ k e,look k (F4 ks x i)=some e->∀ b∈l7 ι k e,b∈L
 rest:∀ k,look k (F4 ks x i)=none->ι.root k=(0,0)/\ι.cells k=[]
theorem Nj (hB:B.pins=[]) (hw:B.w0=w) (eQ:B.S0=S) (hS:∀ b,S b->b<w.heap.size):∀ {ks:List PK} {vs:List Value} {x:DK ks} {L:List Nat} {i:Nat},V3 w.heap S ks vs x L->L.Nodup->(∀ b∈L,¬ S b/\B.M b/\b<w.heap.size)->i+ks.length<=1000->∃ ι,HF B S w ks vs x L i ι
 | [],vs,x,L,i,hK,_,_,_=>by
  refine ⟨⟨λ _=>(0,0),λ _=>[],λ _=>[]⟩,⟨?_,?_,?_,?_,?_,λ k _=>⟨rfl,rfl⟩⟩⟩
  ·subst hw
   subst eQ;refine ⟨rfl,.refl _,rfl,aAj _,λ _ _ _=>rfl,hS,λ _ h=>h,λ b hb=>.inl hb,?_,?_,?_,?_⟩
   ·intro i e hi; cases hi
   ·intro i e hi; cases hi
   ·intro i j ei ej hi; cases hi
   ·intro q hq; rw [hB] at hq; cases hq
  ·intro t v h; cases h
  ·intro q hq; simp [N2] at hq
  ·intro k e h; cases h
  ·intro k e h; cases h
 | k::ks,vs,x,L,i,⟨v,us,L1,L2,e1,e2,hk,hK⟩,hn,hL,hi=>by
  subst e1 e2;have lP:=aAg.1 hn;obtain ⟨ι,hb⟩:=Nj (i:=i+1) hB hw eQ hS hK lP.2.1 (λ b hb=>hL b (by simp [hb])) (by simp only [aAh] at hi; omega);simp only [aAh] at hi;have plain:∀ {v0:AV},W9 (k::ks) x i=(i,v0)::W9 ks x.2 (i+1)->F4 (k::ks) x i=F4 ks x.2 (i+1)->N2 (k::ks) (v::us) i=N2 ks us (i+1)->VX w.heap S ι (F4 ks x.2 (i+1)) v0 [v]->∃ ι,HF B S w (k::ks) (v::us) x (L1++L2) i ι:=by
   intro v0 h1 h2 h3 h4;refine ⟨ι,by rw [h2]; exact hb.hs,?_,by rw [h3,h2]; exact hb.pins,?_,?_,by rw [h2]; exact hb.rest⟩
   ·intro t u hu
    rw [h1] at hu;simp only [look] at hu;rw [h2];cases ln:Nat.beq t i with
    | true =>
     rw [ln] at hu;have:=aAd ln;subst this;cases hu;exact ⟨aAj _,v,by simp,h4⟩
    | false =>
     rw [ln] at hu;obtain ⟨k1,val,k2,k3⟩:=hb.fr t u hu;refine ⟨by omega,val,?_,k3⟩;rw [show t - i=(t - (i+1))+1 from by omega];simpa using k2
   ·intro q e hq
    rw [h2] at hq;obtain ⟨m,m1,m2,m3⟩:=hb.keys q e hq;exact ⟨m,by omega,m2,m3⟩
   ·intro q e hq b eu
    rw [h2] at hq;exact aBr _ (hb.own q e hq b eu)
  have obj:∀ {v0:AV} {d:Nat} {e:i6} {ι':Ix},W9 (k::ks) x i=(i,v0)::W9 ks x.2 (i+1)->F4 (k::ks) x i=Ex.put d e (F4 ks x.2 (i+1))->(d=1500000+i\/d=2000000+i) ->
    (∀ q∈N2 (k::ks) (v::us) i,q∈N2 ks us (i+1)\/(pinned q.1=true/\q.1=d/\ι'.root d=q.2.1/\ι'.cells d=q.2.2))->(∀ j,j≠d->F0 ι ι' j)->OB w.heap S ι' d e->(∀ b∈l7 ι' d e,b∈L1) ->
    VX w.heap S ι' (Ex.put d e (F4 ks x.2 (i+1))) v0 [v]->∃ ι,HF B S w (k::ks) (v::us) x (L1++L2) i ι:=by
   intro v0 d e ι' h1 h2 hd h3 hs aS bO h4;have eM:look d (F4 ks x.2 (i+1))=none:=by
    cases df:look d (F4 ks x.2 (i+1)) with
    | none=>rfl
    | some e'=>exfalso; obtain ⟨m,m1,m2,m3⟩:=hb.keys d e' df; omega
   have hF:F2 B S ι (F4 ks x.2 (i+1)) w L1:=by
    refine ⟨lP.1,λ b eu=>?_⟩;obtain ⟨l1,l2,l3⟩:=hL b (by simp [eu]);exact ⟨l1,.inr l2,l3,λ j ej hj jd=>lP.2.2 b eu b (hb.own j ej hj b jd) rfl⟩
   have gi:∀ {u:AV} {us':List Value},VX w.heap S ι (F4 ks x.2 (i+1)) u us'->u.i8 d=false:=by
    intro u us' hu;cases hm:u.i8 d with
    | false=>rfl
    | true=>obtain ⟨e',eD⟩:=hu.has hm; rw [eM] at eD; cases eD
   refine ⟨ι',by rw [h2]; exact hb.hs.add eM hs aS bO hF,?_,?_,?_,?_,?_⟩
   ·intro t u hu
    rw [h1] at hu;simp only [look] at hu;rw [h2];cases ln:Nat.beq t i with
    | true =>
     rw [ln] at hu;have:=aAd ln;subst this;cases hu;exact ⟨aAj _,v,by simp,h4⟩
    | false =>
     rw [ln] at hu;obtain ⟨k1,val,k2,k3⟩:=hb.fr t u hu;refine ⟨by omega,val,?_,VX.add hs (gi k3) k3⟩;rw [show t - i=(t - (i+1))+1 from by omega];simpa using k2
   ·intro q hq
    rw [h2];rcases h3 q hq with hq|⟨q1,q2,q3,q4⟩
    ·obtain ⟨r1,⟨e',r2⟩,r3,r4⟩:=hb.pins q hq
     have bt:q.1≠d:=by intro jU; rw [jU,eM] at r2; cases r2
     obtain ⟨s1,s2,s3⟩:=hs q.1 bt;exact ⟨r1,⟨e',by rw [o7,if_neg bt]; exact r2⟩,s1.trans r3,s2.trans r4⟩
    ·exact ⟨q1,⟨e,by rw [o7,if_pos q2]⟩,by rw [q2]; exact q3,by rw [q2]; exact q4⟩
   ·intro q e' hq
    rw [h2,o7] at hq;split at hq
    ·rename_i jU; exact ⟨i,aAj _,by omega,by omega⟩
    ·obtain ⟨m,m1,m2,m3⟩:=hb.keys q e' hq
     exact ⟨m,by omega,m2,m3⟩
   ·intro q e' hq b eu
    rw [h2,o7] at hq;split at hq
    ·rename_i jU; subst jU; cases hq; exact aBb _ (bO b eu)
    ·rename_i jU
     rw [(hs q jU).l7] at eu;exact aBr _ (hb.own q e' hq b eu)
   ·intro q hq
    rw [h2,o7] at hq;split at hq
    ·cases hq
    ·rename_i jU
     obtain ⟨s1,s2,s3⟩:=hs q jU;obtain ⟨r1,r2⟩:=hb.rest q hq;exact ⟨s1.trans r1,s2.trans r2⟩
  have jT:∀ d,d=1500000+i\/d=2000000+i->ι.root d=(0,0)/\ι.cells d=[]:=by
   intro d hd;refine hb.rest d ?_;cases df:look d (F4 ks x.2 (i+1)) with
   | none=>rfl
   | some e'=>exfalso; obtain ⟨m,m1,m2,m3⟩:=hb.keys d e' df; omega
  cases k with
  | v t=>obtain ⟨_,cs,e1,hR⟩:=hk; exact plain rfl rfl rfl ⟨cs,by rw [e1],hR⟩
  | W6=>exact plain rfl rfl rfl (by rw [hk.2]; rfl)
  | rcs f n=>exact plain rfl rfl rfl ⟨_,rfl⟩
  | el q=>exact plain rfl rfl rfl ⟨_,rfl⟩
  | rd t=>obtain ⟨_,b,off,e1,k1,k2,k3⟩:=hk; exact plain rfl rfl rfl ⟨b,off,by rw [e1],k1,k2,k3⟩
  | C7 f ts =>
   obtain ⟨_,ws,e1,hl⟩:=hk;refine plain rfl rfl rfl ⟨ws,by rw [e1],?_⟩;have:∀ {ts:List Ty} {ws:List Value} {y:DL ts},RdL w.heap S ts ws y->VX w.heap S ι (F4 ks x.2 (i+1)) (W9.rdA ts y) ws:=by
    intro ts
    induction ts with
    | nil=>intro ws y h; exact h
    | cons t ts ih =>
     rintro ws y ⟨v,us,e,⟨b,off,e1,k1,k2,k3⟩,hl⟩;exact ⟨v,us,e,⟨b,off,by rw [e1],k1,k2,k3⟩,ih hl⟩
   exact this hl
  | own t =>
   obtain ⟨cs,rfl,hR⟩:=hk;refine obj (d:=1500000+i) (e:=.own t x.1) (ι':=ι.V6 (1500000+i) cs L1) rfl rfl (.inl rfl) (λ q hq=>.inl hq) (λ j hj=>FG hj _ _) ⟨⟨L1,by simp [Ix.V6],by simpa [Ix.V6] using hR⟩,by simpa [Ix.V6] using lP.1⟩ ?_ (Aq hR.length);intro b hb; simpa [l7,Ix.V6] using hb
  | rw t =>
   obtain ⟨b,off,O,rfl,hR,hf,rfl⟩:=hk;refine obj (d:=2000000+i) (e:=.var t x.1) (ι':=ι.V0 (2000000+i) (b,off) O) rfl rfl (.inr rfl) ?_ (λ j hj=>LG hj _ _) ⟨⟨O,by simp [Ix.V0],by simpa [Ix.V0] using hR⟩,by simpa [Ix.V0] using hf,by simpa [Ix.V0] using lP.1⟩ ?_
    (IS (s:=⟨[],F4 ks x.2 (i+1)⟩) (r:=(b,off)) (o:=O) hf.lt)
   ·intro q hq
    simp only [N2,aAp] at hq;rcases hq with rfl|hq
    ·exact .inr ⟨by simp only [pinned,aFs]; omega,rfl,by simp [Ix.V0],by simpa [Ix.V0] using (jT (2000000+i) (.inr rfl)).2⟩
    ·exact .inl hq
   ·intro c hc; simpa [l7,Ix.V0] using hc
  | mu t =>
   obtain ⟨cs,rfl,hR⟩:=hk;have hcs:cs=[l5 (.d0 true t) cs]:=by
    have:=hR.length
    match cs,this with
    | [c],_=>rfl
   refine obj (d:=2000000+i) (e:=.own (.d0 true t) x.1) (ι':=ι.V6 (2000000+i) cs L1) rfl rfl (.inr rfl) ?_ (λ j hj=>FG hj _ _) ⟨⟨L1,by simp [Ix.V6],by simpa [Ix.V6] using hR⟩,by simpa [Ix.V6] using lP.1⟩ ?_ (Aq hR.length)
   ·intro q hq
    simp only [N2,aAp] at hq;rcases hq with rfl|hq
    ·exact .inr ⟨by simp only [pinned,aFs]; omega,rfl,by simpa [Ix.V6] using (jT (2000000+i) (.inr rfl)).1,by simpa [Ix.V6] using hcs⟩
    ·exact .inl hq
   ·intro b hb; simpa [l7,Ix.V6] using hb
theorem Na:∀ {ks:List PK} {vs:List Value} {x:DK ks} {L:List Nat},V3 H S ks vs x L->Hg ks x
 | [],_,_,_,_=>trivial
 | k::ks,vs,x,L,⟨v1,us,L1,L2,e,_,h1,h2⟩=>by
  refine ⟨?_,Na h2⟩;cases k with
  | v t=>obtain ⟨_,cs,e1,hR⟩:=h1; exact hR.H9
  | rd t=>obtain ⟨_,b,off,e1,k1,k2,k3⟩:=h1; exact k3.H9
  | own t=>obtain ⟨cs,e1,hR⟩:=h1; exact hR.H9
  | rw t=>obtain ⟨b,off,O,e1,hR,_⟩:=h1; exact hR.H9
  | mu t=>obtain ⟨cs,e1,hR⟩:=h1; exact hR.H9
  | W6=>trivial
  | rcs f n=>trivial
  | el q=>trivial
  | C7 f ts =>
   obtain ⟨_,ws,e1,hl⟩:=h1;have:∀ {ts:List Ty} {ws:List Value} {y:DL ts},RdL H S ts ws y->PK.H9.Hz ts y:=by
    intro ts
    induction ts with
    | nil=>intro ws y h; trivial
    | cons t ts ih =>
     rintro ws y ⟨v,us,e,⟨b,off,e1,k1,k2,k3⟩,hl⟩;exact ⟨k3.H9,ih hl⟩
   exact this hl
theorem MZ:∀ {ks:List PK} {vs:List Value} {x:DK ks} {L:List Nat},V3 H S ks vs x L->vs.length=ks.length
 | [],_,_,_,h=>by rw [h.1]; rfl
 | k::ks,vs,x,L,⟨v1,us,L1,L2,e,_,_,h2⟩=>by rw [e]; simp [MZ h2]
theorem TZ:∀ {ks:List PK} {x:DK ks} {i k:Nat} {e:i6},look k (F4 ks x i)=some e->∃ m,i<=m/\m<i+ks.length/\(k=1500000+m\/k=2000000+m)
 | [],_,_,_,_,h=>by cases h
 | k0::ks,x,i,k,e,h=>by
  have rest:look k (F4 ks x.2 (i+1))=some e->∃ m,i<=m/\m<i+(k0::ks).length/\(k=1500000+m\/k=2000000+m):=by
   intro h;obtain ⟨m,h1,h2,h3⟩:=TZ h;exact ⟨m,by omega,by simp only [aAh]; omega,h3⟩
  have put_:∀ {d:Nat} {e0:i6},(d=1500000+i\/d=2000000+i)->look k (Ex.put d e0 (F4 ks x.2 (i+1)))=some e->∃ m,i<=m/\m<i+(k0::ks).length/\(k=1500000+m\/k=2000000+m):=by
   intro d e0 hd h;rw [o7] at h;split at h
   ·rename_i hk; subst hk; exact ⟨i,aAj _,by simp only [aAh]; omega,hd⟩
   ·exact rest h
  cases k0 with
  | own t=>exact put_ (.inl rfl) h
  | rw t=>exact put_ (.inr rfl) h
  | mu t=>exact put_ (.inr rfl) h
  | _=>exact rest h
def wA (hp:List (Nat×i6)) (ι:Ix):(ks:List PK)->List Value->DK ks->Nat->Prop
 | [],_,_,_=>True
 | .rw t::ks,vs,x,i=>(look (2000000+i) hp=some (.var t x.1)/\∃ us,vs=.pointer (some ⟨(ι.root (2000000+i)).1,(ι.root (2000000+i)).2,none⟩)::us)/\wA hp ι ks (vs.drop 1) x.2 (i+1)
 | .v _::ks,vs,x,i=>wA hp ι ks (vs.drop 1) x.2 (i+1)
 | .rd _::ks,vs,x,i=>wA hp ι ks (vs.drop 1) x.2 (i+1)
 | .C7 _ _::ks,vs,x,i=>wA hp ι ks (vs.drop 1) x.2 (i+1)
 | .own _::ks,vs,x,i=>wA hp ι ks (vs.drop 1) x.2 (i+1)
 | .mu _::ks,vs,x,i=>wA hp ι ks (vs.drop 1) x.2 (i+1)
 | .W6::ks,vs,x,i=>wA hp ι ks (vs.drop 1) x.2 (i+1)
 | .rcs _ _::ks,vs,x,i=>wA hp ι ks (vs.drop 1) x.2 (i+1)
 | .el _::ks,vs,x,i=>wA hp ι ks (vs.drop 1) x.2 (i+1)
theorem xn:∀ {ks:List PK} {vs:List Value} {x:DK ks} {L:List Nat} {i:Nat},V3 H S ks vs x L->i+ks.length<=1000->(∀ k e,look k (F4 ks x i)=some e->look k hp=some e)->(∀ q∈N2 ks vs i,ι.root q.1=q.2.1)->wA hp ι ks vs x i
 | [],_,_,_,_,_,_,_,_=>trivial
 | k::ks,vs,x,L,i,⟨v,us,L1,L2,e1,_,hk,hK⟩,hi,hh,eU=>by
  subst e1;simp only [aAh] at hi;have sub:∀ {d:Nat} {e0:i6},(d=1500000+i\/d=2000000+i)->(∀ k e,look k (Ex.put d e0 (F4 ks x.2 (i+1)))=some e->look k hp=some e)->∀ k e,look k (F4 ks x.2 (i+1))=some e->look k hp=some e:=by
   intro d e0 hd hh k e h;refine hh k e ?_;rw [o7,if_neg]
   ·exact h
   ·rintro rfl
    obtain ⟨m,h1,h2,h3⟩:=TZ h;omega
  cases k with
  | rw t =>
   obtain ⟨b,off,O,rfl,_,_,_⟩:=hk;have hr:ι.root (2000000+i)=(b,off):=eU (2000000+i,(b,off),[]) (by simp [N2]);refine ⟨⟨hh _ _ (by simp only [F4]; rw [o7,if_pos rfl]),us,by rw [hr]⟩,xn hK (by omega) (sub (.inr rfl) hh) (λ q hq=>eU q (by simp only [N2]; exact aBd _ hq))⟩
  | own t=>exact xn (ks:=ks) hK (by omega) (sub (.inl rfl) hh) (λ q hq=>eU q hq)
  | mu t=>exact xn (ks:=ks) hK (by omega) (sub (.inr rfl) hh) (λ q hq=>eU q (by simp only [N2]; exact aBd _ hq))
  | v t=>exact xn (ks:=ks) hK (by omega) hh (λ q hq=>eU q hq)
  | rd t=>exact xn (ks:=ks) hK (by omega) hh (λ q hq=>eU q hq)
  | C7 f ts=>exact xn (ks:=ks) hK (by omega) hh (λ q hq=>eU q hq)
  | W6=>exact xn (ks:=ks) hK (by omega) hh (λ q hq=>eU q hq)
  | rcs f n=>exact xn (ks:=ks) hK (by omega) hh (λ q hq=>eU q hq)
  | el q=>exact xn (ks:=ks) hK (by omega) hh (λ q hq=>eU q hq)
theorem Sq {fr:List (Nat×AV)}:∀ {n j:Nat} {us:List Value},us.length=n->(∀ t val v,us[t]?=some val->look (j+t) fr=some v->VX H S ι hp v [val])->VX H S ι hp (Hc fr j n) us
 | 0,j,us,hl,_=>by
  obtain rfl:=aCj.1 hl;rfl
 | n+1,j,u::us,hl,h=>by
  refine ⟨u,us,rfl,?_,Sq (by simpa using hl) (λ t val v ht hv=>h (t+1) val v (by simpa using ht) (by rw [<- hv]; congr 1; omega))⟩;cases df:look j fr with
  | none=>exact ⟨_,rfl⟩
  | some v=>exact h 0 u v rfl df
theorem OM:∀ {ks:List PK} {x:DK ks} {i:Nat} {fr:List (Nat×AV)} {pre vs:List Value} {cc:Option (Sigma Ty.den)},(∀ t v,look t fr=some v->∃ val,(pre.reverse++vs)[t]?=some val/\VX H S ι hp v [val])->i=pre.length ->
  vA H S ks cc pre vs x->vs.length=ks.length->wA hp ι ks vs x i->(∀ r,cc=some r->∃ pre',pre=.pointer (some ⟨(ι.root (2000000+(i - 1))).1,(ι.root (2000000+(i - 1))).2,none⟩)::pre'/\look (2000000+(i - 1)) hp=some (.var r.1 r.2)) ->
  ∀ t v,look t (wI ks x i fr)=some v->∃ val,(pre.reverse++vs)[t]?=some val/\VX H S ι hp v [val]
 | [],_,_,_,_,_,_,h,_,_,_,_,_=>h
 | k::ks,x,i,fr,pre,vs,cc,h,hi,hk,hl,hr,hc=>by
  cases vs with
  | nil=>cases hl
  | cons v vs =>
   have hl:vs.length=ks.length:=by simpa using hl
   have cp:pre.reverse++v::vs=(v::pre).reverse++vs:=by simp
   have next:∀ {fr':List (Nat×AV)} {cc':Option (Sigma Ty.den)},(∀ t v',look t fr'=some v'->∃ val,(pre.reverse++v::vs)[t]?=some val/\VX H S ι hp v' [val])->vA H S ks cc' (v::pre) vs x.2->wA hp ι ks vs x.2 (i+1) ->
     (∀ r,cc'=some r->v=.pointer (some ⟨(ι.root (2000000+i)).1,(ι.root (2000000+i)).2,none⟩)/\look (2000000+i) hp=some (.var r.1 r.2))->∀ t v',look t (wI ks x.2 (i+1) fr')=some v'->∃ val,(pre.reverse++v::vs)[t]?=some val/\VX H S ι hp v' [val]:=by
    intro fr' cc' h1 h2 h3 h4;rw [cp] at h1 ⊢;refine OM h1 (by simp [hi]) h2 hl h3 (λ r hr=>?_);rw [aFz];obtain ⟨q1,q2⟩:=h4 r hr;exact ⟨pre,by rw [q1],q2⟩
   have jI:(pre.reverse++v::vs)[i]?=some v:=by
    rw [aDv (by simp [hi])];simp [hi]
   cases k with
   | v t=>exact next h hk hr (λ r hr=>by cases hr)
   | rd t=>exact next h hk hr (λ r hr=>by cases hr)
   | C7 f ts=>exact next h hk hr (λ r hr=>by cases hr)
   | own t=>exact next h hk hr (λ r hr=>by cases hr)
   | mu t=>exact next h hk hr (λ r hr=>by cases hr)
   | W6=>exact next h hk hr (λ r hr=>by cases hr)
   | rw t =>
    obtain ⟨⟨h1,us,h2⟩,hr⟩:=hr;exact next h hk hr (λ r hr=>by cases hr; exact ⟨(aHa h2).1,h1⟩)
   | rcs f n =>
    obtain ⟨⟨us,b,off,e1,h1,h2,h3,h4⟩,hk⟩:=hk;obtain ⟨rfl,rfl⟩:=aHa e1;refine next (λ t v' ht=>?_) hk hr (λ r hr=>by cases hr)
    rw [o7] at ht;split at ht
    ·rename_i e; subst e; cases ht
     refine ⟨_,jI,_,_,_,rfl,h1,h2,h3,_,rfl,b,off,(pre.take n).reverse,rfl,h1,h2,h3,?_⟩;refine Sq (by simp; omega) (λ t val v' ht hv=>?_);obtain ⟨val',g1,g2⟩:=h _ _ hv;have qZ:t<n:=by
      have:=(aDj.1 ht).1;simp at this; omega
     have:val'=val:=by
      rw [List.reverse_take,aBi] at ht;rw [aFf (by simp; omega)] at g1;subst hi;rw [g1] at ht; cases ht; rfl
     rw [this] at g2; exact g2
    ·exact h t v' ht
   | el q =>
    obtain ⟨⟨t,y,b0,off0,pre',b,off,us,e0,e1,e2,h1,h2,h3⟩,hk⟩:=hk;obtain ⟨rfl,rfl⟩:=aHa e2;obtain ⟨pre2,g1,g2⟩:=hc _ e0;rw [e1] at g1;simp only [aBa,Value.pointer.injEq,aAc,Addr.mk.injEq,and_true] at g1;obtain ⟨⟨rfl,rfl⟩,rfl⟩:=g1;refine next (λ t' v' ht=>?_) hk hr (λ r hr=>by cases hr)
    rw [o7] at ht;split at ht
    ·rename_i e; subst e; cases ht
     exact ⟨_,jI,_,b,off,g2,h1,wv h2 h3,rfl⟩
    ·exact h t' v' ht
theorem Wz {E:Env} {fn:Func} {w:World} {vs:List Value} {x:DK E.ps} {L:List Nat}
  (hlen:E.ps.length<=fn.ntmps/\E.ps.length<=1000) (hS:∀ b,S b->b<w.heap.size) (hK:V3 w.heap S E.ps vs x L) (ib:vA w.heap S E.ps none [] vs x) (fF:L.Nodup) (dZ:∀ b∈L,¬ S b/\b<w.heap.size) :
  ∃ ι,∀ gv,RS (E6.of w S E.ps vs L fn.ntmps gv) S ι (s5 E.ps x) { tmps:=vs.toArray++Array.replicate (fn.ntmps - vs.toArray.size) undef,defers:=[] } w:=by
 obtain ⟨ι,lv⟩:=Nj (B:=⟨w,S,λ b=>b∈L,fn.ntmps,[],undef⟩) (i:=0) rfl rfl rfl hS hK fF (λ b hb=>⟨(dZ b hb).1,hb,(dZ b hb).2⟩) (by show 0+E.ps.length<=1000; omega);refine ⟨ι,λ gv=>?_⟩;have hl:vs.length=E.ps.length:=MZ hK;have hs:=lv.hs;refine ⟨⟨hs.os,hs.tape,hs.out,hs.size,hs.frame,hs.slt,hs.s0,hs.s1,hs.ob,hs.bl,hs.dj,λ q hq=>lv.pins q hq⟩,rfl,?_,?_⟩
 ·simp only [aFj,aFh,Array.size_replicate,E6.of]
  omega
 ·intro t v hv
  obtain ⟨val,k2,k3⟩:=OM (pre:=[]) (vs:=vs) (i:=0) (λ t v ht=>by
   obtain ⟨_,val,k2,k3⟩:=lv.fr t v ht;exact ⟨val,by simpa using k2,k3⟩) rfl ib hl (xn hK (by show 0+E.ps.length<=1000; omega) (λ _ _ h=>h) (λ q hq=>(lv.pins q hq).2.2.1)) (λ r hr=>by cases hr) t v hv
  simp only [List.reverse_nil,List.nil_append] at k2;have:(vs.toArray++Array.replicate (fn.ntmps - vs.toArray.size) undef).getD t (E6.gd (E6.of w S E.ps vs L fn.ntmps gv) t)=val:=by
   have bf:=(aDj.1 k2).1;simp only [aCi];rw [Array.getElem?_append_left (by simpa using bf)];simp [k2]
  rw [this];exact k3
theorem p7.n8 (_hE:w7 E) {f:FuncId} {fn:Func} {c:Code} {rs:List Ty} {ps:List PK} {pre:DK ps->Prop} {fn':DK ps->DL rs} {out:DK ps->DL (E8 ps)} (cn:E.rs=rs) (eZ:E.ps=ps) (hf:E.P.funcs[f]?=some fn) (hb:fn.body=some c) (fS:(fn.name == "runtime.NumGoroutine")=false) (_hF:C0 E fn)
  (hlen:(Nat.ble ps.length fn.ntmps && Nat.ble ps.length 1000)=true)
  (h:∀ x:DK ps,pre x->Hg ps x->Reach E fn (cn▸fn' x) (eZ▸out x) [.code c] (s5 ps x)):(p7.mk ps rs pre fn' out false).Valid E.P f:=by
 subst cn;subst eZ;simp only [aAa,aFs] at hlen;refine ⟨⟨fn,hf,fS,by rw [hb]; rfl⟩,?_,λ h=>by cases h⟩;intro w S vs x L hS dI bc hK ib fF dZ;refine Calls.mono (R:=λ e w'=>xK w S E.rs E.ps vs L (fn' x) (out x) e w'/\GOk E.gp undef w'.heap E.ps vs (out x)) ?_ (λ _ _ h=>h.1);refine b84 hf hb ?_;obtain ⟨ι,bQ⟩:=Wz hlen hS hK ib fF dZ;exact h x bc (Na hK) w S vs x L undef S ι _ w ⟨dI,λ b hb=>⟨hS b hb,λ hl=>(dZ b hl).1 hb⟩⟩ hK (bQ undef)
end
end Go.Ex
namespace Go.Ex
def shares:List Ty->List Ty->Bool
 | [],[]=>true
 | t::ts,t'::ts'=>(decide (t'=t) || (decide (t'=t.sh) && t.W4)) && shares ts ts'
 | _,_=>false
theorem c3M {t t':Ty} (h:(decide (t'=t) || (decide (t'=t.sh) && t.W4))=true):t.den=t'.den:=by
 simp only [aBo,aAa,decide_eq_true_eq] at h;rcases h with rfl|⟨rfl,_⟩
 ·rfl
 ·exact (E9 t).symm
def BK:(rs rs':List Ty)->shares rs rs'=true->DL rs->DL rs'
 | [],[],_,_=>()
 | t::ts,t'::ts',h,x=>(cast (c3M (by simp only [shares,aAa] at h; exact h.1)) x.1,BK ts ts' (by simp only [shares,aAa] at h; exact h.2) x.2)
 | [],_::_,h,_=>by simp [shares] at h
 | _::_,[],h,_=>by simp [shares] at h
theorem Sa {H:Array Go.Obj} {S:Nat->Prop}:∀ {ts rs':List Ty} (h:shares ts rs'=true) {O:List Nat} {us:List Value} {x:DL ts},M3 H S ts O us x ->
  ∃ O1 O2,O.Perm (O1++O2)/\∀ T:Nat->Prop,(∀ b,S b->T b)->(∀ b∈O2,T b)->M3 H T rs' O1 us (BK ts rs' h x)
 | [],[],_,O,us,x,hR=>⟨[],[],by rw [hR.1]; exact aFg _,λ T _ _=>⟨rfl,hR.2⟩⟩
 | [],_::_,h,_,_,_,_=>by simp [shares] at h
 | _::_,[],h,_,_,_,_=>by simp [shares] at h
 | t::ts,t'::ts',h,O,us,x,⟨v,us',P1,P2,cs,e1,e2,e3,h1,h2⟩=>by
  have hh:=h;simp only [shares,aAa] at hh;obtain ⟨O1,O2,p,k⟩:=Sa hh.2 h2;have hd:=hh.1;simp only [aBo,aAa,decide_eq_true_eq] at hd;subst e2;rcases hd with rfl|⟨rfl,sK⟩
  ·refine ⟨P1++O1,O2,by rw [aAl]; exact p.append_left P1,λ T hS hT=>⟨v,us',P1,O1,cs,e1,rfl,e3,?_,k T hS hT⟩⟩
   exact h1.u5 (λ _ _=>rfl) hS
  ·refine ⟨O1,P1++O2,?_,λ T hS hT=>⟨v,us',[],O1,cs,e1,rfl,by rw [e3]; exact (Iw (by rw [Ty.Ab]) cs).symm,?_,k T hS (λ b hb=>hT b (by simp [hb]))⟩⟩
   ·refine (p.append_left P1).trans ?_
    rw [<- aAl,<- aAl];exact List.perm_append_comm.append_right O2
   ·exact h1.vS (λ b hb=>hT b (by simp [hb])) hS sK
theorem c3Q {ps:List PK} (h:ps.all PK.reads=true):E8 ps=[]:=by
 induction ps with
 | nil=>rfl
 | cons k ps ih =>
  simp only [aCt,aAa] at h;have:=ih h.2;cases k<;>first|exact this|(exfalso; simp [PK.reads] at h; done)
theorem Pc {H:Array Go.Obj} {S:Nat->Prop}:∀ {ps:List PK},ps.all PK.reads=true->∀ {vs:List Value} {x:DK ps} {L:List Nat},V3 H S ps vs x L->L=[]
 | [],_,_,_,_,h=>h.2
 | k::ps,h,vs,x,L,⟨v,us,L1,L2,e1,e2,h1,h2⟩=>by
  simp only [aCt,aAa] at h;have qN:=Pc h.2 h2;have uh:L1=[]:=by
   cases k<;>first|exact h1.1|(exfalso; simp [PK.reads] at h; done)
  rw [e2,uh,qN]; rfl
theorem p7.Valid.share {P:Program} {f:FuncId} {c:p7} (h:c.Valid P f) (eZ:c.ps.all PK.reads=true) (gO:c.rs.all Ty.K0=true) {rs':List Ty} (cn:shares c.rs rs'=true) :
  (p7.mk c.ps rs' c.pre (λ x=>BK c.rs rs' cn (c.fn x)) c.out true).Valid P f:=by
 have core:∀ (w:World) (S:Nat->Prop) (vs:List Value) (x:DK c.ps) (L:List Nat),(∀ b,S b->b<w.heap.size)->vv P w S->c.pre x->V3 w.heap S c.ps vs x L->vA w.heap S c.ps none [] vs x->L.Nodup->(∀ b∈L,¬ S b/\b<w.heap.size) ->
   Calls P f vs.toArray w (λ e w'=>∃ us O Lo S',e=.returned (wR us)/\D0 L w w'/\(∀ b,S b->S' b)/\(∀ b,S' b->S b\/((w.heap.size<=b\/b∈L)/\b<w'.heap.size)) /\
    M3 w'.heap S' rs' O us (BK c.rs rs' cn (c.fn x))/\H4 w'.heap S' c.ps vs (c.out x) Lo/\(O++Lo).Nodup/\(∀ b∈O++Lo,¬ S' b/\(w.heap.size<=b\/b∈L)/\b<w'.heap.size) /\
    M3 w'.heap (λ b=>S' b/\w.heap.size<=b) rs' O us (BK c.rs rs' cn (c.fn x))):=by
  intro w S vs x L hS dI bc hK ib fF dZ;refine (h.run w S vs x L hS dI bc hK ib fF dZ).mono (λ e w' hr=>?_);obtain ⟨us,O,Lo,S',e1,hp,s1,s2,h1,h2,aJ,hb⟩:=hr;have hL:=Pc eZ hK;have lY:Lo=[]:=Y4 (c3Q eZ) h2;subst hL;subst lY;rw [aBc] at aJ hb;obtain ⟨O1,O2,p,k⟩:=Sa cn (h1.K0 (S':=λ _=>False) gO);have ez:=p.nodup_iff.1 aJ;have iH:∀ b∈O2,¬ S' b/\w.heap.size<=b/\b<w'.heap.size:=λ b cS=>by
   obtain ⟨q0,q1,q2⟩:=hb b (p.mem_iff.2 (aBr _ cS));rcases q1 with q1|q1
   ·exact ⟨q0,q1,q2⟩
   ·cases q1
  refine ⟨us,O1,[],λ b=>S' b\/b∈O2,e1,hp,λ b hb=>.inl (s1 b hb),?_,k _ (λ b hb=>hb.elim) (λ b hb=>.inr hb),?_,by rw [aBc]; exact (aAg.1 ez).1,?_,k _ (λ b hb=>hb.elim) (λ b hb=>⟨.inr hb,(iH b hb).2.1⟩)⟩
  ·rintro b (cS|cS)
   ·exact s2 b cS
   ·exact .inr ⟨.inl (iH b cS).2.1,(iH b cS).2.2⟩
  ·have gO:∀ {ks:List PK} {us:List Value} {y:DL (E8 ks)} {T:Nat->Prop},ks.all PK.reads=true->H4 w'.heap S' ks us y []->H4 w'.heap T ks us y []:=by
    intro ks
    induction ks with
    | nil=>intro us y T _ h; exact h
    | cons k ks ih =>
     intro us y T hk h;simp only [aCt,aAa] at hk;cases k<;>first
      | (obtain ⟨v,us',e,h⟩:=h; exact ⟨v,us',e,ih hk.2 h⟩)
      | (exfalso; simp [PK.reads] at hk; done)
   exact gO eZ h2
  ·intro b dE
   rw [aBc] at dE;obtain ⟨q0,q1,q2⟩:=hb b (p.mem_iff.2 (aBb _ dE));refine ⟨?_,q1,q2⟩;rintro (h9|h9)
   ·exact q0 h9
   ·exact (aAg.1 ez).2.2 b dE b h9 rfl
 refine ⟨h.ent,λ w S vs x L hS dI bc hK ib fF dZ=>(core w S vs x L hS dI bc hK ib fF dZ).mono (λ e w' ⟨us,O,Lo,S',a1,a2,a3,a4,a5,a6,a7,a8,_⟩=>⟨us,O,Lo,S',a1,a2,a3,a4,a5,a6,a7,a8⟩),λ _=>core⟩
theorem p7.Valid.conv {P:Program} {f:FuncId} {c:p7} (h:c.Valid P f) {rs':List Ty} {fn':DK c.ps->DL rs'} (hc:∀ x,c.pre x->∀ (H:Array Go.Obj) (S:Nat->Prop) (O:List Nat) (us:List Value),M3 H S c.rs O us (c.fn x)->M3 H S rs' O us (fn' x)) :
  (p7.mk c.ps rs' c.pre fn' c.out c.new).Valid P f:=by
 refine ⟨h.ent,λ w S vs x L hS dI bc hK ib fF dZ=>?_,λ hn w S vs x L hS dI bc hK ib fF dZ=>?_⟩
 ·refine (h.run w S vs x L hS dI bc hK ib fF dZ).mono (λ e w' hr=>?_)
  obtain ⟨us,O,Lo,S',e1,hp,s1,s2,h1,h2⟩:=hr;exact ⟨us,O,Lo,S',e1,hp,s1,s2,hc x bc _ _ _ _ h1,h2⟩
 ·refine (h.fresh hn w S vs x L hS dI bc hK ib fF dZ).mono (λ e w' hr=>?_)
  obtain ⟨us,O,Lo,S',e1,hp,s1,s2,h1,h2,h3,h4,h5⟩:=hr;exact ⟨us,O,Lo,S',e1,hp,s1,s2,hc x bc _ _ _ _ h1,h2,h3,h4,hc x bc _ _ _ _ h5⟩
end Go.Ex
namespace Go.Ex
abbrev OI:=TypeId×String×Array Edge
section
variable {P:Program} {fn:Func} {R:Ending->World->Prop} {k:List Item} {a:Act} {w:World} {S':Nat->Prop}
structure d0n (P:Program) (b:Nat) (ox:Op) (xv:Value) (X:Act->World->Prop):Prop where
 run:∀ a w,X a w->∀ o:Oper,o.op=ox->(execOp a.eval o).run P w=.ok (.value xv) w
 put:∀ a w d v,X a w->d≠1->d≠3->d<a.tmps.size->X (a.put (some d) v) w
 mem:∀ a w w',X a w->(∀ c,c≠b->w'.heap[c]?=w.heap[c]?)->X a w'
variable {S I T:Nat} {e:Nat->OI} {ox:Op} {t:Ty} {r:Nat} {xv:Value} {ds:List Value} {x:t.den} {b off cap:Nat} {A:Option Addr} {X:Act->World->Prop} {w0:World} {S0:Nat->Prop}
structure SpD (t:Ty) (ds:List Value) (b off cap:Nat) (w0:World) (i:Nat) (w:World):Prop where
 past:D0 [b] w0 w
 free:V4 t.isB w.heap b (off+cap*t.size)
 cells:e8 w.heap b off (i*t.size)=(List.replicate i ds).flatten
end
end Go.Ex
namespace Go.Ex
def BG (P:Program):List (FuncId×p7)->Prop
 | []=>True
 | (f,c)::l=>c.Valid P f/\BG P l
theorem BG.look {P:Program}:∀ {l:List (FuncId×p7)} {f:FuncId} {c:p7},BG P l->Ex.look f l=some c->c.Valid P f
 | [],_,_,_,h=>by cases h
 | (g,d)::l,f,c,h,hl=>by
  simp only [Ex.look] at hl;cases hb:Nat.beq f g with
  | true =>
   rw [hb] at hl;have:=aAd hb;subst this; cases hl; exact h.1
  | false=>rw [hb] at hl; exact BG.look h.2 hl
theorem Ox {P:Program}:∀ {l:List (TypeId×TI)} {T:TypeId} {i:TI},l.all (xC P)=true->Ex.look T l=some i->xC P (T,i)=true
 | [],_,_,_,h=>by cases h
 | (g,d)::l,T,i,h,hl=>by
  simp only [aCt,aAa] at h;simp only [Ex.look] at hl;cases hb:Nat.beq T g with
  | true =>
   rw [hb] at hl;have:=aAd hb;subst this; cases hl; exact h.1
  | false=>rw [hb] at hl; exact Ox h.2 hl
def Cc (P:Program) (C9:List (FuncId×p7)):List (FuncId×List (Option Nat))->Prop
 | []=>True
 | (f,pat)::l=>(∀ c,Ex.look f C9=some c->c.Kept P f pat)/\Cc P C9 l
theorem Cc.look {P:Program} {C9:List (FuncId×p7)}:∀ {l:List (FuncId×List (Option Nat))} {f:FuncId} {pat:List (Option Nat)},Cc P C9 l->Ex.look f l=some pat->∀ c,Ex.look f C9=some c->c.Kept P f pat
 | [],_,_,_,h=>by cases h
 | (g,d)::l,f,pat,h,hl=>by
  simp only [Ex.look] at hl;cases hb:Nat.beq f g with
  | true =>
   rw [hb] at hl;have:=aAd hb;subst this; cases hl; exact h.1
  | false=>rw [hb] at hl; exact Cc.look h.2 hl
theorem x6 {E:Env} (ht:E.tt.all (xC E.P)=true) (hc:BG E.P E.C9) (hk:Cc E.P E.C9 E.keeps:=by trivial):w7 E :=
 ⟨λ _ _ h=>Ox ht h,λ _ _ h=>hc.look h,λ _ c _ h1 h2=>hk.look h2 c h1⟩
theorem i7 {rs:List Ty} {L:Code->List Item->St->Prop} {R:DL rs->Prop} {t t':Tree rs} (h:t=t') (h':t'.holds L R):t.holds L R:=h▸h'
theorem Reach.M7 {E:Env} (hE:w7 E) {fn:Func} (hf:C0 E fn) {y:DL E.rs} {z:DL (E8 E.ps)} {c:Code} {k:List Item} {α:Type} (mk:α->St) (I:α->Prop) (μ:α->Nat) (n:Nat) (hu:∀ x,uniq (mk x).fr/\uniq (mk x).hp)
  (h:∀ x,I x->(mk x).H9->(∀ x',I x'->μ x'<μ x->Reach E fn y z (.code c::.inLoop c::k) (mk x')) ->
   (exec E n (.code c::.inLoop c::k) (mk x)).holds (λ c' k' s'=>Reach E fn y z (.code c'::.inLoop c'::k') s') (·=DL.app y z)) :
  ∀ x,I x->Reach E fn y z (.code c::.inLoop c::k) (mk x):=by
 have key:∀ m x,μ x=m->I x->Reach E fn y z (.code c::.inLoop c::k) (mk x):=by
  intro m
  induction m using Nat.strongRecOn with
  | _ m ih =>
   intro x hm hI w0 S0 vs x0 L gv S ι a w eQ hK cn;have hx:=h x hI (cn.H9 (hu x).1 (hu x).2) (λ x' h1 h2=>ih (μ x') (hm▸h2) x' rfl h1);exact j6 hE hf hx w0 S0 vs x0 L gv S ι a w eQ hK cn
 exact λ x hI=>key (μ x) x rfl hI
def d8 (P:Program) (f:Nat):Code:=((P.funcs[f]?).bind (·.body)).getD .skip
end Go.Ex
namespace Go.Ex
open Go.ChangeShapes Go.WideShapes Go.ChangeAt Go.RowKit
section
variable {P:Program} {X:Type} {enc:TypeId×Value->X} {W:World} {sp:Nat->Bool} {held:Bool}
def Z1 {α:Type _} (f:α->Nat):List α->Nat
 | []=>0
 | x::l=>f x+Z1 f l
def Ty.flat:Ty->Bool
 | .int _|.bool|.str|.unit=>true
 | .fn _=>false
 | .hole _=>false
 | .B9 _=>false
 | .map _ _ _=>false
 | .box _ _ _=>false
 | .pair a b=>a.flat && b.flat
 | .arr _ t=>t.flat
 | .d0 o t=>!o && t.flat
def Ty.W0:(t:Ty)->t.den->Nat
 | .int _,_=>1
 | .bool,_=>1
 | .str,s=>List.length s+1
 | .unit,_=>0
 | .fn _,_=>0
 | .hole _,_=>0
 | .B9 _,_=>0
 | .map _ _ _,_=>0
 | .box _ _ _,_=>0
 | .pair a b,x=>a.W0 x.1+b.W0 x.2
 | .arr _ t,l=>Z1 t.W0 l
 | .d0 _ t,l=>Z1 t.W0 l+1
mutual
def K4 {H:Type}:DataW H->Nat
 | .lit (.string bytes)=>bytes.length+1
 | .lit _=>1
 | .nil=>1
 | .ptr d=>K4 d+1
 | .slice elems spare=>V1 elems+V1 spare+1
 | .agg parts=>V1 parts+1
 | .iface _ d=>K4 d+1
 | .map entries=>CL entries+1
 | .held _=>1
def V1 {H:Type}:List (DataW H)->Nat
 | []=>0
 | d::r=>K4 d+V1 r
def CL {H:Type}:List (Lit×DataW H)->Nat
 | []=>0
 | x::r=>KZ x+CL r
def KZ {H:Type}:Lit×DataW H->Nat
 | (.string bytes,d)=>bytes.length+K4 d+1
 | (_,d)=>K4 d+1
end
theorem Fz {H β:Type}:∀ (xs:List (DataW H×β)),V1 (xs.map (·.1))=Z1 (λ x=>K4 x.1) xs
 | []=>rfl
 | x::xs=>by simp only [aDb,V1,Z1,Fz xs]
theorem IV {α β:Type} {R:List Nat->List Value->α->Prop} {sz:Nat} {bk:α->Nat} {bw:β->Nat}:∀ {n:Nat} {cs:List Value} {xs:List β},xs.length=n->cs.length=n*sz->(∀ i,i<n->∃ y z,xs[i]?=some z/\R [] ((cs.drop (i*sz)).take sz) y/\bk y<=bw z) ->
  ∃ l:List α,l.length=n/\j5 R sz [] cs l/\Z1 bk l<=Z1 bw xs
 | 0,cs,[],_,h,_=>⟨[],rfl,⟨rfl,by simpa using h⟩,aAj _⟩
 | n+1,cs,x::xs,hx,h,hr=>by
  obtain ⟨y,z,hz,hy,hb⟩:=hr 0 (by omega);have e:(n+1)*sz=n*sz+sz:=aBf n sz;obtain ⟨l,h1,h2,h3⟩:=IV (R:=R) (bk:=bk) (bw:=bw) (n:=n) (cs:=cs.drop sz) (sz:=sz) (xs:=xs) (by simpa using hx) (by simp; omega) (λ i hi=>by
   obtain ⟨y,z,hz,hy,hb⟩:=hr (i+1) (by omega);refine ⟨y,z,by simpa using hz,?_,hb⟩;rw [aBj];rw [show sz+i*sz=(i+1)*sz by rw [aBf]; omega];exact hy)
  have hz:x=z:=by simpa using hz
  subst hz;exact ⟨y::l,by simp [h1],⟨[],[],rfl,by simpa using hy,h2⟩,by simp only [Z1]; omega⟩
 | 0,_,_::_,h,_,_=>by simp at h
 | _+1,_,[],h,_,_=>by simp at h
theorem CH {n:Nat} {T:TypeId} {t:Ty} (h:o8 P n T t=true):P.cellsOf T=t.size:=by
 obtain ⟨i,h1,h2,_⟩:=X5 h;simp [Program.cellsOf,h1,h2]
theorem b0Z:∀ (t:Ty),t.flat=true ->
  (∀ {n:Nat} {T:TypeId} {fuel:Nat} {cs:List Value} {x:DataW X×List MemPlace},o8 P n T t=true->DataW.trod enc P W 0 sp held fuel T cs=some x->∃ y:t.den,g9 W.heap (λ b=>b<W.heap.size) t [] cs y/\t.W0 y<=K4 x.1) /\
  (∀ {n:Nat} {fs:List Field} {off m:Nat} {cs:List Value} {xs:List (DataW X×List MemPlace)},n6 (o8 P n) fs off t=true->xs.length=fs.length->(∀ (i:Nat) (f:Field),fs[i]?=some f->DataW.trod enc P W 0 sp held m f.type ((cs.drop f.offset).take (P.cellsOf f.type))=xs[i]?) ->
   ∃ y:t.den,g9 W.heap (λ b=>b<W.heap.size) t [] ((cs.drop off).take t.size) y/\t.W0 y<=Z1 (λ x=>K4 x.1) xs):=by
 intro t;have strct:∀ {t:Ty},(∀ {n:Nat} {fs:List Field} {off m:Nat} {cs:List Value} {xs:List (DataW X×List MemPlace)},n6 (o8 P n) fs off t=true->xs.length=fs.length->(∀ (i:Nat) (f:Field),fs[i]?=some f->DataW.trod enc P W 0 sp held m f.type ((cs.drop f.offset).take (P.cellsOf f.type))=xs[i]?) ->
   ∃ y:t.den,g9 W.heap (λ b=>b<W.heap.size) t [] ((cs.drop off).take t.size) y/\t.W0 y<=Z1 (λ x=>K4 x.1) xs)->t.agg=true->(∀ n u,t≠.arr n u) ->
   ∀ {n:Nat} {T:TypeId} {fuel:Nat} {cs:List Value} {x:DataW X×List MemPlace},o8 P n T t=true->DataW.trod enc P W 0 sp held fuel T cs=some x->∃ y:t.den,g9 W.heap (λ b=>b<W.heap.size) t [] cs y/\t.W0 y<=K4 x.1:=by
  intro t hB dp lO n T fuel cs x hT h;obtain ⟨fs,k',h1,h2⟩:=LI hT dp lO;obtain ⟨xs,m,_,rfl,hl,hlen,hf⟩:=DataW.trod_struct h1 h;obtain ⟨y,hy,hb⟩:=hB (cs:=cs) (m:=m) (xs:=xs) h2 (by simpa using hlen) (λ i f qc=>hf i f (by simpa using qc));refine ⟨y,?_,?_⟩
  ·rw [CH hT] at hl
   rw [aCb,aAu (by omega)] at hy;exact hy
  ·simp only [K4,Fz]; omega
 induction t with
 | int k =>
  intro _;refine ⟨?_,by intro n fs off m cs xs h; cases fs<;>simp [n6] at h⟩;intro n T fuel cs x hT h;obtain ⟨z,rfl,rfl,hw⟩:=DataW.trod_int (xw hT) h;simp only [Lit.wf,aAa,decide_eq_true_eq] at hw;exact ⟨z,⟨rfl,rfl,hw⟩,by simp [Ty.W0,K4]⟩
 | bool =>
  intro _;refine ⟨?_,by intro n fs off m cs xs h; cases fs<;>simp [n6] at h⟩;intro n T fuel cs x hT h;obtain ⟨b,rfl,rfl⟩:=DataW.trod_bool (AI hT) h;exact ⟨b,⟨rfl,rfl⟩,by simp [Ty.W0,K4]⟩
 | str =>
  intro _;refine ⟨?_,by intro n fs off m cs xs h; cases fs<;>simp [n6] at h⟩;intro n T fuel cs x hT h;obtain ⟨s,rfl,rfl,hl⟩:=DataW.trod_string (U9 hT) h;exact ⟨s.data.toList,⟨rfl,rfl,hl⟩,by simp [Ty.W0,K4]⟩
 | unit =>
  intro _;have hB:∀ {n:Nat} {fs:List Field} {off m:Nat} {cs:List Value} {xs:List (DataW X×List MemPlace)},n6 (o8 P n) fs off .unit=true->xs.length=fs.length->(∀ (i:Nat) (f:Field),fs[i]?=some f->DataW.trod enc P W 0 sp held m f.type ((cs.drop f.offset).take (P.cellsOf f.type))=xs[i]?) ->
    ∃ y:(.unit:Ty).den,g9 W.heap (λ b=>b<W.heap.size) .unit [] ((cs.drop off).take (.unit:Ty).size) y/\(.unit:Ty).W0 y<=Z1 (λ x=>K4 x.1) xs:=λ _ _ _=>⟨(),⟨rfl,by simp [Ty.size]⟩,by simp [Ty.W0]⟩
  exact ⟨strct hB rfl (by simp),hB⟩
 | fn f=>intro h; cases h
 | hole t _=>intro h; cases h
 | B9 t _=>intro h; cases h
 | map o a b=>intro h; cases h
 | box o g t=>intro h; cases h
 | pair a b iha ihb =>
  intro eo;simp only [Ty.flat,aAa] at eo;have hB:∀ {n:Nat} {fs:List Field} {off m:Nat} {cs:List Value} {xs:List (DataW X×List MemPlace)},n6 (o8 P n) fs off (.pair a b)=true->xs.length=fs.length->(∀ (i:Nat) (f:Field),fs[i]?=some f->DataW.trod enc P W 0 sp held m f.type ((cs.drop f.offset).take (P.cellsOf f.type))=xs[i]?) ->
    ∃ y:((.pair a b):Ty).den,g9 W.heap (λ b=>b<W.heap.size) (.pair a b) [] ((cs.drop off).take ((.pair a b):Ty).size) y/\((.pair a b):Ty).W0 y<=Z1 (λ x=>K4 x.1) xs:=by
   intro n fs off m cs xs hf rn hx;cases fs with
   | nil=>simp [n6] at hf
   | cons f fs =>
    cases xs with
    | nil=>simp at rn
    | cons x xs =>
    simp only [n6,aAa] at hf;obtain ⟨⟨⟨⟨h1,_⟩,h3⟩,_⟩,h5⟩:=hf;have h1:f.offset=off:=aAd h1;have ir:=hx 0 f (by simp);rw [h1,CH h3] at ir;obtain ⟨y1,oJ,dE⟩:=(iha eo.1).1 h3 (ir.trans (by simp:_=some x));obtain ⟨y2,nO,fx⟩:=(ihb eo.2).2 (cs:=cs) (m:=m) (xs:=xs) h5 (by simpa using rn) (λ i f hf=>by simpa using hx (i+1) f (by simpa using hf));refine ⟨(y1,y2),⟨[],[],rfl,?_,?_⟩,?_⟩
    ·rw [aCn,aCc (by simp [Ty.size])]; exact oJ
    ·rw [<- aBj] at nO
     rw [aDk,show (Ty.pair a b).size - a.size=b.size by simp [Ty.size]]; exact nO
    ·simp only [Ty.W0,Z1]; omega
  exact ⟨strct hB rfl (by simp),hB⟩
 | arr n t ih =>
  intro eo;refine ⟨?_,by intro n fs off m cs xs h; cases fs<;>simp [n6] at h⟩;intro k T fuel cs x hT h;obtain ⟨e,k',h1,h2,h3⟩:=Y0 hT;obtain ⟨xs,m,_,rfl,hl,hlen,hf⟩:=DataW.trod_array h1 h;rw [CH hT] at hl;have hs:(Ty.arr n t).size=n*t.size:=rfl;rw [hs] at hl;obtain ⟨l,g1,g2,g3⟩:=IV (R:=g9 W.heap (λ b=>b<W.heap.size) t) (bk:=t.W0) (bw:=λ x:DataW X×List MemPlace=>K4 x.1) hlen hl (λ i hi=>by
   have:=hf i hi;rw [CH h3] at this;have e:=aAf (l:=xs) (i:=i) (by omega);obtain ⟨y,hy,hb⟩:=(ih eo).1 h3 (this.trans e);exact ⟨y,_,e,hy,hb⟩)
  exact ⟨l,⟨g1,g2⟩,by simp only [Ty.W0,K4,Fz]; omega⟩
 | d0 o t ih =>
  intro eo;simp only [Ty.flat,aAa,aAt] at eo;obtain ⟨rfl,cg⟩:=eo;refine ⟨?_,by intro n fs off m cs xs h; cases fs<;>simp [n6] at h⟩;intro k T fuel cs x hT h;obtain ⟨e,k',h1,h2,h3⟩:=G5 hT;have aW:=CH h3;rcases DataW.trod_slice h1 h with ⟨rfl,rfl⟩|⟨a,len,cap,elems,rest,n,_,rfl,rfl,_,rp,dY,oi,hf,_,_⟩
  ·exact ⟨([]:List t.den),.inl ⟨rfl,⟨none,0,rfl,by simp⟩,rfl⟩,by simp [Ty.W0,K4,Z1]⟩
  ·rw [aW] at hf
   by_cases h0:len=0
   ·subst h0
    exact ⟨([]:List t.den),.inl ⟨rfl,⟨some a,cap,rfl,by simp⟩,rfl⟩,by simp [Ty.W0,K4,Z1]⟩
   ·have bN:∀ i,i<len->∃ ci y z,W.cells? 0 (a.add (i*t.size)) t.size=some ci/\g9 W.heap (λ b=>b<W.heap.size) t [] ci y/\elems[i]?=some z/\t.W0 y<=K4 z.1:=by
     intro i hi;have:=hf i hi;have e:=aAf (l:=elems) (i:=i) (by omega);rw [e] at this;obtain ⟨ci,k1,k2⟩:=Option.bind_eq_some_iff.1 this;obtain ⟨y,hy,hb⟩:=(ih cg).1 h3 k2;exact ⟨ci,y,_,k1,hy,e,hb⟩
    obtain ⟨c0,_,_,k1,_⟩:=bN 0 (by omega);obtain ⟨_,l0,g0⟩:=World.cells?_some k1;obtain ⟨b,off,spot⟩:=a;have mB:=g0 0 (by omega);have cm:∃ v,W.cell? (Addr.mk b off spot)=some v:=by
     have:c0[0]?=some c0[0]:=aAf (by omega);rw [this,aFa] at mB;exact ⟨_,mB⟩
    obtain ⟨v0,eY⟩:=cm;obtain ⟨arr,T0,fz,hh,mf⟩:∃ arr T0 fz,W.heap[b]?=some (.cells arr T0 fz)/\spot=none:=by
     unfold World.cell? at eY;split at eY
     ·rename_i c T0 fz hh
      split at eY
      ·cases eY
      ·rename_i hs
       exact ⟨c,T0,fz,hh,by simpa using hs⟩
     ·cases eY
    subst mf;have dL:w6 W.heap b=arr.toList:=by simp only [w6,hh]
    have kr:∀ i ci,i<len->W.cells? 0 ((Addr.mk b off none).add (i*t.size)) t.size=some ci->off+i*t.size+t.size<=(w6 W.heap b).length/\ci=e8 W.heap b (off+i*t.size) t.size:=by
     intro i ci hi hc;obtain ⟨_,l1,g1⟩:=World.cells?_some hc;have hj:∀ j,j<t.size->(w6 W.heap b)[off+i*t.size+j]?=ci[j]?:=by
      intro j hj;have:=g1 j hj;rw [Addr.I1,Addr.I1] at this;simp only [World.cell?,hh] at this;rw [dL,<- this]; simp
     have hle:off+i*t.size+t.size<=(w6 W.heap b).length:=by
      have:=hj (t.size - 1) (by omega);rw [aAf (by omega:t.size - 1<ci.length)] at this;have:=(aDj.1 this).1;omega
     refine ⟨hle,aDu (λ j=>?_)⟩;by_cases rv:j<t.size
     ·rw [<- hj j rv]
      simp only [e8,aBn,if_pos rv,aBi]
     ·rw [aBx (by omega),aBx (by rw [Mf _ _ _ hle]; omega)]
    have hlen:off+len*t.size<=(w6 W.heap b).length:=by
     obtain ⟨ci,y,_,q1,_⟩:=bN (len - 1) (by omega);have:=(kr (len - 1) ci (by omega) q1).1;have e:len*t.size=(len - 1)*t.size+t.size:=by
      rw [<- aBf]; congr 1; omega
     omega
    obtain ⟨l,q1,q2,q3⟩:=IV (R:=g9 W.heap (λ b=>b<W.heap.size) t) (bk:=t.W0) (bw:=λ x:DataW X×List MemPlace=>K4 x.1) (n:=len) (sz:=t.size) (cs:=e8 W.heap b off (len*t.size)) oi (Mf _ _ _ hlen) (λ i hi=>by
     obtain ⟨ci,y,z,r1,r2,r3,r4⟩:=bN i hi;have hle:i*t.size+t.size<=len*t.size:=by rw [<- aBf]; exact aAm _ hi
     rw [o6,n7 _ _ _ _ (by omega),<- (kr i ci hi r1).2];exact ⟨y,z,r3,r2,r4⟩)
    have dK:b<W.heap.size:=(aAo.1 hh).1;subst q1;exact ⟨l,.inr ⟨b,off,cap,[],rfl,rp,⟨dY,by simp⟩,hlen,q2,rfl,rfl,dK⟩,by simp only [Ty.W0,K4,Fz]; omega⟩
end
end Go.Ex
namespace Go.Ex
open Go.ChangeShapes Go.WideShapes Go.ChangeAt Go.RowKit
section
variable {P:Program} {X:Type} {enc:TypeId×Value->X} {W W':World} {sp:Nat->Bool} {held:Bool}
theorem b80 {k:Nat} {T:TypeId} {t:Ty} (hT:o8 P k T t=true) {r:Go.Reach} {base:Nat} {v:Value} (h:Value.okWide P W r base T v):v=l5 t v.cells.toList:=by
 obtain ⟨d,hd,dp⟩:=R8 hT;unfold Value.okWide at h;rw [hd] at h;cases t with
 | int q =>
  have hu:=xw hT;rw [hd] at hu; cases hu;simp only [Cell.okWide,hd,Cell.ok] at h;cases v<;>simp_all [l5,Ty.agg,Value.cells]
 | bool =>
  have hu:=AI hT;rw [hd] at hu; cases hu;simp only [Cell.okWide,hd,Cell.ok] at h;cases v<;>simp_all [l5,Ty.agg,Value.cells]
 | str =>
  have hu:=U9 hT;rw [hd] at hu; cases hu;simp only [Cell.okWide,hd,Cell.ok] at h;cases v<;>simp_all [l5,Ty.agg,Value.cells]
 | fn f =>
  obtain ⟨_,_,_,hu⟩:=Oy hT;rw [hd] at hu; cases hu;simp only [Cell.okWide,hd,Cell.ok] at h;cases v<;>simp_all [l5,Ty.agg,Value.cells]
 | map o a b =>
  obtain ⟨_,_,_,hu,_⟩:=EF hT;rw [hd] at hu; cases hu;simp only [Cell.okWide,hd,Cell.ok] at h;cases v<;>simp_all [l5,Ty.agg,Value.cells]
 | box o g a =>
  cases g with
  | none =>
   obtain ⟨_,_,hu,_⟩:=JY hT;rw [hd] at hu; cases hu;simp only [Cell.okWide,hd,Cell.ok] at h;cases v<;>simp_all [l5,Ty.agg,Value.cells]
  | some f =>
   obtain ⟨_,_,_,hu⟩:=Sj hT;rw [hd] at hu; cases hu;simp only [Cell.okWide,hd,Cell.ok] at h;cases v<;>simp_all [l5,Ty.agg,Value.cells]
 | d0 o u =>
  obtain ⟨e,_,hu,_⟩:=G5 hT;rw [hd] at hu; cases hu;simp only [Cell.okWide,hd,Cell.ok] at h;cases v<;>simp_all [l5,Ty.agg,Value.cells]
 | hole u =>
  obtain ⟨e,hu⟩:=Sk hT;rw [hd] at hu; cases hu;simp only [Cell.okWide,hd,Cell.ok] at h;cases v<;>simp_all [l5,Ty.agg,Value.cells]
 | B9 u =>
  obtain ⟨e,hu⟩:=QI hT;rw [hd] at hu; cases hu;simp only [Cell.okWide,hd,Cell.ok] at h;cases v<;>simp_all [l5,Ty.agg,Value.cells]
 | _ =>
  cases d<;>first|(exact (aAy dp.symm).elim)|skip
  all_goals
   obtain ⟨cs,rfl,_⟩:=h;simp [l5,Ty.agg,Value.cells]
def za (P:Program):List TypeId->List Ty->Bool
 | [],[]=>true
 | T::ts,t::us=>o8 P 100 T t && t.flat && P.readableRec T && decide (T<P.types.size) && za P ts us
 | _,_=>false
def Ae:(us:List Ty)->DK (us.map .v)->Nat
 | [],_=>0
 | t::us,x=>t.W0 x.1+Ae us x.2
theorem SJ:∀ {ts:List TypeId} {us:List Ty},za P ts us=true->∀ {vs:List Value} {ds:List (DataW X)} {ps:List MemPlace} {base:Nat} {r:Go.Reach},DataW.TrodAll enc P W 0 sp held ts vs ds ps ->
  (∀ (j:Nat) T v,ts[j]?=some T->vs[j]?=some v->Value.okWide P W r base T v)->∃ x:DK (us.map .v),V3 W.heap (λ b=>b<W.heap.size) (us.map .v) vs x []/\ds.length=ts.length/\Ae us x<=V1 ds
 | [],[],_,vs,ds,ps,base,r,h,_=>by
  obtain ⟨rfl,rfl,rfl⟩:=trodAll_nil h;exact ⟨(),⟨rfl,rfl⟩,rfl,aAj _⟩
 | [],_::_,h,_,_,_,_,_,_,_=>by cases h
 | _::_,[],h,_,_,_,_,_,_,_=>by cases h
 | T::ts,t::us,dd,vs,ds,ps,base,r,h,aM=>by
  simp only [za,aAa] at dd;obtain ⟨⟨⟨⟨h1,h2⟩,_⟩,_⟩,h5⟩:=dd;obtain ⟨v,vs',d,ds',p,q,rfl,rfl,rfl,⟨fuel,hv⟩,hr⟩:=trodAll_cons h;obtain ⟨y,hy,hb⟩:=(b0Z t h2).1 h1 hv;obtain ⟨x,hx,hl,fx⟩:=SJ h5 hr (λ j T v hT hv=>aM (j+1) T v (by simpa using hT) (by simpa using hv));exact ⟨(y,x),⟨v,vs',[],[],rfl,rfl,⟨rfl,_,b80 h1 (aM 0 T v rfl rfl),hy⟩,hx⟩,by simp [hl],by simp only [Ae,V1]; exact Nat.add_le_add hb fx⟩
theorem Ux (hl:laidOutB P=true) (hb:Below W.heap.size W W'):∀ {ts:List TypeId} {us:List Ty},za P ts us=true->∀ {vs:List Value} {ds:List (DataW X)} {ps:List MemPlace},DataW.TrodAll enc P W 0 (λ _=>true) true ts vs ds ps ->
  (∀ p∈ps,p.block<W.heap.size)->(∀ p∈ps,sp p.block=true)->DataW.TrodAll enc P W' 0 sp true ts vs ds ps
 | [],[],_,vs,ds,ps,h,_,_=>by
  obtain ⟨rfl,rfl,rfl⟩:=trodAll_nil h;rfl
 | [],_::_,h,_,_,_,_,_,_=>by cases h
 | _::_,[],h,_,_,_,_,_,_=>by cases h
 | T::ts,t::us,dd,vs,ds,ps,h,bf,fA=>by
  simp only [za,aAa] at dd;obtain ⟨⟨⟨⟨_,_⟩,h3⟩,h4⟩,h5⟩:=dd;obtain ⟨v,vs',d,ds',p,q,rfl,rfl,rfl,hv,hr⟩:=trodAll_cons h;refine trodAll_cons_mk (WideElems.Trod_stays hl h3 (of_decide_eq_true h4) hv (λ x hx=>hb.same (bf x (by simp [hx]))) (λ x hx=>fA x (by simp [hx]))) ?_;exact Ux hl hb h5 hr (λ x hx=>bf x (by simp [hx])) (λ x hx=>fA x (by simp [hx]))
def Gi (us:List Ty) (pre:DK (us.map .v)->Prop):p7:={ ps:=us.map .v,rs:=[.bool],pre:=pre,fn:=λ _=>(true,()),out:=λ _=>MI us }
where MI:(us:List Ty)->DL (E8 (us.map .v))
 | []=>()
 | _::us=>MI us
theorem OQ:∀ us:List Ty,(us.map PK.v).any PK.lnk=false
 | []=>rfl
 | _::us=>OQ us
theorem ZM {C:Checked} {f:FuncId} {fn:Func} {s:ChangeSpec} {apart fresh handsOn again:Bool} {us:List Ty} {tb:TypeId} {pre:DK (us.map .v)->Prop}
  (hl:laidOutB C.prog=true) (dd:za C.prog fn.params.toList us=true) (fJ:s.vars=[]) (hs:∀ ds:List (DataW X),ds.length=fn.params.toList.length->s.fn X ds={ results:=[.lit (.bool true)],args:=ds })
  (eK:fn.resultTypes=#[tb]) (nU:C.prog.underlying tb=some .bool) (hv:(Gi us pre).Valid C.prog f)
  {W:World} (dI:vv C.prog W (λ b=>b<W.heap.size)) {base:Nat} {args:Array Value} {ds gs:List (DataW X)} {before:List MemPlace} {rr:Go.Reach} (bc:∀ x,Ae us x<=V1 ds->pre x)
  (dB:∀ (j:Nat) t v,fn.params[j]?=some t->args[j]?=some v->Value.okWide C.prog W rr base t v) (hW:DataW.Whole enc C.prog fn.params.toList s.vars apart W args.toList ds gs before) :
  Calls C.prog f args W λ e W'=>∃ v,e=.returned v/\s.post enc C.prog fn apart fresh handsOn again W args v W':=by
 have bf:=DataW.Whole.lt hW;have rI:=hW;obtain ⟨p,q,hA,hV,rfl,hz,hn⟩:=hW;rw [fJ] at hV;obtain ⟨rfl,rfl⟩:=trodVars_none hV;simp only [aBc] at bf hz hn rI;obtain ⟨x,hx,hlen,lu⟩:=SJ dd hA (λ j T v hT hv=>dB j T v (by simpa using hT) (by simpa using hv));have hc:=hv.run W (λ b=>b<W.heap.size) args.toList x [] (λ _ h=>h) dI (bc x lu) hx (CI (OQ us)) aAw (by simp);refine Calls.mono (by simpa using hc) ?_;rintro e w' ⟨us',O,Lo,S',rfl,bj,_,_,⟨v,us2,O1,O2,cs,rfl,rfl,rfl,hR,fy⟩,_,_,_⟩;have hb:RowKit.Below W.heap.size W w':=⟨bj.os,bj.tape.1,bj.out,bj.size,λ k hk=>bj.frame k hk (by simp)⟩;obtain ⟨rfl,rfl⟩:=fy;obtain ⟨_,rfl⟩:=hR;have oY:wR [l5 .bool [.bool ((Gi us pre).fn x).1]]=.bool true:=rfl;rw [oY];have iL:=hs ds hlen;have aH:∀ sp:Nat->Bool,(∀ x∈p,sp x.block=true)->DataW.TrodAll enc C.prog w' 0 sp true fn.params.toList args.toList ds p:=λ sp fA=>Ux hl hb dd hA bf fA;have cn:∀ (b:Nat) (sp:Nat->Bool) (hd:Bool),DataW.TrodAll enc C.prog w' b sp hd fn.resultTypes.toList ((Value.bool true).resultList fn.resultTypes.size) [.lit (.bool true)] []:=by
  intro b sp hd;rw [eK];exact trodAll_cons_mk (shut_bool nU _) trodAll_mk0
 have iU:∀ sp:Nat->Bool,DataW.TrodVars enc C.prog w' sp s.vars [] []:=by intro sp; rw [fJ]; rfl
 have hold:∀ x∈p,(λ b=>decide (b<W.heap.size)) x.block=true:=λ x hx=>by simpa using bf x hx
 refine ⟨_,rfl,ds,[],p,[],p,[],rI,?_,?_,?_,?_,?_⟩
 ·rw [aBc,iL]; exact cn _ _ _
 ·rw [aBc,iL]; exact aH _ hold
 ·rw [aBc,iL]; exact iU _
 ·exact hb.frame _
 ·intro _
  refine ⟨ok_one eK rfl (okWide_bool_mk nU _),.lit (.bool true)::ds,[],p,⟨[]++p,[],trodAll_append (aH _ (λ _ _=>rfl)) (cn _ _ _),iU _,by simp,?_,?_⟩,λ x hx _=>by simpa using hx⟩
  ·intro b off hp
   rw [hb.frozen (bf _ hp)];exact hz b off hp
  ·exact hn
def Nx (us:List Ty):p7:=Gi us (λ x=>Ae us x<=1048576)
end
end Go.Ex
