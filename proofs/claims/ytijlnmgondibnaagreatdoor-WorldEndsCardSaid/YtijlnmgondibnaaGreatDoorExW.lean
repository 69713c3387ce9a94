import Derived.Test.YtijlnmgondibnaaGreatDoorExK8
import Derived.WalkKit
import Derived.ProofKit
import Derived.OpenShut
import Derived.JoinedCond
set_option linter.unusedVariables false
set_option linter.unusedSimpArgs false
set_option linter.unusedSectionVars false
namespace Go.Ex
section
variable {E:Env} {B:F5} {S S':Nat->Prop} {ι:Ix} {s:St} {a:Act} {w:World} {hp:List (Nat×g9)} {H H':Array Go.Obj}
def At (P:Program) (fn:Func) (R:Ending->World->Prop) (k:List Item) (a:Act) (w:World):Prop :=
 ∀ (b:Frame) (cs:List Frame),∃ (e:Exit) (a':Act) (w':World),bodyPost P fn R e a' w'/\Arrives P (lone (b.at a k) cs w) b [] cs e a' w'
section at_
variable {P:Program} {fn:Func} {R:Ending->World->Prop} {k k':List Item}
theorem At.step (hs:∀ (b:Frame) (cs:List Frame),step P (lone (b.at a k) cs w)=.next (lone (b.at a k') cs w)) (h:At P fn R k' a w):At P fn R k a w :=
 λ b cs=>let ⟨e,a',w',q,r⟩:=h b cs; ⟨e,a',w',q,.of_steps (.one (hs b cs)) r⟩
theorem At.region {id:Nat} {ops:Array Oper} {d:Bool} (h:(Code.region id ops d).wp P (λ e a w=>e=.normal/\At P fn R k a w) a w):At P fn R (.code (.region id ops d)::k) a w:=by
 intro b cs;obtain ⟨e,a',w',⟨rfl,h2⟩,eU⟩:=h b k cs;obtain ⟨e,a'',w'',q,r⟩:=h2 b cs;exact ⟨e,a'',w'',q,.of_steps eU r⟩
theorem At.done (h:bodyPost P fn R .normal a w):At P fn R [] a w:=λ _ _=>⟨.normal,a,w,h,Steps.refl _ _⟩
theorem At.ret (h:bodyPost P fn R .ret a w):At P fn R (.code .ret::k) a w:=λ _ _=>⟨.ret,a,w,h,_,.one step_ret⟩
theorem b9r {f:FuncId} {c:Code} {args:Array Value} (hf:P.funcs[f]?=some fn) (hb:fn.body=some c)
  (h:At P fn R [.code c] { tmps:=args++Array.replicate (fn.ntmps - args.size) undef,defers:=[] } w):Calls P f args w R:=by
 intro cs
 let b:Frame:={ (default:Frame) with fn:=f,kind:=.normal }
 have lK:Frame.enter P f args .normal=b.at { tmps:=args++Array.replicate (fn.ntmps - args.size) undef,defers:=[] } [.code c]:=by
  simp [Frame.enter,Frame.at,hf,hb,b]
 obtain ⟨e,a',w',hq,eU⟩:=h b cs;rw [<- lK] at eU;cases e with
 | normal =>
  obtain ⟨hd,v,hr,hR⟩:=hq;exact ⟨.returned v,w',_,hR,Steps.trans eU (.one step_end),rfl,rfl,hd,rfl,fn,hf,hr⟩
 | ret =>
  obtain ⟨hd,v,hr,hR⟩:=hq;obtain ⟨todo,hs⟩:=eU;exact ⟨.returned v,w',_,hR,hs,rfl,rfl,hd,rfl,fn,hf,hr⟩
 | panic chain =>
  obtain ⟨hd,hR⟩:=hq;obtain ⟨todo,hs⟩:=eU;exact ⟨.panicked chain,w',_,hR,hs,rfl,rfl,hd,fn,hf⟩
 | exit id=>exact hq.elim
 | goto l=>exact hq.elim
 | outgrown=>exact ⟨.outgrown,w',b,hq,eU.resolve_left (by simp [b]),rfl,trivial⟩
end at_
theorem RS.S4 (live:List Nat) (s0:St):∀ {l:List (Nat×g9)} {s:St},RS B S ι s a w->RS B S ι (S4 live s0 l s) a w
 | [],_,h=>h
 | (i,_)::l,s,h=>by
  simp only [Ex.S4]
  split
  ·exact RS.S4 live s0 h
  ·rename_i hp
   simp only [aBx] at hp;exact RS.S4 live s0 (h.drop hp.1)
theorem RS.HM (h:RS B S ι s a w) {m d:Nat} (hf:s.fresh d=true) {t:Ty} {x:t.den} {O:List Nat} {cs:List Value} (hv:a.tmps.getD m (B.gd m)=s5 t cs) (hR:i6 w.heap S t O cs x) (hF:H2 B S ι s.hp w O) :
  ∃ ι',RS B S ι' { s.y9 d (.own t x) with fr:=Ex.put m (.at_ d []) s.fr } a w :=
 ⟨_,(h.hold hf hR hF).slot (t:=m) (v:=.at_ d []) (by rw [hv]; exact AH hR.length)⟩
def zK (ι ι':Ix) (i j:Nat):Prop:=ι'.root j=ι.root i/\ι'.cells j=ι.cells i/\ι'.own j=ι.own i
theorem zK.place {ι':Ix} {i j:Nat} (h:zK ι ι' i j) {H:Array Go.Obj} {e:g9} {p:List Step}:Place H ι' j e p=Place H ι i e p:=by
 obtain ⟨h1,h2,h3⟩:=h;cases e<;>simp only [Place,VH,VR,h1,h2]
theorem zK.loc {ι':Ix} {i j:Nat} (h:zK ι ι' i j) {H:Array Go.Obj} {e:g9} {p:List Step}:Loc H ι' j e p=Loc H ι i e p:=by
 simp only [Loc,h.place]
theorem zK.Ci {ι':Ix} {i j:Nat} (h:zK ι ι' i j) {H:Array Go.Obj} {e:g9} {p:List Step} {u:Ty} {cs:List Value}:Cells H ι' j e p u cs↔Cells H ι i e p u cs:=by
 have hv:VH H ι' j e=VH H ι i e:=by obtain ⟨h1,h2,h3⟩:=h; cases e<;>simp only [VH,h2]
 simp only [Cells,h.place,hv]
theorem RS.ren (h:RS B S ι s a w) {i j:Nat} (hi:pinned i=false) {u:Ty} {x:u.den} (h1:look i s.hp=some (.own u x)) (hf:s.fresh j=true) :
  ∃ ι',RS B S ι' { fr:=mapA (AV.ren i j) s.fr,hp:=Ex.put j (.own u x) (del i s.hp) } a w:=by
 obtain ⟨f1,f2⟩:=FG hf;have bS:i≠j:=by rintro rfl; rw [f1] at h1; cases h1
 let ι':Ix:={ root:=λ k=>if k=j then ι.root i else ι.root k,cells:=λ k=>if k=j then ι.cells i else ι.cells k,own:=λ k=>if k=j then ι.own i else ι.own k }
 have mc:zK ι ι' i j:=⟨by simp [ι'],by simp [ι'],by simp [ι']⟩;have oA:∀ k,k≠j->G1 ι ι' k:=λ k hk=>⟨by simp [ι',hk],by simp [ι',hk],by simp [ι',hk]⟩;have hF:H2 B S ι (St.B9 [i] s).hp w (ι.own i):=by
  obtain ⟨⟨O,hO,hR⟩,aK⟩:=(h.hs.ob i _ h1:OB w.heap S ι i (.own u x));exact H2.B9 h.hs aK (λ b hb=>⟨i,_,by simp,h1,hb⟩)
 have aT:OB w.heap S ι' j (.own u x):=by
  obtain ⟨⟨O,hO,hR⟩,aK⟩:=(h.hs.ob i _ h1:OB w.heap S ι i (.own u x));obtain ⟨e1,e2,e3⟩:=mc;exact ⟨⟨O,by rw [e3]; exact hO,by rw [e2]; exact hR⟩,by rw [e3]; exact aK⟩
 have hd:=h.hs.drop hi;refine ⟨ι',⟨hd.add (d:=j) (e:=.own u x) (ι':=ι') (O:=ι.own i) ?_ oA aT ?_ hF,h.dfr,h.sz,?_⟩⟩
 ·rw [M8]; split<;>first|rfl|exact f1
 ·intro b hb
  have:ι'.own j=ι.own i:=mc.2.2;show b∈ι.own i;rw [<- this]; exact hb
 ·intro t v hv
  simp only [R7,aCq] at hv;obtain ⟨v0,fk,rfl⟩:=hv;have ov:=f2 t v0 fk;refine VX.map (λ _ _=>rfl) (λ _ h=>h) (λ q vs hq hm hv=>?_) (h.fr t v0 fk);have dn:∀ k,q.i8 k=true->k≠i->look k (Ex.put j (.own u x) (del i s.hp))=look k s.hp:=by
   intro k hk gM;have nC:k≠j:=by rintro rfl; rw [hm k hk] at ov; cases ov
   rw [p9,if_neg nC,M8,if_neg gM]
  have dp:look j (Ex.put j (g9.own u x) (del i s.hp))=some (.own u x):=by rw [p9,if_pos rfl]
  dsimp only
  split
  ·rename_i cf
   refine VX.other (λ k hk=>dn k hk ?_) (λ k hk=>oA k ?_) hv
   ·rintro rfl; rw [hk] at cf; cases cf
   ·rintro rfl; rw [hm k hk] at ov; cases ov
  ·rename_i cf
   split
   ·rename_i k p
    have:=aAe cf;subst this;obtain ⟨e,b,off,k1,k2,k3,k4⟩:=hv;rw [h1] at k1; cases k1;exact ⟨_,b,off,dp,k2,mc.loc.trans k3,k4⟩
   ·rename_i k p
    have:=aAe cf;subst this;obtain ⟨e,u',y,cs,k1,k2,k3,k4,k5⟩:=hv;rw [h1] at k1; cases k1;exact ⟨_,u',y,cs,dp,k2,k3,mc.Ci.2 k4,k5⟩
   ·rename_i k p lo cW
    have:=aAe cf;subst this;obtain ⟨e,v,k1,k2,k3,k4,k5,k6⟩:=hv;rw [h1] at k1; cases k1;refine ⟨_,v,dp,k2,k3,k4,k5,?_⟩;rcases k6 with ⟨t',l,A,cap,q1,q2,q3,q4⟩|⟨n,t',l,b,off,q1,q2,q3,q4⟩
    ·exact .inl ⟨t',l,A,cap,q1,q2,mc.Ci.2 q3,q4⟩
    ·exact .inr ⟨n,t',l,b,off,q1,q2,mc.loc.trans q3,q4⟩
   ·obtain ⟨y,e⟩:=VX.one hq hv
    exact ⟨y,e⟩
theorem RS.settle (h:RS B S ι s a w) (m:Nat) (t:Ty):∃ ι',RS B S ι' (settle m t s) a w:=by
 have hg:=h.get m;unfold Ex.settle
 split
 ·rename_i hm
  rw [hm] at hg;have hv:a.tmps.getD m (B.gd m)=Value.slice none 0 0:=by
   have:[a.tmps.getD m (B.gd m)]=[Value.slice none 0 0]:=hg;simpa using this
  split
  ·rename_i u hf
   exact h.HM hf (t:=.d0 true u) (x:=([]:List u.den)) (O:=[]) (cs:=[.slice none 0 0]) hv (.inl ⟨rfl,⟨none,0,rfl,λ _=>rfl⟩,rfl⟩) H2.nil
  ·exact ⟨ι,h⟩
 ·rename_i i hm
  split
  ·rename_i u x aT
   split
   ·exact ⟨ι,h⟩
   ·rename_i hc
    simp only [aBx,aFc] at hc;exact h.ren hc.1 aT hc.2
  ·exact ⟨ι,h⟩
 ·rename_i i lo hi hm
  rw [hm] at hg
  split
  ·rename_i u x g cU
   split
   ·exact ⟨ι,h⟩
   ·rename_i hc
    simp only [aBx,aFc] at hc;obtain ⟨O,cs,k1,k2,k3,k4⟩:=Bf h.hs cU hg;have ez:g=[i]:=by
     simp only [AV.vF] at cU;split at cU<;>cases cU;rfl
    subst ez;exact (h.drop hc.1).HM hc.2 k1 k2 (H2.B9 h.hs k3 k4)
  ·exact ⟨ι,h⟩
 ·rename_i u x hm
  rw [hm] at hg
  split
  ·rename_i hc
   simp only [aAa] at hc;obtain ⟨cs,e,hR⟩:=hg;exact h.HM hc.2 (by simpa using e) hR H2.nil
  ·exact ⟨ι,h⟩
 ·exact ⟨ι,h⟩
theorem RS.Y8:∀ {l:List (Nat×Option Ty)} {ι:Ix} {s:St},RS B S ι s a w->∃ ι',RS B S ι' (Y8 l s) a w
 | [],ι,s,h=>⟨ι,h⟩
 | (_,none)::l,ι,s,h=>RS.Y8 (l:=l) h
 | (m,some t)::l,ι,s,h=>by
  obtain ⟨ι',h'⟩:=h.settle m t;exact RS.Y8 (l:=l) h'
theorem RS.canon (h:RS B S ι s a w) (x:List (Nat×Option Ty)):∃ ι',RS B S ι' (canon x s) a w:=by
 have h1:RS B S ι (Ex.S4 (x.map (·.1)) s s.hp s) a w:=RS.S4 (x.map (·.1)) s h;obtain ⟨ι',h2⟩:=RS.Y8 (l:=x) h1;have h3:=RS.S4 (x.map (·.1)) (Ex.Y8 x (Ex.S4 (x.map (·.1)) s s.hp s)) (l:=(Ex.Y8 x (Ex.S4 (x.map (·.1)) s s.hp s)).hp) h2;refine ⟨ι',h3.hs,h3.dfr,h3.sz,?_⟩;intro t v hv;simp only [Ex.canon] at hv;generalize hs:Ex.S4 (x.map (·.1)) (Ex.Y8 x (Ex.S4 (x.map (·.1)) s s.hp s)) (Ex.Y8 x (Ex.S4 (x.map (·.1)) s s.hp s)).hp (Ex.Y8 x (Ex.S4 (x.map (·.1)) s s.hp s))=s1 at hv h3;have:v=s1.get t:=by
  generalize x.map (·.1)=ts at hv;clear h3 hs;revert hv
  induction ts with
  | nil=>intro hv; cases hv
  | cons t' l ih =>
   intro hv;simp only [aCf,look] at hv;cases hb:Nat.beq t t' with
   | true =>
    rw [hb] at hv;have:=aAe hb;subst this;cases hv; rfl
   | false=>rw [hb] at hv; exact ih hv
 rw [this];have:=h3.get t;simp only [Ex.canon,hs];exact this
theorem LS (hE:E2 E B) (h:RS B S ι s a w):∀ {rs:List ResultVar} {l:AV},a72 E s rs=some l ->
  ∃ us,(rs.mapM λ r=>(match r with
   | .tmp t=>pure (a.tmps.getD t undef)
   | .cell c t=>do loadVar t (<- asAddr (a.tmps.getD c undef)):Sem Value)).run E.P w=.ok us w/\VX w.heap S ι s.hp l us
 | [],l,hl=>by
  simp only [a72,aAc] at hl;subst hl;exact ⟨[],rfl,rfl⟩
 | .tmp t::rs,l,hl=>by
  simp only [a72] at hl;split at hl
  ·rename_i v hv
   cases hl;obtain ⟨us,h1,h2⟩:=LS hE h hv;exact ⟨a.tmps.getD t undef::us,by simp only [aGv,Sem.run_bind,Sem.run_pure,Result.andThen,h1],_,us,rfl,h.ev (.tmp t),h2⟩
  ·cases hl
 | .cell c T::rs,l,hl=>by
  simp only [a72] at hl;split at hl
  ·rename_i i p hc
   have hv:=h.ev (.tmp c);rw [hc] at hv;obtain ⟨e,b,off,k1,k2,k3,k4⟩:=hv;have k4:a.tmps.getD c undef=.pointer (some ⟨b,off,none⟩):=by
    have k5:[a.tmps.getD c undef]=[.pointer (some ⟨b,off,none⟩)]:=k4;exact List.head_eq_of_cons_eq k5
   split at hl
   ·rename_i u y cT
    have hg:=J5 k1 cT;split at hl
    ·rename_i bB
     split at hl
     ·rename_i v hv
      obtain ⟨us,h1,h2⟩:=LS hE h hv;obtain ⟨O2,m1,mn,m2,m3,m4,m5⟩:=P6 (M6 k3) (h.hs.ob i _ k1) h.hs.slt k2 hg k3;have tn:(do loadVar T (<- asAddr (a.tmps.getD c undef)):Sem Value).run E.P w=.ok (s5 u (e8 w.heap b off u.size)) w:=by
       rw [k4]; simp [asAddr,Du (E5 hE bB) m2]
      refine ⟨s5 u (e8 w.heap b off u.size)::us,?_,?_⟩
      ·simp only [aGv]
       rw [Sem.run_bind,tn];simp only [Result.andThen,Sem.run_bind,Sem.run_pure,h1]
      ·split at hl
       ·rename_i hs
        cases hl;have:=m2.Q8 hs;subst this;exact ⟨_,us,rfl,⟨_,rfl,m2⟩,h2⟩
       ·cases hl
        obtain ⟨r3,r4⟩:=E0 k3;exact ⟨_,us,rfl,⟨_,u,y,_,k1,k2,hg,⟨b,off,r3,by rw [l7 (H7 r4)]⟩,rfl⟩,h2⟩
     ·cases hl
    ·cases hl
   ·cases hl
  ·cases hl
theorem b8M (hE:E2 E B) (h:RS B S ι s a w) {fn:Func} (eO:fn.results.toList=E.res) {l:AV} (hl:a72 E s E.res=some l) :
  ∃ us,(results fn a.tmps).run E.P w=.ok (xl us) w/\VX w.heap S ι s.hp l us:=by
 obtain ⟨us,h1,h2⟩:=LS hE h hl;refine ⟨us,?_,h2⟩;rw [<- eO] at h1;have:(fn.results.mapM λ r=>(match r with
   | .tmp t=>pure (a.tmps.getD t undef)
   | .cell c t=>do loadVar t (<- asAddr (a.tmps.getD c undef)):Sem Value)).run E.P w=.ok us.toArray w:=by
  rw [aGx,Sem.run_map,h1]; rfl
 simp only [results];rw [Sem.run_bind];refine (congrArg (λ r:Result (Array Value)=>r.andThen λ vs w'=>Sem.run E.P (pure (if h:vs.size=1 then vs[0] else Value.tuple vs)) w') this).trans ?_;simp only [Result.andThen,Sem.run_pure]
 match us with
 | []=>rfl
 | [v]=>rfl
 | v::v2::l=>rfl
theorem c09 (h:HS B S ι s.hp w) {t:Ty} {used fj:List Nat} {av:AV} {x:t.den} {v:Value} (hr:IM s t used av=some (x,fj)) (hv:VX w.heap S ι s.hp av [v]) :
  ∃ O cs,v=s5 t cs/\i6 w.heap S t O cs x/\O.Nodup/\(∀ b∈O,∃ i e,i∈fj/\i∉used/\pinned i=false/\look i s.hp=some e/\b∈l8 ι i e)/\∀ i∈used,i∈fj:=by
 unfold IM at hr;split at hr
 ·rename_i i
  split at hr
  ·cases hr
  ·rename_i hc
   simp only [aBx] at hc;obtain ⟨dQ,iH⟩:=hc;have lk:i∉used:=by intro hm; simp [hm] at dQ
   obtain ⟨e,u,y,cs,h1,h2,h3,h4,h5⟩:=hv;have key:∀ {e0:g9},s.obj i=some e0->(hu:e0.ty=t)->∀ {x},x=Y1 hu e0.x->∃ O cs,v=s5 t cs/\i6 w.heap S t O cs x/\O.Nodup/\(∀ b∈O,∃ j e,j∈i::used/\j∉used/\pinned j=false/\look j s.hp=some e/\b∈l8 ι j e)/\∀ j∈used,j∈i::used:=by
    rintro e0 aT rfl x rfl;obtain rfl:=xy h1 aT;rw [D6] at h3; cases h3;obtain ⟨O2,m1,m2,m3⟩:=I2 h h1 h2 D6 h4;exact ⟨O2,cs,by simpa using h5,m3,m2,λ b hb=>⟨i,_,by simp,lk,iH,h1,J8 (m1 b hb)⟩,λ j hj=>by simp [hj]⟩
   split at hr
   ·rename_i u' x' aT
    split at hr
    ·rename_i hu; cases hr; exact key (e0:=.var u' x') aT hu rfl
    ·cases hr
   ·rename_i u' x' aT
    split at hr
    ·rename_i hu; cases hr; exact key (e0:=.own u' x') aT hu rfl
    ·cases hr
   ·cases hr
 ·rename_i i lo hi
  split at hr
  ·cases hr
  ·rename_i hc
   simp only [aBx] at hc;obtain ⟨dQ,iH⟩:=hc;have lk:i∉used:=by intro hm; simp [hm] at dQ
   split at hr
   ·rename_i u x' g cU
    split at hr
    ·rename_i hu
     cases hr;subst hu;obtain ⟨O,cs,k1,k2,k3,k4⟩:=Bf h cU hv;have ez:g=[i]:=by
      simp only [AV.vF] at cU;split at cU<;>cases cU;rfl
     subst ez;refine ⟨O,cs,k1,k2,k3,λ b hb=>?_,λ j hj=>by simp [hj]⟩;obtain ⟨j,e,j1,j2,j3⟩:=k4 b hb;simp only [aAq,aEq,or_false] at j1;subst j1;exact ⟨j,e,by simp,lk,iH,j2,j3⟩
    ·cases hr
   ·cases hr
 ·rename_i i
  split at hr
  ·cases hr
  ·rename_i hc
   simp only [aBx] at hc;obtain ⟨dQ,iH⟩:=hc;have lk:i∉used:=by intro hm; simp [hm] at dQ
   split at hr
   ·rename_i u y aT
    split at hr
    ·rename_i hu
     subst hu;cases hr;obtain ⟨e,b,off,h1,h2,h3,h4⟩:=hv;obtain rfl:=xy h1 aT;obtain ⟨⟨O,hO,hR⟩,hf,aK⟩:=h.ob i _ h1;have hl:(ι.root i).1=b/\(ι.root i).2=off:=by
      have:=(E0 h3).1;simp only [Place,C8,VR,aAc,aBb] at this;exact this
     obtain ⟨rfl,rfl⟩:=hl;refine ⟨(ι.root i).1::O,[.pointer (some ⟨(ι.root i).1,(ι.root i).2,none⟩)],by simpa [s5,Ty.agg] using h4,.inr ⟨_,_,_,O,rfl,rfl,hf.y8,hR,rfl,hf⟩,((hO.cons _).nodup_iff).2 aK,λ c hc=>⟨i,_,by simp,lk,iH,h1,?_⟩,λ j hj=>by simp [hj]⟩;simp only [l8];exact ((hO.cons _).mem_iff).1 hc
    ·cases hr
   ·cases hr
 ·rename_i f i
  split at hr
  ·cases hr
  ·rename_i hc
   simp only [aBx] at hc;obtain ⟨dQ,iH⟩:=hc;have lk:i∉used:=by intro hm; simp [hm] at dQ
   split at hr
   ·rename_i u y aT
    split at hr
    ·rename_i hu
     subst hu;cases hr;obtain ⟨us,fa,v0,us0,rfl,⟨e,b,off,h1,h2,h3,h4⟩,kV⟩:=hv;have kV:us0=[]:=kV;subst kV;have h4:v0=.pointer (some ⟨b,off,none⟩):=by simpa using h4
     subst h4;obtain rfl:=xy h1 aT;obtain ⟨⟨O,hO,hR⟩,hf,aK⟩:=h.ob i _ h1;have hl:(ι.root i).1=b/\(ι.root i).2=off:=by
      have:=(E0 h3).1;simp only [Place,C8,VR,aAc,aBb] at this;exact this
     obtain ⟨rfl,rfl⟩:=hl;refine ⟨(ι.root i).1::O,[xG (some f) ⟨(ι.root i).1,(ι.root i).2,none⟩],by simpa [s5,Ty.agg,xG] using fa,.inr ⟨_,_,_,O,rfl,rfl,hf.y8,hR,rfl,hf⟩,((hO.cons _).nodup_iff).2 aK,λ c hc=>⟨i,_,by simp,lk,iH,h1,?_⟩,λ j hj=>by simp [hj]⟩;simp only [l8];exact ((hO.cons _).mem_iff).1 hc
    ·cases hr
   ·cases hr
 ·split at hr
  ·cases hr
   have hv:v=Value.pointer none:=by
    have:[v]=[Value.pointer none]:=hv;simpa using this
   subst hv;exact ⟨[],[.pointer none],by simp [s5,Ty.agg],.inl ⟨rfl,rfl,rfl⟩,aAy,by simp,λ _ h=>h⟩
  ·cases hr
 ·split at hr
  ·rename_i x' hx
   cases hr;obtain ⟨cs,e,hR⟩:=Iz hx hv;exact ⟨[],cs,e,hR,aAy,by simp,λ _ h=>h⟩
  ·cases hr
theorem TJ (h:HS B S ι s.hp w):∀ {rs:List Ty} {used:List Nat} {l:AV} {y:DL rs} {us:List Value},Bu s rs used l=some y->VX w.heap S ι s.hp l us ->
  ∃ O,N2 w.heap S rs O us y/\O.Nodup/\∀ b∈O,∃ i e,i∉used/\pinned i=false/\look i s.hp=some e/\b∈l8 ι i e
 | [],used,l,y,us,hr,hv=>by
  cases l<;>simp only [Bu] at hr<;>first|cases hr|skip
  exact ⟨[],⟨rfl,hv⟩,aAy,by simp⟩
 | t::ts,used,l,y,us,hr,hv=>by
  cases l<;>simp only [Bu] at hr<;>first|cases hr|skip
  rename_i av bv;obtain ⟨v,us',rfl,ha,hb⟩:=hv;split at hr
  ·rename_i x fj h1
   split at hr
   ·rename_i y' h2
    cases hr;obtain ⟨O1,cs,k1,k2,k3,k4,k5⟩:=c09 h h1 ha;obtain ⟨O2,m1,m2,m3⟩:=TJ h h2 hb;refine ⟨O1++O2,⟨v,us',O1,O2,cs,rfl,rfl,k1,k2,m1⟩,aAg.2 ⟨k3,m2,?_⟩,?_⟩
    ·rintro c hc d hd rfl
     obtain ⟨i,e,i1,_,_,i2,i3⟩:=k4 c hc;obtain ⟨j,e',j1,_,j2,j3⟩:=m3 c hd;exact h.dj i j e e' i2 j2 (by rintro rfl; exact j1 i1) c i3 j3
    ·intro c hc
     rcases aAi.1 hc with hc|hc
     ·obtain ⟨i,e,_,i1,i4,i2,i3⟩:=k4 c hc
      exact ⟨i,e,i1,i4,i2,i3⟩
     ·obtain ⟨j,e',j1,j4,j2,j3⟩:=m3 c hc
      exact ⟨j,e',λ hj=>j1 (k5 j hj),j4,j2,j3⟩
   ·cases hr
  ·cases hr
def O6:(ks:List PK)->List Value->Nat->List (Nat×(Nat×Nat)×List Value)
 | .rw _::ks,v::vs,i=>(match v with
  | .pointer (some a)=>(2000000+i,(a.block,a.off),[])
  | _=>(2000000+i,(0,0),[]))::O6 ks vs (i+1)
 | .mu _::ks,v::vs,i=>(2000000+i,(0,0),[v])::O6 ks vs (i+1)
 | _::ks,_::vs,i=>O6 ks vs (i+1)
 | _,_,_=>[]
theorem Gn (h:HS B S ι s.hp w) {H0:Array Go.Obj} {S0:Nat->Prop}:∀ {ks:List PK} {vs:List Value} {x:DK ks} {L0:List Nat} {j:Nat} {z:DL (F9 ks)},W2 H0 S0 ks vs x L0->(∀ q∈O6 ks vs j,q∈B.pins)->vO s ks j=some z ->
  ∃ Lo,I1 w.heap S ks vs z Lo/\Lo.Nodup/\∀ b∈Lo,∃ i e,2000000+j<=i/\look i s.hp=some e/\b∈l8 ι i e
 | [],vs,x,L0,j,z,hK,_,hz=>⟨[],⟨hK.1,rfl⟩,aAy,by simp⟩
 | k::ks,vs,x,L0,j,z,⟨v,us,L1,L2,e1,e2,hk,hK⟩,hp,hz=>by
  subst e1 e2;have plain:∀ {z':DL (F9 ks)},(∀ q∈O6 ks us (j+1),q∈B.pins)->vO s ks (j+1)=some z'->∃ Lo,I1 w.heap S ks us z' Lo/\Lo.Nodup/\∀ b∈Lo,∃ i e,2000000+j<=i/\look i s.hp=some e/\b∈l8 ι i e:=by
   intro z' hp hz;obtain ⟨Lo,k1,k2,k3⟩:=Gn h hK hp hz;exact ⟨Lo,k1,k2,λ b hb=>by obtain ⟨i,e,i1,i2,i3⟩:=k3 b hb; exact ⟨i,e,by omega,i2,i3⟩⟩
  have join:∀ {L1 Lo:List Nat} {e0:g9},look (2000000+j) s.hp=some e0->L1.Nodup->(∀ b∈L1,b∈l8 ι (2000000+j) e0)->Lo.Nodup->(∀ b∈Lo,∃ i e,2000000+(j+1)<=i/\look i s.hp=some e/\b∈l8 ι i e) ->
    (L1++Lo).Nodup/\∀ b∈L1++Lo,∃ i e,2000000+j<=i/\look i s.hp=some e/\b∈l8 ι i e:=by
   intro L1 Lo e0 h1 n1 m1 n2 m2;refine ⟨aAg.2 ⟨n1,n2,?_⟩,?_⟩
   ·rintro c hc d hd rfl
    obtain ⟨i,e,i1,i2,i3⟩:=m2 c hd;exact h.dj (2000000+j) i e0 e h1 i2 (by omega) c (m1 c hc) i3
   ·intro b hb
    rcases aAi.1 hb with hb|hb
    ·exact ⟨_,e0,aAk _,h1,m1 b hb⟩
    ·obtain ⟨i,e,i1,i2,i3⟩:=m2 b hb; exact ⟨i,e,by omega,i2,i3⟩
  cases k with
  | v t=>obtain ⟨Lo,k1,k2⟩:=plain hp hz; exact ⟨Lo,⟨v,us,rfl,k1⟩,k2⟩
  | rd t=>obtain ⟨Lo,k1,k2⟩:=plain hp hz; exact ⟨Lo,⟨v,us,rfl,k1⟩,k2⟩
  | D9 f ts=>obtain ⟨Lo,k1,k2⟩:=plain hp hz; exact ⟨Lo,⟨v,us,rfl,k1⟩,k2⟩
  | X4=>obtain ⟨Lo,k1,k2⟩:=plain hp hz; exact ⟨Lo,⟨v,us,rfl,k1⟩,k2⟩
  | rcs f n=>obtain ⟨Lo,k1,k2⟩:=plain hp hz; exact ⟨Lo,⟨v,us,rfl,k1⟩,k2⟩
  | el q=>obtain ⟨Lo,k1,k2⟩:=plain hp hz; exact ⟨Lo,⟨v,us,rfl,k1⟩,k2⟩
  | own t=>obtain ⟨Lo,k1,k2⟩:=plain hp hz; exact ⟨Lo,⟨v,us,rfl,k1⟩,k2⟩
  | rw t =>
   obtain ⟨b0,off0,O0,rfl,_,_,_⟩:=hk;simp only [vO] at hz;split at hz
   ·rename_i u x' y' aT iI
    split at hz
    ·rename_i hu
     cases hz;subst hu;have aT:look (2000000+j) s.hp=some (.var u x'):=aT;obtain ⟨Lo,k1,k2,k3⟩:=Gn h hK (λ q hq=>hp q (by simp only [O6]; exact aAz _ hq)) iI;obtain ⟨_,_,p3,p4⟩:=h.pin (2000000+j,(b0,off0),[]) (hp _ (by simp [O6]));have p3:ι.root (2000000+j)=(b0,off0):=p3;obtain ⟨⟨O,hO,hR⟩,dZ,aK⟩:=(h.ob _ _ aT:OB w.heap S ι (2000000+j) (.var u x'));rw [p3] at hR dZ aK;have eC:(b0::O).Nodup:=aAt.2 ⟨λ hb=>(aAt.1 aK).1 (hO.mem_iff.1 hb),hO.nodup_iff.2 (aAt.1 aK).2⟩;obtain ⟨j1,j2⟩:=join aT eC (λ b hb=>by
      rcases aAq.1 hb with rfl|hb
      ·simp [l8,p3]
      ·simp [l8,hO.mem_iff.1 hb]) k2 k3
     exact ⟨(b0::O)++Lo,⟨b0,off0,O,us,Lo,rfl,hR,dZ,rfl,k1⟩,j1,j2⟩
    ·cases hz
   ·cases hz
  | mu t =>
   obtain ⟨cs0,rfl,eX⟩:=hk;simp only [vO] at hz;split at hz
   ·rename_i u x' y' aT iI
    split at hz
    ·rename_i hu
     cases hz;subst hu;have aT:look (2000000+j) s.hp=some (.own (.d0 true t) x'):=aT;obtain ⟨Lo,k1,k2,k3⟩:=Gn h hK (λ q hq=>hp q (by simp only [O6]; exact aAz _ hq)) iI;obtain ⟨_,_,p3,p4⟩:=h.pin (2000000+j,(0,0),[s5 (.d0 true t) cs0]) (hp _ (by simp [O6]));have p4:ι.cells (2000000+j)=[s5 (.d0 true t) cs0]:=p4;obtain ⟨⟨O,hO,hR⟩,aK⟩:=(h.ob _ _ aT:OB w.heap S ι (2000000+j) (.own (.d0 true t) x'));rw [p4] at hR;obtain ⟨j1,j2⟩:=join aT (hO.nodup_iff.2 aK) (λ b hb=>hO.mem_iff.1 hb) k2 k3;exact ⟨O++Lo,⟨[s5 (.d0 true t) cs0],O,us,Lo,rfl,rfl,hR,rfl,k1⟩,j1,j2⟩
    ·cases hz
   ·cases hz
end
end Go.Ex
namespace Go.Ex
def Ar {α:Type} (p:α->Prop) (l:List α):Prop:=∀ x∈l,p x
def I6:(t:Ty)->t.den->Prop
 | .int k,n=>w4 k n
 | .bool,_=>True
 | .str,s=>List.length s<=maxLen
 | .unit,_=>True
 | .fn _,_=>True
 | .hole _,_=>True
 | .D4 t,x=>List.length x.2.1<=maxLen/\Ar (I6 t) x.2.1
 | .map _ k v,x=>match x with
  | none=>True
  | some l=>Ar (λ p=>I6 k p.1/\I6 v p.2) l
 | .box _ _ t,x=>match x with
  | none=>True
  | some y=>I6 t y
 | .pair a b,x=>I6 a x.1/\I6 b x.2
 | .arr n t,l=>List.length l=n/\Ar (I6 t) l
 | .d0 _ t,l=>List.length l<=maxLen/\Ar (I6 t) l
def AV.I6:AV->Prop
 | .val t x=>Ex.I6 t x
 | .N1 t x=>Ex.I6 t x
 | _=>True
def HX:List (Nat×AV)->Prop
 | []=>True
 | (_,v)::l=>v.I6/\HX l
def BL:List (Nat×g9)->Prop
 | []=>True
 | (_,.var t x)::l=>Ex.I6 t x/\BL l
 | (_,.own t x)::l=>Ex.I6 t x/\BL l
 | (_,.N0)::l=>BL l
def St.I6 (s:St):Prop:=HX s.fr/\BL s.hp
def PK.I6:(k:PK)->k.den->Prop
 | .v t,x=>Ex.I6 t x
 | .rd t,x=>Ex.I6 t x
 | .D9 _ ts,x=>HQ ts x
 | .own t,x=>Ex.I6 t x
 | .rw t,x=>Ex.I6 t x
 | .mu t,x=>Ex.I6 (.d0 true t) x
 | .X4,_=>True
 | .rcs _ _,_=>True
 | .el _,_=>True
where HQ:(ts:List Ty)->DL ts->Prop
 | [],_=>True
 | t::ts,x=>Ex.I6 t x.1/\HQ ts x.2
def Ia:(ks:List PK)->DK ks->Prop
 | [],_=>True
 | k::ks,x=>k.I6 x.1/\Ia ks x.2
section
variable {E:Env} {B:F5} {S S':Nat->Prop} {ι:Ix} {s:St} {a:Act} {w:World} {hp:List (Nat×g9)} {H H':Array Go.Obj}
theorem j5.I6 {t:Ty} (hr:∀ {O:List Nat} {cs:List Value} {x:t.den},i6 H S t O cs x->Ex.I6 t x):∀ {l:List t.den} {O:List Nat} {cs:List Value},j5 (i6 H S t) t.size O cs l->Ar (Ex.I6 t) l
 | [],_,_,_=>by intro x hx; cases hx
 | x::l,_,_,⟨O1,O2,_,h1,h2⟩=>by
  intro y hy;rcases aAq.1 hy with rfl|hy
  ·exact hr h1
  ·exact j5.I6 hr h2 y hy
theorem vE.I6 {t u:Ty} (hr:∀ {cs:List Value} {x:t.den},i6 H S t [] cs x->Ex.I6 t x) (la:∀ {cs:List Value} {x:u.den},i6 H S u [] cs x->Ex.I6 u x):∀ {es:List MapEntry} {l:List (t.den×u.den)},vE (i6 H S t []) (i6 H S u []) t u es l->Ar (λ p=>Ex.I6 t p.1/\Ex.I6 u p.2) l
 | [],l,h=>by rw [show l=[] from h]; intro x hx; cases hx
 | e::es,l,⟨x,y,l',cs,ds,e1,_,h1,_,h2,h3⟩=>by
  rw [e1]; intro p hp;rcases aAq.1 hp with rfl|hp
  ·exact ⟨hr h1,la h2⟩
  ·exact vE.I6 hr la h3 p hp
theorem i6.I6:∀ {t:Ty} {O:List Nat} {cs:List Value} {x:t.den},i6 H S t O cs x->Ex.I6 t x:=by
 intro t
 induction t with
 | int k=>intro O cs x h; exact h.2.2
 | bool=>intro O cs x h; trivial
 | str=>intro O cs x h; exact h.2.2
 | fn f=>intro O cs x _; exact trivial
 | hole t _=>intro O cs x _; exact trivial
 | D4 t ih =>
  rintro O cs ⟨n,l,m⟩ h
  match n,h with
  | 0,h =>
   rcases h with ⟨_,_,h3⟩|⟨b,off,cap,O',c1,c2,c3,c4,c5,c6⟩
   ·subst h3; exact ⟨aAr _,by intro x hx; cases hx⟩
   ·exact ⟨aAx c2 c3.1,j5.I6 (λ h=>ih h) c5⟩
  | 1,h =>
   rcases h with ⟨_,_,h3⟩|⟨b,off,cap,O',c1,c2,c3,c4,c5,c6⟩
   ·subst h3; exact ⟨aAr _,by intro x hx; cases hx⟩
   ·exact ⟨aAx c2 c3.1,j5.I6 (λ h=>ih h) c5⟩
  | n+2,⟨b,off,O',c1,c2,c3,c4,c5⟩ =>
   have hr:=j5.I6 (λ h=>ih h) c4;exact ⟨by have:=c2.1; show List.length l<=maxLen; omega,λ x hx=>hr x (aAi.2 (.inl hx))⟩
 | map o k v ihk ihv =>
  rintro O cs x (⟨rfl,_⟩|⟨l,b,es,ck,rfl,_,_,h4,_⟩)
  ·trivial
  ·exact vE.I6 (λ h=>ihk h) (λ h=>ihv h) h4
 | box o g t ih =>
  rintro O cs x (⟨rfl,_⟩|⟨y,b,off,O',rfl,_,_,h3,_⟩)
  ·trivial
  ·exact ih h3
 | unit=>intro O cs x h; trivial
 | pair a c iha ihc=>rintro O cs x ⟨O1,O2,_,h1,h2⟩; exact ⟨iha h1,ihc h2⟩
 | arr n t ih=>rintro O cs x ⟨h1,h2⟩; exact ⟨h1,j5.I6 (λ h=>ih h) h2⟩
 | d0 o t ih =>
  rintro O cs x h;rcases h with ⟨_,_,h3⟩|⟨b,off,cap,O',c1,c2,c3,c4,c5,c6⟩
  ·subst h3; exact ⟨aAr _,by intro x hx; cases hx⟩
  ·exact ⟨aAx c2 c3.1,j5.I6 (λ h=>ih h) c5⟩
theorem VX.I6 {v:AV} {vs:List Value} (h:VX H S ι hp v vs):v.I6:=by
 cases v<;>try trivial
 ·obtain ⟨cs,_,h⟩:=h; exact h.I6
 ·obtain ⟨b,off,_,_,_,h⟩:=h; exact h.I6
theorem RS.I6 (h:RS B S ι s a w) (h1:uniq s.fr) (h2:uniq s.hp):s.I6:=by
 have look_tail:∀ {α:Type} {n m:Nat} {x:α} {l:List (Nat×α)} {y:α},look m l=none->look n l=some y->look n ((m,x)::l)=some y:=by
  intro α n m x l y h1 h2;simp only [look];cases hb:Nat.beq n m with
  | true =>
   have:=aAe hb;subst this;rw [h1] at h2; cases h2
  | false=>exact h2
 have fr:∀ l:List (Nat×AV),uniq l->(∀ t v,look t l=some v->v.I6)->HX l:=by
  intro l
  induction l with
  | nil=>intro _ _; trivial
  | cons q l ih =>
   obtain ⟨n,v⟩:=q;rintro ⟨k0,k2⟩ k3;have k1:=Gc k0;exact ⟨k3 n v (by simp [look]),ih k2 (λ t v hv=>k3 t v (look_tail k1 hv))⟩
 have pE:∀ l:List (Nat×g9),uniq l->(∀ t e,look t l=some e->Ex.I6 e.ty e.x)->BL l:=by
  intro l
  induction l with
  | nil=>intro _ _; trivial
  | cons q l ih =>
   obtain ⟨n,e⟩:=q;rintro ⟨k0,k2⟩ k3;have k1:=Gc k0;have h0:=k3 n e (by simp [look]);have h3:=ih k2 (λ t e he=>k3 t e (look_tail k1 he));cases e<;>first|exact ⟨h0,h3⟩|exact h3
 refine ⟨fr _ h1 (λ t v hv=>(h.fr t v hv).I6),pE _ h2 (λ i e he=>?_)⟩;have:=h.hs.ob i e he;cases e with
 | var t x=>obtain ⟨⟨O,_,hR⟩,_⟩:=this; exact hR.I6
 | own t x=>obtain ⟨⟨O,_,hR⟩,_⟩:=this; exact hR.I6
 | N0=>trivial
def F5.of (w:World) (S:Nat->Prop) (ps:List PK) (vs:List Value) (L:List Nat) (n:Nat) (gv:Value:=undef):F5:=⟨w,S,λ b=>b∈L,n,O6 ps vs 0,gv⟩
def GOk (gp:Option (List Step)) (gv:Value) (H:Array Go.Obj):(ps:List PK)->List Value->DL (F9 ps)->Prop
 | .rw t::_,vs,z=>(match gp,vs with
  | some p,.pointer (some ⟨b,off,none⟩)::_=>C1 t z.1 p/\∃ b' ar,C6 H t p b off=some (b',ar)/\gv=.pointer (some ⟨b',ar,none⟩)
  | _,_=>True)
 | _,_,_=>True
def VI (P:Program) (w0:World) (S0:Nat->Prop) (L:List Nat):Prop:=vI P w0 S0/\∀ b,S0 b->b<w0.heap.size/\¬ b∈L
def Reach (E:Env) (fn:Func) (y:DL E.rs) (z:DL (F9 E.ps)) (k:List Item) (s:St):Prop :=
 ∀ (w0:World) (S0:Nat->Prop) (vs:List Value) (x:DK E.ps) (L:List Nat) (gv:Value) (S:Nat->Prop) (ι:Ix) (a:Act) (w:World),VI E.P w0 S0 L->W2 w0.heap S0 E.ps vs x L ->
  RS (F5.of w0 S0 E.ps vs L fn.ntmps gv) S ι s a w->At E.P fn (λ e w'=>yf w0 S0 E.rs E.ps vs L y z e w'/\GOk E.gp gv w'.heap E.ps vs z) k a w
structure D7 (E:Env) (fn:Func):Prop where
 nt:fn.ntmps=E.nt
 res:fn.results.toList=E.res
theorem Ox:∀ {a b:List Ty} {x x':DL a} {y y':DL b},DL.app x y=DL.app x' y'->x=x'/\y=y'
 | [],_,_,_,_,_,h=>⟨rfl,h⟩
 | _::_,_,x,x',_,_,h=>by
  have h1:=congrArg Prod.fst h;have h2:=congrArg Prod.snd h;obtain ⟨h3,h4⟩:=Ox h2;exact ⟨Prod.ext h1 h3,h4⟩
theorem UF {fn:Func} {w0:World} {S0:Nat->Prop} {vs:List Value} {x:DK E.ps} {L:List Nat} {gv:Value} (hE:E2 E (F5.of w0 S0 E.ps vs L fn.ntmps gv)) (hf:D7 E fn) {y:DL E.rs} {z:DL (F9 E.ps)} {L':Code->List Item->St->Prop} (ht:(finish E s).holds L' (·=DL.app y z)) (hK:W2 w0.heap S0 E.ps vs x L)
  (h:RS (F5.of w0 S0 E.ps vs L fn.ntmps gv) S ι s a w) (hG:vO s E.ps 0=some z->GOk E.gp gv w.heap E.ps vs z) (e:Exit) (he:e=.normal\/e=.ret) :
  bodyPost E.P fn (λ e w'=>yf w0 S0 E.rs E.ps vs L y z e w'/\GOk E.gp gv w'.heap E.ps vs z) e a w:=by
 unfold finish at ht;split at ht
 ·exact ht.elim
 ·rename_i l hl
  split at ht
  ·rename_i y' z' hy hz
   have ht:DL.app y' z'=DL.app y z:=ht;obtain ⟨rfl,rfl⟩:=Ox ht;obtain ⟨us,h1,h2⟩:=b8M hE h hf.res hl;obtain ⟨O,k1,k2,k3⟩:=TJ h.hs hy h2;obtain ⟨Lo,m1,m2,m3⟩:=Gn h.hs hK (λ q hq=>hq) hz;have hR:yf w0 S0 E.rs E.ps vs L y' z' (.returned (xl us)) w:=by
    refine ⟨us,O,Lo,S,rfl,⟨h.hs.os,h.hs.tape,h.hs.out,h.hs.size,λ c hc hL=>h.hs.frame c hc hL⟩,h.hs.s0,λ b hb=>?_,k1,m1,aAg.2 ⟨k2,m2,?_⟩,λ b hb=>?_⟩
    ·rcases h.hs.s1 b hb with h1|h1
     ·exact .inl h1
     ·exact .inr ⟨h1,h.hs.slt b hb⟩
    ·rintro c hc d hd rfl
     obtain ⟨i,e,i0,ip,i1,i2⟩:=k3 c hc;obtain ⟨j,e',j0,j1,j2⟩:=m3 c hd;refine h.hs.dj i j e e' i1 j1 ?_ c i2 j2;rintro rfl;have:pinned i=true:=by simp only [pinned,aFv]; omega
     rw [ip] at this; cases this
    ·have:∃ i e,look i s.hp=some e/\b∈l8 ι i e:=by
      rcases aAi.1 hb with hb|hb
      ·obtain ⟨i,e,_,_,n2,n3⟩:=k3 b hb; exact ⟨i,e,n2,n3⟩
      ·obtain ⟨i,e,_,n2,n3⟩:=m3 b hb; exact ⟨i,e,n2,n3⟩
     obtain ⟨i,e,n2,n3⟩:=this;exact h.hs.bl i e n2 b n3
   rcases he with rfl|rfl
   ·exact ⟨h.dfr,_,h1,hR,hG hz⟩
   ·exact ⟨h.dfr,_,h1,hR,hG hz⟩
  ·exact ht.elim
theorem Yn {gv:Value} {H:Array Go.Obj}:∀ {ps:List PK} {vs:List Value} {z:DL (F9 ps)},GOk none gv H ps vs z
 | [],_,_=>trivial
 | k::_,_,_=>by cases k<;>trivial
theorem gok {H0:Array Go.Obj} {S0:Nat->Prop} {gv:Value} {p:List Step}:∀ {ps:List PK} {vs:List Value} {x:DK ps} {L:List Nat} {z:DL (F9 ps)},W2 H0 S0 ps vs x L->vO s ps 0=some z->(∀ q∈O6 ps vs 0,ι.root q.1=q.2.1)->VX H S ι s.hp (.ptr 2000000 p) [gv]->GOk (some p) gv H ps vs z
 | [],_,_,_,_,_,_,_,_=>trivial
 | k::ps,vs,x,L,z,⟨v,us,L1,L2,e1,_,hk,_⟩,hz,hp,hv=>by
  cases k with
  | rw t =>
   obtain ⟨b,off,O,rfl,_,_,_⟩:=hk;subst e1;have hr:ι.root 2000000=(b,off):=hp (2000000,(b,off),[]) (by simp [O6]);obtain ⟨e,b',ar,k1,k2,k3,k4⟩:=hv;unfold vO at hz;split at hz
   ·rename_i u x0 y0 ho hy
    have ho:look 2000000 s.hp=some (.var u x0):=ho;rw [k1] at ho; cases ho;split at hz
    ·rename_i hu
     subst hu;cases hz;obtain ⟨p1,_⟩:=E0 k3;have p1:C6 H u p (ι.root 2000000).1 (ι.root 2000000).2=some (b',ar):=p1;rw [hr] at p1;exact ⟨k2,b',ar,p1,by simpa using k4⟩
    ·cases hz
   ·cases hz
  | _=>trivial
theorem Vd {fn:Func} {w0:World} {S0:Nat->Prop} {vs:List Value} {x:DK E.ps} {L:List Nat} {gv:Value} (hE:E2 E (F5.of w0 S0 E.ps vs L fn.ntmps gv)) (hf:D7 E fn) {y:DL E.rs} {z:DL (F9 E.ps)} {L':Code->List Item->St->Prop} (ht:(Jm E s).holds L' (·=DL.app y z)) (hK:W2 w0.heap S0 E.ps vs x L)
  (h:RS (F5.of w0 S0 E.ps vs L fn.ntmps gv) S ι s a w) (e:Exit) (he:e=.normal\/e=.ret) :
  bodyPost E.P fn (λ e w'=>yf w0 S0 E.rs E.ps vs L y z e w'/\GOk E.gp gv w'.heap E.ps vs z) e a w:=by
 unfold Jm at ht;split at ht
 ·rename_i cC
  exact UF hE hf ht hK h (λ _=>by rw [cC]; exact Yn) e he
 ·rename_i p cC
  split at ht
  ·rename_i i q hl
   obtain ⟨⟨rfl,rfl,gA⟩,ht⟩:=ht;have ht:=ht ⟨rfl,rfl,gA⟩;refine UF hE hf ht hK h (λ hz=>?_) e he;rw [cC];refine gok (S:=S) (ι:=ι) hK hz (λ q hq=>(h.hs.pin q hq).2.2.1) ?_;have hv:=h.fr K3 _ hl;have aW:¬ K3<a.tmps.size:=by rw [h.sz]; show ¬ K3<fn.ntmps; rw [hf.nt]; omega
   have:a.tmps.getD K3 (F5.gd (F5.of w0 S0 E.ps vs L fn.ntmps gv) K3)=gv:=by
    rw [aCm,aCj (by omega)];rfl
   rw [this] at hv;exact hv
  ·exact ht.elim
theorem j7 {rs:List Ty} {L:Code->List Item->St->Prop} {R:DL rs->Prop} {b:Bool} {t e:Tree rs}:(cond b t e).holds L R↔(b=true->t.holds L R)/\(b=false->e.holds L R):=by
 cases b<;>simp
theorem zt:∀ {ks:List PK} {H:Array Go.Obj} {S:Nat->Prop} {vs:List Value} {x:DK ks} {L:List Nat},ks.any PK.l6=false->W2 H S ks vs x L->L=[]
 | [],_,_,_,_,_,_,h=>h.2
 | k::ks,_,_,_,_,_,hp,⟨v,us,L1,L2,_,e,h1,h2⟩=>by
  rw [aFn,aBx] at hp;have e2:=zt hp.2 h2;have e1:L1=[]:=by
   cases k<;>first|(exfalso; simp [PK.l6] at hp; done)|exact h1.1|exact h1
  rw [e,e1,e2]; rfl
theorem j6 (hE:B8 E) {fn:Func} (hf:D7 E fn) {y:DL E.rs} {z:DL (F9 E.ps)}:∀ {n:Nat} {k:List Item} {s:St},(exec E n k s).holds (λ c k s=>Reach E fn y z (.code c::.inLoop c::k) s) (·=DL.app y z)->Reach E fn y z k s
 | 0,k,s,ht=>ht.elim
 | n+1,k,s,ht=>by
  intro w0 S0 vs x L gv S ι a w eW hK h;have hB:E2 E (F5.of w0 S0 E.ps vs L fn.ntmps gv):=⟨hE,eW⟩;unfold exec at ht;split at ht
  ·obtain ⟨S2,ι2,h2⟩:=Z6 (E:=E) (l:=CH E.res E.rs) (λ hp b hb=>by have hb:b∈L:=hb; rw [zt hp hK] at hb; cases hb) h
   exact At.done (Vd hB hf ht hK h2 _ (.inl rfl))
  ·refine At.step (λ b cs=>step_inBlock) ?_
   exact j6 hE hf ht w0 S0 vs x L gv S ι a w eW hK h
  ·rename_i c k'
   refine At.step (λ b cs=>step_inLoop) ?_;obtain ⟨S2,ι2,h2⟩:=Z6 (E:=E) (l:=(look (S7 c) E.D5).getD []) (λ hp b hb=>by have hb:b∈L:=hb; rw [zt hp hK] at hb; cases hb) h;obtain ⟨ι',h'⟩:=h2.canon ((look (S7 c) E.D5).getD []);exact ht w0 S0 vs x L gv S2 ι' a w eW hK h'
  ·rename_i c k'
   split at ht
   ·exact At.step (λ b cs=>step_skip) (j6 hE hf ht w0 S0 vs x L gv S ι a w eW hK h)
   ·exact At.step (λ b cs=>step_seq) (j6 hE hf ht w0 S0 vs x L gv S ι a w eW hK h)
   ·rename_i xc c1 c2
    split at ht
    ·rename_i g hg
     have cU:=VX.a24 (D8 h hg);refine At.step (λ b cs=>step_cond cU) ?_;cases g with
     | true=>exact j6 hE hf ht w0 S0 vs x L gv S ι a w eW hK h
     | false=>exact j6 hE hf ht w0 S0 vs x L gv S ι a w eW hK h
    ·exact ht.elim
   ·exact At.step (λ b cs=>step_block) (j6 hE hf ht w0 S0 vs x L gv S ι a w eW hK h)
   ·rename_i c'
    obtain ⟨S2,ι2,h2⟩:=Z6 (E:=E) (l:=(look (S7 c') E.D5).getD []) (λ hp b hb=>by have hb:b∈L:=hb; rw [zt hp hK] at hb; cases hb) h;obtain ⟨ι',h'⟩:=h2.canon ((look (S7 c') E.D5).getD []);exact At.step (λ b cs=>step_loop) (ht w0 S0 vs x L gv S2 ι' a w eW hK h')
   ·split at ht
    ·rename_i k2 hx
     exact At.step (λ b cs=>step_exit hx) (j6 hE hf ht w0 S0 vs x L gv S ι a w eW hK h)
    ·exact ht.elim
   ·obtain ⟨S2,ι2,h2⟩:=Z6 (E:=E) (l:=CH E.res E.rs) (λ hp b hb=>by have hb:b∈L:=hb; rw [zt hp hK] at hb; cases hb) h
    exact At.ret (Vd hB hf ht hK h2 _ (.inr rfl))
   ·rename_i id ops draw
    split at ht
    ·obtain ⟨S,ι,h⟩:=TG (E:=E) (λ hp b hb=>by have hb:b∈L:=hb; rw [zt hp hK] at hb; cases hb) h ops
     refine At.region (wp_region_list ?_);exact X8 hB (by exact hf.nt) (λ hp b hb=>by have hb:b∈L:=hb; rw [zt hp hK] at hb; cases hb) (m:=0) (l:=ops.toList) (Q:=λ e a w=>e=.normal/\At E.P fn (λ e w'=>yf w0 S0 E.rs E.ps vs L y z e w'/\GOk E.gp gv w'.heap E.ps vs z) k' a w) (λ S' ι' s' a' w' h1 h2=>⟨rfl,j6 hE hf h2 w0 S0 vs x L gv S' ι' a' w' eW hK h1⟩) h ht
    ·skip
     obtain ⟨S,ι,h⟩:=c1e (E:=E) (λ hp b hb=>by have hb:b∈L:=hb; rw [zt hp hK] at hb; cases hb) h ops;generalize As E ops s=s at h ht;split at ht
     ·rename_i hd
      rcases RW (bJ:=[]) rfl (by simp) ht with ⟨s',h1,h2⟩|⟨q,s',_,hA,h1,h2⟩
      ·exact At.region (b6P hB (by exact hf.nt) hd h1 (λ S' ι' a' w' h3=>⟨rfl,j6 hE hf h2 w0 S0 vs x L gv S' ι' a' w' eW hK h3⟩) h.M5)
      ·have du:look q.d (M5 ops.toList s).fr=some .any:=by
        obtain ⟨oa,c,a1,_,a3,_,a5,a6,_⟩:=hA;exact Gi a5 a6 a3 (by have:=Array.mem_of_getElem? a1; simpa using this)
       exact At.region (c1M hB (by exact hf.nt) hd hA h1 h2 du (λ S' ι' s2 a' w' h3 h4=>⟨rfl,j6 hE hf h4 w0 S0 vs x L gv S' ι' a' w' eW hK h3⟩) h.M5)
     ·split at ht
      ·rename_i hd
       obtain ⟨s',h1,h2⟩:=RX (bJ:=[]) rfl (by simp) ht;exact At.region (b5x hB (by exact hf.nt) hd h1 (λ S' ι' a' w' h3=>⟨rfl,j6 hE hf h2 w0 S0 vs x L gv S' ι' a' w' eW hK h3⟩) h.M5)
      ·exact ht.elim
   ·exact ht.elim
  ·exact ht.elim
theorem Tree.holds.mono {rs:List Ty} {L L':Code->List Item->St->Prop} {R:DL rs->Prop}:∀ {t:Tree rs},t.holds L R->(∀ c k s,L c k s->L' c k s)->t.holds L' R
 | .f8 _ _,h,hl=>⟨h.1,λ hp=>(h.2 hp).mono hl⟩
 | .both _ _ _,h,hl=>⟨λ hp=>(h.1 hp).mono hl,h.2.mono hl⟩
 | .cut c k s,h,hl=>hl c k s h
 | .ret _,h,_=>h
 | .stuck _,h,_=>h
theorem Reach.loop (hE:B8 E) {fn:Func} (hf:D7 E fn) {y:DL E.rs} {z:DL (F9 E.ps)} {c:Code} {k:List Item} {α:Type} (mk:α->St) (I:α->Prop) (μ:α->Nat) (n:Nat) (hu:∀ x,uniq (mk x).fr/\uniq (mk x).hp)
  (h:∀ x,I x->(mk x).I6->(exec E n (.code c::.inLoop c::k) (mk x)).holds (λ c' k' s'=>(c'=c/\k'=k/\∃ x',s'=mk x'/\I x'/\μ x'<μ x)\/Reach E fn y z (.code c'::.inLoop c'::k') s') (·=DL.app y z)) :
  ∀ x,I x->Reach E fn y z (.code c::.inLoop c::k) (mk x):=by
 have key:∀ m x,μ x=m->I x->Reach E fn y z (.code c::.inLoop c::k) (mk x):=by
  intro m
  induction m using Nat.strongRecOn with
  | _ m ih =>
   intro x hm hI w0 S0 vs x0 L gv S ι a w eW hK cv;have hx:=h x hI (cv.I6 (hu x).1 (hu x).2);refine j6 hE hf (hx.mono ?_) w0 S0 vs x0 L gv S ι a w eW hK cv;rintro c' k' s' (⟨rfl,rfl,x',rfl,h1,h2⟩|h1)
   ·exact ih (μ x') (hm▸h2) x' rfl h1
   ·exact h1
 exact λ x hI=>key (μ x) x rfl hI
end
end Go.Ex
namespace Go.Ex
section
variable {E:Env} {B:F5} {S S':Nat->Prop} {ι:Ix} {s:St} {a:Act} {w:World} {hp:List (Nat×g9)} {H H':Array Go.Obj}
theorem VX.has {v:AV} {i:Nat}:∀ {vs:List Value},VX H S ι hp v vs->v.i8 i=true->∃ e,look i hp=some e:=by
 induction v with
 | cons a b iha ihb =>
  rintro vs ⟨v,us,_,ha,hb⟩ hm;simp only [AV.i8,aBr] at hm;exact hm.elim (iha ha) (ihb hb)
 | M9 l ih=>rintro vs ⟨us,_,h⟩ hm; exact ih h hm
 | D9 f l ih=>rintro vs ⟨us,_,h⟩ hm; exact ih h hm
 | bx l ih=>rintro vs ⟨_,_,u,_,_,_,_,h⟩ hm; exact ih h hm
 | rc f l ih=>rintro vs ⟨_,_,u,_,_,_,_,h⟩ hm; exact ih h hm
 | ptr j p=>rintro vs ⟨e,_,_,h1,_⟩ hm; have:=aAe hm; subst this; exact ⟨e,h1⟩
 | at_ j p=>rintro vs ⟨e,_,_,_,h1,_⟩ hm; have:=aAe hm; subst this; exact ⟨e,h1⟩
 | sub j p a b=>rintro vs ⟨e,_,h1,_⟩ hm; have:=aAe hm; subst this; exact ⟨e,h1⟩
 | _=>intro vs _ hm; cases hm
structure Ih (B:F5) (S:Nat->Prop) (w:World) (ks:List PK) (vs:List Value) (x:DK ks) (L:List Nat) (i:Nat) (ι:Ix):Prop where
 hs:HS B S ι (G8 ks x i) w
 fr:∀ t v,look t (X6 ks x i)=some v->i<=t/\∃ val,vs[t - i]?=some val/\VX w.heap S ι (G8 ks x i) v [val]
 pins:∀ q∈O6 ks vs i,pinned q.1=true/\(∃ e,look q.1 (G8 ks x i)=some e)/\ι.root q.1=q.2.1/\ι.cells q.1=q.2.2
 keys:∀ k e,look k (G8 ks x i)=some e->∃ m,i<=m/\m<1000/\(k=1500000+m\/k=2000000+m)
 own:∀ k e,look k (G8 ks x i)=some e->∀ b∈l8 ι k e,b∈L
 rest:∀ k,look k (G8 ks x i)=none->ι.root k=(0,0)/\ι.cells k=[]
theorem NT (hB:B.pins=[]) (hw:B.w0=w) (eW:B.S0=S) (hS:∀ b,S b->b<w.heap.size):∀ {ks:List PK} {vs:List Value} {x:DK ks} {L:List Nat} {i:Nat},W2 w.heap S ks vs x L->L.Nodup->(∀ b∈L,¬ S b/\B.M b/\b<w.heap.size)->i+ks.length<=1000->∃ ι,Ih B S w ks vs x L i ι
 | [],vs,x,L,i,hK,_,_,_=>by
  refine ⟨⟨λ _=>(0,0),λ _=>[],λ _=>[]⟩,⟨?_,?_,?_,?_,?_,λ k _=>⟨rfl,rfl⟩⟩⟩
  ·subst hw
   subst eW;refine ⟨rfl,.refl _,rfl,aAk _,λ _ _ _=>rfl,hS,λ _ h=>h,λ b hb=>.inl hb,?_,?_,?_,?_⟩
   ·intro i e hi; cases hi
   ·intro i e hi; cases hi
   ·intro i j ei ej hi; cases hi
   ·intro q hq; rw [hB] at hq; cases hq
  ·intro t v h; cases h
  ·intro q hq; simp [O6] at hq
  ·intro k e h; cases h
  ·intro k e h; cases h
 | k::ks,vs,x,L,i,⟨v,us,L1,L2,e1,e2,hk,hK⟩,hn,hL,hi=>by
  subst e1 e2;have mj:=aAg.1 hn;obtain ⟨ι,hb⟩:=NT (i:=i+1) hB hw eW hS hK mj.2.1 (λ b hb=>hL b (by simp [hb])) (by simp only [aAh] at hi; omega);simp only [aAh] at hi;have plain:∀ {v0:AV},X6 (k::ks) x i=(i,v0)::X6 ks x.2 (i+1)->G8 (k::ks) x i=G8 ks x.2 (i+1)->O6 (k::ks) (v::us) i=O6 ks us (i+1)->VX w.heap S ι (G8 ks x.2 (i+1)) v0 [v]->∃ ι,Ih B S w (k::ks) (v::us) x (L1++L2) i ι:=by
   intro v0 h1 h2 h3 h4;refine ⟨ι,by rw [h2]; exact hb.hs,?_,by rw [h3,h2]; exact hb.pins,?_,?_,by rw [h2]; exact hb.rest⟩
   ·intro t u hu
    rw [h1] at hu;simp only [look] at hu;rw [h2];cases lO:Nat.beq t i with
    | true =>
     rw [lO] at hu;have:=aAe lO;subst this;cases hu;exact ⟨aAk _,v,by simp,h4⟩
    | false =>
     rw [lO] at hu;obtain ⟨k1,val,k2,k3⟩:=hb.fr t u hu;refine ⟨by omega,val,?_,k3⟩;rw [show t - i=(t - (i+1))+1 from by omega];simpa using k2
   ·intro q e hq
    rw [h2] at hq;obtain ⟨m,m1,m2,m3⟩:=hb.keys q e hq;exact ⟨m,by omega,m2,m3⟩
   ·intro q e hq b eB
    rw [h2] at hq;exact aBs _ (hb.own q e hq b eB)
  have obj:∀ {v0:AV} {d:Nat} {e:g9} {ι':Ix},X6 (k::ks) x i=(i,v0)::X6 ks x.2 (i+1)->G8 (k::ks) x i=Ex.put d e (G8 ks x.2 (i+1))->(d=1500000+i\/d=2000000+i) ->
    (∀ q∈O6 (k::ks) (v::us) i,q∈O6 ks us (i+1)\/(pinned q.1=true/\q.1=d/\ι'.root d=q.2.1/\ι'.cells d=q.2.2))->(∀ j,j≠d->G1 ι ι' j)->OB w.heap S ι' d e->(∀ b∈l8 ι' d e,b∈L1) ->
    VX w.heap S ι' (Ex.put d e (G8 ks x.2 (i+1))) v0 [v]->∃ ι,Ih B S w (k::ks) (v::us) x (L1++L2) i ι:=by
   intro v0 d e ι' h1 h2 hd h3 hs aT bQ h4;have eQ:look d (G8 ks x.2 (i+1))=none:=by
    cases dn:look d (G8 ks x.2 (i+1)) with
    | none=>rfl
    | some e'=>exfalso; obtain ⟨m,m1,m2,m3⟩:=hb.keys d e' dn; omega
   have hF:H2 B S ι (G8 ks x.2 (i+1)) w L1:=by
    refine ⟨mj.1,λ b eB=>?_⟩;obtain ⟨l1,l2,l3⟩:=hL b (by simp [eB]);exact ⟨l1,.inr l2,l3,λ j ej hj jy=>mj.2.2 b eB b (hb.own j ej hj b jy) rfl⟩
   have gB:∀ {u:AV} {us':List Value},VX w.heap S ι (G8 ks x.2 (i+1)) u us'->u.i8 d=false:=by
    intro u us' hu;cases hm:u.i8 d with
    | false=>rfl
    | true=>obtain ⟨e',eH⟩:=hu.has hm; rw [eQ] at eH; cases eH
   refine ⟨ι',by rw [h2]; exact hb.hs.add eQ hs aT bQ hF,?_,?_,?_,?_,?_⟩
   ·intro t u hu
    rw [h1] at hu;simp only [look] at hu;rw [h2];cases lO:Nat.beq t i with
    | true =>
     rw [lO] at hu;have:=aAe lO;subst this;cases hu;exact ⟨aAk _,v,by simp,h4⟩
    | false =>
     rw [lO] at hu;obtain ⟨k1,val,k2,k3⟩:=hb.fr t u hu;refine ⟨by omega,val,?_,VX.add hs (gB k3) k3⟩;rw [show t - i=(t - (i+1))+1 from by omega];simpa using k2
   ·intro q hq
    rw [h2];rcases h3 q hq with hq|⟨q1,q2,q3,q4⟩
    ·obtain ⟨r1,⟨e',r2⟩,r3,r4⟩:=hb.pins q hq
     have br:q.1≠d:=by intro kq; rw [kq,eQ] at r2; cases r2
     obtain ⟨s1,s2,s3⟩:=hs q.1 br;exact ⟨r1,⟨e',by rw [p9,if_neg br]; exact r2⟩,s1.trans r3,s2.trans r4⟩
    ·exact ⟨q1,⟨e,by rw [p9,if_pos q2]⟩,by rw [q2]; exact q3,by rw [q2]; exact q4⟩
   ·intro q e' hq
    rw [h2,p9] at hq;split at hq
    ·rename_i kq; exact ⟨i,aAk _,by omega,by omega⟩
    ·obtain ⟨m,m1,m2,m3⟩:=hb.keys q e' hq
     exact ⟨m,by omega,m2,m3⟩
   ·intro q e' hq b eB
    rw [h2,p9] at hq;split at hq
    ·rename_i kq; subst kq; cases hq; exact aBf _ (bQ b eB)
    ·rename_i kq
     rw [(hs q kq).l8] at eB;exact aBs _ (hb.own q e' hq b eB)
   ·intro q hq
    rw [h2,p9] at hq;split at hq
    ·cases hq
    ·rename_i kq
     obtain ⟨s1,s2,s3⟩:=hs q kq;obtain ⟨r1,r2⟩:=hb.rest q hq;exact ⟨s1.trans r1,s2.trans r2⟩
  have ko:∀ d,d=1500000+i\/d=2000000+i->ι.root d=(0,0)/\ι.cells d=[]:=by
   intro d hd;refine hb.rest d ?_;cases dn:look d (G8 ks x.2 (i+1)) with
   | none=>rfl
   | some e'=>exfalso; obtain ⟨m,m1,m2,m3⟩:=hb.keys d e' dn; omega
  cases k with
  | v t=>obtain ⟨_,cs,e1,hR⟩:=hk; exact plain rfl rfl rfl ⟨cs,by rw [e1],hR⟩
  | X4=>exact plain rfl rfl rfl (by rw [hk.2]; rfl)
  | rcs f n=>exact plain rfl rfl rfl ⟨_,rfl⟩
  | el q=>exact plain rfl rfl rfl ⟨_,rfl⟩
  | rd t=>obtain ⟨_,b,off,e1,k1,k2,k3⟩:=hk; exact plain rfl rfl rfl ⟨b,off,by rw [e1],k1,k2,k3⟩
  | D9 f ts =>
   obtain ⟨_,ws,e1,hl⟩:=hk;refine plain rfl rfl rfl ⟨ws,by rw [e1],?_⟩;have:∀ {ts:List Ty} {ws:List Value} {y:DL ts},RdL w.heap S ts ws y->VX w.heap S ι (G8 ks x.2 (i+1)) (X6.rdA ts y) ws:=by
    intro ts
    induction ts with
    | nil=>intro ws y h; exact h
    | cons t ts ih =>
     rintro ws y ⟨v,us,e,⟨b,off,e1,k1,k2,k3⟩,hl⟩;exact ⟨v,us,e,⟨b,off,by rw [e1],k1,k2,k3⟩,ih hl⟩
   exact this hl
  | own t =>
   obtain ⟨cs,rfl,hR⟩:=hk;refine obj (d:=1500000+i) (e:=.own t x.1) (ι':=ι.W6 (1500000+i) cs L1) rfl rfl (.inl rfl) (λ q hq=>.inl hq) (λ j hj=>Gv hj _ _) ⟨⟨L1,by simp [Ix.W6],by simpa [Ix.W6] using hR⟩,by simpa [Ix.W6] using mj.1⟩ ?_ (AH hR.length);intro b hb; simpa [l8,Ix.W6] using hb
  | rw t =>
   obtain ⟨b,off,O,rfl,hR,hf,rfl⟩:=hk;refine obj (d:=2000000+i) (e:=.var t x.1) (ι':=ι.V8 (2000000+i) (b,off) O) rfl rfl (.inr rfl) ?_ (λ j hj=>My hj _ _) ⟨⟨O,by simp [Ix.V8],by simpa [Ix.V8] using hR⟩,by simpa [Ix.V8] using hf,by simpa [Ix.V8] using mj.1⟩ ?_
    (JM (s:=⟨[],G8 ks x.2 (i+1)⟩) (r:=(b,off)) (o:=O) hf.lt)
   ·intro q hq
    simp only [O6,aAq] at hq;rcases hq with rfl|hq
    ·exact .inr ⟨by simp only [pinned,aFv]; omega,rfl,by simp [Ix.V8],by simpa [Ix.V8] using (ko (2000000+i) (.inr rfl)).2⟩
    ·exact .inl hq
   ·intro c hc; simpa [l8,Ix.V8] using hc
  | mu t =>
   obtain ⟨cs,rfl,hR⟩:=hk;have cG:cs=[s5 (.d0 true t) cs]:=by
    have:=hR.length
    match cs,this with
    | [c],_=>rfl
   refine obj (d:=2000000+i) (e:=.own (.d0 true t) x.1) (ι':=ι.W6 (2000000+i) cs L1) rfl rfl (.inr rfl) ?_ (λ j hj=>Gv hj _ _) ⟨⟨L1,by simp [Ix.W6],by simpa [Ix.W6] using hR⟩,by simpa [Ix.W6] using mj.1⟩ ?_ (AH hR.length)
   ·intro q hq
    simp only [O6,aAq] at hq;rcases hq with rfl|hq
    ·exact .inr ⟨by simp only [pinned,aFv]; omega,rfl,by simpa [Ix.W6] using (ko (2000000+i) (.inr rfl)).1,by simpa [Ix.W6] using cG⟩
    ·exact .inl hq
   ·intro b hb; simpa [l8,Ix.W6] using hb
theorem NK:∀ {ks:List PK} {vs:List Value} {x:DK ks} {L:List Nat},W2 H S ks vs x L->Ia ks x
 | [],_,_,_,_=>trivial
 | k::ks,vs,x,L,⟨v1,us,L1,L2,e,_,h1,h2⟩=>by
  refine ⟨?_,NK h2⟩;cases k with
  | v t=>obtain ⟨_,cs,e1,hR⟩:=h1; exact hR.I6
  | rd t=>obtain ⟨_,b,off,e1,k1,k2,k3⟩:=h1; exact k3.I6
  | own t=>obtain ⟨cs,e1,hR⟩:=h1; exact hR.I6
  | rw t=>obtain ⟨b,off,O,e1,hR,_⟩:=h1; exact hR.I6
  | mu t=>obtain ⟨cs,e1,hR⟩:=h1; exact hR.I6
  | X4=>trivial
  | rcs f n=>trivial
  | el q=>trivial
  | D9 f ts =>
   obtain ⟨_,ws,e1,hl⟩:=h1;have:∀ {ts:List Ty} {ws:List Value} {y:DL ts},RdL H S ts ws y->PK.I6.HQ ts y:=by
    intro ts
    induction ts with
    | nil=>intro ws y h; trivial
    | cons t ts ih =>
     rintro ws y ⟨v,us,e,⟨b,off,e1,k1,k2,k3⟩,hl⟩;exact ⟨k3.I6,ih hl⟩
   exact this hl
theorem NJ:∀ {ks:List PK} {vs:List Value} {x:DK ks} {L:List Nat},W2 H S ks vs x L->vs.length=ks.length
 | [],_,_,_,h=>by rw [h.1]; rfl
 | k::ks,vs,x,L,⟨v1,us,L1,L2,e,_,_,h2⟩=>by rw [e]; simp [NJ h2]
theorem Uu:∀ {ks:List PK} {x:DK ks} {i k:Nat} {e:g9},look k (G8 ks x i)=some e->∃ m,i<=m/\m<i+ks.length/\(k=1500000+m\/k=2000000+m)
 | [],_,_,_,_,h=>by cases h
 | k0::ks,x,i,k,e,h=>by
  have rest:look k (G8 ks x.2 (i+1))=some e->∃ m,i<=m/\m<i+(k0::ks).length/\(k=1500000+m\/k=2000000+m):=by
   intro h;obtain ⟨m,h1,h2,h3⟩:=Uu h;exact ⟨m,by omega,by simp only [aAh]; omega,h3⟩
  have put_:∀ {d:Nat} {e0:g9},(d=1500000+i\/d=2000000+i)->look k (Ex.put d e0 (G8 ks x.2 (i+1)))=some e->∃ m,i<=m/\m<i+(k0::ks).length/\(k=1500000+m\/k=2000000+m):=by
   intro d e0 hd h;rw [p9] at h;split at h
   ·rename_i hk; subst hk; exact ⟨i,aAk _,by simp only [aAh]; omega,hd⟩
   ·exact rest h
  cases k0 with
  | own t=>exact put_ (.inl rfl) h
  | rw t=>exact put_ (.inr rfl) h
  | mu t=>exact put_ (.inr rfl) h
  | _=>exact rest h
def wV (hp:List (Nat×g9)) (ι:Ix):(ks:List PK)->List Value->DK ks->Nat->Prop
 | [],_,_,_=>True
 | .rw t::ks,vs,x,i=>(look (2000000+i) hp=some (.var t x.1)/\∃ us,vs=.pointer (some ⟨(ι.root (2000000+i)).1,(ι.root (2000000+i)).2,none⟩)::us)/\wV hp ι ks (vs.drop 1) x.2 (i+1)
 | .v _::ks,vs,x,i=>wV hp ι ks (vs.drop 1) x.2 (i+1)
 | .rd _::ks,vs,x,i=>wV hp ι ks (vs.drop 1) x.2 (i+1)
 | .D9 _ _::ks,vs,x,i=>wV hp ι ks (vs.drop 1) x.2 (i+1)
 | .own _::ks,vs,x,i=>wV hp ι ks (vs.drop 1) x.2 (i+1)
 | .mu _::ks,vs,x,i=>wV hp ι ks (vs.drop 1) x.2 (i+1)
 | .X4::ks,vs,x,i=>wV hp ι ks (vs.drop 1) x.2 (i+1)
 | .rcs _ _::ks,vs,x,i=>wV hp ι ks (vs.drop 1) x.2 (i+1)
 | .el _::ks,vs,x,i=>wV hp ι ks (vs.drop 1) x.2 (i+1)
theorem a28:∀ {ks:List PK} {vs:List Value} {x:DK ks} {L:List Nat} {i:Nat},W2 H S ks vs x L->i+ks.length<=1000->(∀ k e,look k (G8 ks x i)=some e->look k hp=some e)->(∀ q∈O6 ks vs i,ι.root q.1=q.2.1)->wV hp ι ks vs x i
 | [],_,_,_,_,_,_,_,_=>trivial
 | k::ks,vs,x,L,i,⟨v,us,L1,L2,e1,_,hk,hK⟩,hi,hh,fo=>by
  subst e1;simp only [aAh] at hi;have sub:∀ {d:Nat} {e0:g9},(d=1500000+i\/d=2000000+i)->(∀ k e,look k (Ex.put d e0 (G8 ks x.2 (i+1)))=some e->look k hp=some e)->∀ k e,look k (G8 ks x.2 (i+1))=some e->look k hp=some e:=by
   intro d e0 hd hh k e h;refine hh k e ?_;rw [p9,if_neg]
   ·exact h
   ·rintro rfl
    obtain ⟨m,h1,h2,h3⟩:=Uu h;omega
  cases k with
  | rw t =>
   obtain ⟨b,off,O,rfl,_,_,_⟩:=hk;have hr:ι.root (2000000+i)=(b,off):=fo (2000000+i,(b,off),[]) (by simp [O6]);refine ⟨⟨hh _ _ (by simp only [G8]; rw [p9,if_pos rfl]),us,by rw [hr]⟩,a28 hK (by omega) (sub (.inr rfl) hh) (λ q hq=>fo q (by simp only [O6]; exact aAz _ hq))⟩
  | own t=>exact a28 (ks:=ks) hK (by omega) (sub (.inl rfl) hh) (λ q hq=>fo q hq)
  | mu t=>exact a28 (ks:=ks) hK (by omega) (sub (.inr rfl) hh) (λ q hq=>fo q (by simp only [O6]; exact aAz _ hq))
  | v t=>exact a28 (ks:=ks) hK (by omega) hh (λ q hq=>fo q hq)
  | rd t=>exact a28 (ks:=ks) hK (by omega) hh (λ q hq=>fo q hq)
  | D9 f ts=>exact a28 (ks:=ks) hK (by omega) hh (λ q hq=>fo q hq)
  | X4=>exact a28 (ks:=ks) hK (by omega) hh (λ q hq=>fo q hq)
  | rcs f n=>exact a28 (ks:=ks) hK (by omega) hh (λ q hq=>fo q hq)
  | el q=>exact a28 (ks:=ks) hK (by omega) hh (λ q hq=>fo q hq)
theorem RG {fr:List (Nat×AV)}:∀ {n j:Nat} {us:List Value},us.length=n->(∀ t val v,us[t]?=some val->look (j+t) fr=some v->VX H S ι hp v [val])->VX H S ι hp (HW fr j n) us
 | 0,j,us,hl,_=>by
  obtain rfl:=aCp.1 hl;rfl
 | n+1,j,u::us,hl,h=>by
  refine ⟨u,us,rfl,?_,RG (by simpa using hl) (λ t val v ht hv=>h (t+1) val v (by simpa using ht) (by rw [<- hv]; congr 1; omega))⟩;cases dn:look j fr with
  | none=>exact ⟨_,rfl⟩
  | some v=>exact h 0 u v rfl dn
theorem OU:∀ {ks:List PK} {x:DK ks} {i:Nat} {fr:List (Nat×AV)} {pre vs:List Value} {cc:Option (Sigma Ty.den)},(∀ t v,look t fr=some v->∃ val,(pre.reverse++vs)[t]?=some val/\VX H S ι hp v [val])->i=pre.length ->
  vP H S ks cc pre vs x->vs.length=ks.length->wV hp ι ks vs x i->(∀ r,cc=some r->∃ pre',pre=.pointer (some ⟨(ι.root (2000000+(i - 1))).1,(ι.root (2000000+(i - 1))).2,none⟩)::pre'/\look (2000000+(i - 1)) hp=some (.var r.1 r.2)) ->
  ∀ t v,look t (xf ks x i fr)=some v->∃ val,(pre.reverse++vs)[t]?=some val/\VX H S ι hp v [val]
 | [],_,_,_,_,_,_,h,_,_,_,_,_=>h
 | k::ks,x,i,fr,pre,vs,cc,h,hi,hk,hl,hr,hc=>by
  cases vs with
  | nil=>cases hl
  | cons v vs =>
   have hl:vs.length=ks.length:=by simpa using hl
   have cw:pre.reverse++v::vs=(v::pre).reverse++vs:=by simp
   have next:∀ {fr':List (Nat×AV)} {cc':Option (Sigma Ty.den)},(∀ t v',look t fr'=some v'->∃ val,(pre.reverse++v::vs)[t]?=some val/\VX H S ι hp v' [val])->vP H S ks cc' (v::pre) vs x.2->wV hp ι ks vs x.2 (i+1) ->
     (∀ r,cc'=some r->v=.pointer (some ⟨(ι.root (2000000+i)).1,(ι.root (2000000+i)).2,none⟩)/\look (2000000+i) hp=some (.var r.1 r.2))->∀ t v',look t (xf ks x.2 (i+1) fr')=some v'->∃ val,(pre.reverse++v::vs)[t]?=some val/\VX H S ι hp v' [val]:=by
    intro fr' cc' h1 h2 h3 h4;rw [cw] at h1 ⊢;refine OU h1 (by simp [hi]) h2 hl h3 (λ r hr=>?_);rw [aGa];obtain ⟨q1,q2⟩:=h4 r hr;exact ⟨pre,by rw [q1],q2⟩
   have iv:(pre.reverse++v::vs)[i]?=some v:=by
    rw [aDv (by simp [hi])];simp [hi]
   cases k with
   | v t=>exact next h hk hr (λ r hr=>by cases hr)
   | rd t=>exact next h hk hr (λ r hr=>by cases hr)
   | D9 f ts=>exact next h hk hr (λ r hr=>by cases hr)
   | own t=>exact next h hk hr (λ r hr=>by cases hr)
   | mu t=>exact next h hk hr (λ r hr=>by cases hr)
   | X4=>exact next h hk hr (λ r hr=>by cases hr)
   | rw t =>
    obtain ⟨⟨h1,us,h2⟩,hr⟩:=hr;exact next h hk hr (λ r hr=>by cases hr; exact ⟨(aHd h2).1,h1⟩)
   | rcs f n =>
    obtain ⟨⟨us,b,off,e1,h1,h2,h3,h4⟩,hk⟩:=hk;obtain ⟨rfl,rfl⟩:=aHd e1;refine next (λ t v' ht=>?_) hk hr (λ r hr=>by cases hr)
    rw [p9] at ht;split at ht
    ·rename_i e; subst e; cases ht
     refine ⟨_,iv,_,_,_,rfl,h1,h2,h3,_,rfl,b,off,(pre.take n).reverse,rfl,h1,h2,h3,?_⟩;refine RG (by simp; omega) (λ t val v' ht hv=>?_);obtain ⟨val',g1,g2⟩:=h _ _ hv;have ru:t<n:=by
      have:=(aDz.1 ht).1;simp at this; omega
     have:val'=val:=by
      rw [List.reverse_take,aBl] at ht;rw [aFf (by simp; omega)] at g1;subst hi;rw [g1] at ht; cases ht; rfl
     rw [this] at g2; exact g2
    ·exact h t v' ht
   | el q =>
    obtain ⟨⟨t,y,b0,off0,pre',b,off,us,e0,e1,e2,h1,h2,h3⟩,hk⟩:=hk;obtain ⟨rfl,rfl⟩:=aHd e2;obtain ⟨pre2,g1,g2⟩:=hc _ e0;rw [e1] at g1;simp only [aBc,Value.pointer.injEq,aAc,Addr.mk.injEq,and_true] at g1;obtain ⟨⟨rfl,rfl⟩,rfl⟩:=g1;refine next (λ t' v' ht=>?_) hk hr (λ r hr=>by cases hr)
    rw [p9] at ht;split at ht
    ·rename_i e; subst e; cases ht
     exact ⟨_,iv,_,b,off,g2,h1,wL h2 h3,rfl⟩
    ·exact h t' v' ht
theorem WW {E:Env} {fn:Func} {w:World} {vs:List Value} {x:DK E.ps} {L:List Nat}
  (hlen:E.ps.length<=fn.ntmps/\E.ps.length<=1000) (hS:∀ b,S b->b<w.heap.size) (hK:W2 w.heap S E.ps vs x L) (iy:vP w.heap S E.ps none [] vs x) (fP:L.Nodup) (eo:∀ b∈L,¬ S b/\b<w.heap.size) :
  ∃ ι,∀ gv,RS (F5.of w S E.ps vs L fn.ntmps gv) S ι (w9 E.ps x) { tmps:=vs.toArray++Array.replicate (fn.ntmps - vs.toArray.size) undef,defers:=[] } w:=by
 obtain ⟨ι,lR⟩:=NT (B:=⟨w,S,λ b=>b∈L,fn.ntmps,[],undef⟩) (i:=0) rfl rfl rfl hS hK fP (λ b hb=>⟨(eo b hb).1,hb,(eo b hb).2⟩) (by show 0+E.ps.length<=1000; omega);refine ⟨ι,λ gv=>?_⟩;have hl:vs.length=E.ps.length:=NJ hK;have hs:=lR.hs;refine ⟨⟨hs.os,hs.tape,hs.out,hs.size,hs.frame,hs.slt,hs.s0,hs.s1,hs.ob,hs.bl,hs.dj,λ q hq=>lR.pins q hq⟩,rfl,?_,?_⟩
 ·simp only [aFl,aFi,Array.size_replicate,F5.of]
  omega
 ·intro t v hv
  obtain ⟨val,k2,k3⟩:=OU (pre:=[]) (vs:=vs) (i:=0) (λ t v ht=>by
   obtain ⟨_,val,k2,k3⟩:=lR.fr t v ht;exact ⟨val,by simpa using k2,k3⟩) rfl iy hl (a28 hK (by show 0+E.ps.length<=1000; omega) (λ _ _ h=>h) (λ q hq=>(lR.pins q hq).2.2.1)) (λ r hr=>by cases hr) t v hv
  simp only [List.reverse_nil,aGr] at k2;have:(vs.toArray++Array.replicate (fn.ntmps - vs.toArray.size) undef).getD t (F5.gd (F5.of w S E.ps vs L fn.ntmps gv) t)=val:=by
   have bf:=(aDz.1 k2).1;simp only [aCm];rw [Array.getElem?_append_left (by simpa using bf)];simp [k2]
  rw [this];exact k3
theorem r9.p7 (_hE:B8 E) {f:FuncId} {fn:Func} {c:Code} {rs:List Ty} {ps:List PK} {pre:DK ps->Prop} {fn':DK ps->DL rs} {out:DK ps->DL (F9 ps)} (cv:E.rs=rs) (ff:E.ps=ps) (hf:E.P.funcs[f]?=some fn) (hb:fn.body=some c) (ga:(fn.name == "runtime.NumGoroutine")=false) (_hF:D7 E fn)
  (hlen:(Nat.ble ps.length fn.ntmps && Nat.ble ps.length 1000)=true)
  (h:∀ x:DK ps,pre x->Ia ps x->Reach E fn (cv▸fn' x) (ff▸out x) [.code c] (w9 ps x)):(r9.mk ps rs pre fn' out false).Valid E.P f:=by
 subst cv;subst ff;simp only [aAa,aFv] at hlen;refine ⟨⟨fn,hf,ga,by rw [hb]; rfl⟩,?_,λ h=>by cases h⟩;intro w S vs x L hS ed bc hK iy fP eo;refine Calls.mono (R:=λ e w'=>yf w S E.rs E.ps vs L (fn' x) (out x) e w'/\GOk E.gp undef w'.heap E.ps vs (out x)) ?_ (λ _ _ h=>h.1);refine b9r hf hb ?_;obtain ⟨ι,bO⟩:=WW hlen hS hK iy fP eo;exact h x bc (NK hK) w S vs x L undef S ι _ w ⟨ed,λ b hb=>⟨hS b hb,λ hl=>(eo b hl).1 hb⟩⟩ hK (bO undef)
end
end Go.Ex
namespace Go.Ex
def shares:List Ty->List Ty->Bool
 | [],[]=>true
 | t::ts,t'::ts'=>(decide (t'=t) || (decide (t'=t.sh) && t.X1)) && shares ts ts'
 | _,_=>false
theorem c3X {t t':Ty} (h:(decide (t'=t) || (decide (t'=t.sh) && t.X1))=true):t.den=t'.den:=by
 simp only [aBr,aAa,decide_eq_true_eq] at h;rcases h with rfl|⟨rfl,_⟩
 ·rfl
 ·exact (G0 t).symm
def Cl:(rs rs':List Ty)->shares rs rs'=true->DL rs->DL rs'
 | [],[],_,_=>()
 | t::ts,t'::ts',h,x=>(cast (c3X (by simp only [shares,aAa] at h; exact h.1)) x.1,Cl ts ts' (by simp only [shares,aAa] at h; exact h.2) x.2)
 | [],_::_,h,_=>by simp [shares] at h
 | _::_,[],h,_=>by simp [shares] at h
theorem RY {H:Array Go.Obj} {S:Nat->Prop}:∀ {ts rs':List Ty} (h:shares ts rs'=true) {O:List Nat} {us:List Value} {x:DL ts},N2 H S ts O us x ->
  ∃ O1 O2,O.Perm (O1++O2)/\∀ T:Nat->Prop,(∀ b,S b->T b)->(∀ b∈O2,T b)->N2 H T rs' O1 us (Cl ts rs' h x)
 | [],[],_,O,us,x,hR=>⟨[],[],by rw [hR.1]; exact aFh _,λ T _ _=>⟨rfl,hR.2⟩⟩
 | [],_::_,h,_,_,_,_=>by simp [shares] at h
 | _::_,[],h,_,_,_,_=>by simp [shares] at h
 | t::ts,t'::ts',h,O,us,x,⟨v,us',P1,P2,cs,e1,e2,e3,h1,h2⟩=>by
  have hh:=h;simp only [shares,aAa] at hh;obtain ⟨O1,O2,p,k⟩:=RY hh.2 h2;have hd:=hh.1;simp only [aBr,aAa,decide_eq_true_eq] at hd;subst e2;rcases hd with rfl|⟨rfl,ta⟩
  ·refine ⟨P1++O1,O2,by rw [aAj]; exact p.append_left P1,λ T hS hT=>⟨v,us',P1,O1,cs,e1,rfl,e3,?_,k T hS hT⟩⟩
   exact h1.x7 (λ _ _=>rfl) hS
  ·refine ⟨O1,P1++O2,?_,λ T hS hT=>⟨v,us',[],O1,cs,e1,rfl,by rw [e3]; exact (Ja (by rw [Ty.Ay]) cs).symm,?_,k T hS (λ b hb=>hT b (by simp [hb]))⟩⟩
   ·refine (p.append_left P1).trans ?_
    rw [<- aAj,<- aAj];exact List.perm_append_comm.append_right O2
   ·exact h1.wq (λ b hb=>hT b (by simp [hb])) hS ta
theorem c35 {ps:List PK} (h:ps.all PK.reads=true):F9 ps=[]:=by
 induction ps with
 | nil=>rfl
 | cons k ps ih =>
  simp only [aDn,aAa] at h;have:=ih h.2;cases k<;>first|exact this|(exfalso; simp [PK.reads] at h; done)
theorem Pu {H:Array Go.Obj} {S:Nat->Prop}:∀ {ps:List PK},ps.all PK.reads=true->∀ {vs:List Value} {x:DK ps} {L:List Nat},W2 H S ps vs x L->L=[]
 | [],_,_,_,_,h=>h.2
 | k::ps,h,vs,x,L,⟨v,us,L1,L2,e1,e2,h1,h2⟩=>by
  simp only [aDn,aAa] at h;have qZ:=Pu h.2 h2;have uC:L1=[]:=by
   cases k<;>first|exact h1.1|(exfalso; simp [PK.reads] at h; done)
  rw [e2,uC,qZ]; rfl
theorem r9.Valid.share {P:Program} {f:FuncId} {c:r9} (h:c.Valid P f) (ff:c.ps.all PK.reads=true) (ib:c.rs.all Ty.L8=true) {rs':List Ty} (cv:shares c.rs rs'=true) :
  (r9.mk c.ps rs' c.pre (λ x=>Cl c.rs rs' cv (c.fn x)) c.out true).Valid P f:=by
 have core:∀ (w:World) (S:Nat->Prop) (vs:List Value) (x:DK c.ps) (L:List Nat),(∀ b,S b->b<w.heap.size)->vI P w S->c.pre x->W2 w.heap S c.ps vs x L->vP w.heap S c.ps none [] vs x->L.Nodup->(∀ b∈L,¬ S b/\b<w.heap.size) ->
   Calls P f vs.toArray w (λ e w'=>∃ us O Lo S',e=.returned (xl us)/\G2 L w w'/\(∀ b,S b->S' b)/\(∀ b,S' b->S b\/((w.heap.size<=b\/b∈L)/\b<w'.heap.size)) /\
    N2 w'.heap S' rs' O us (Cl c.rs rs' cv (c.fn x))/\I1 w'.heap S' c.ps vs (c.out x) Lo/\(O++Lo).Nodup/\(∀ b∈O++Lo,¬ S' b/\(w.heap.size<=b\/b∈L)/\b<w'.heap.size) /\
    N2 w'.heap (λ b=>S' b/\w.heap.size<=b) rs' O us (Cl c.rs rs' cv (c.fn x))):=by
  intro w S vs x L hS ed bc hK iy fP eo;refine (h.run w S vs x L hS ed bc hK iy fP eo).mono (λ e w' hr=>?_);obtain ⟨us,O,Lo,S',e1,hp,s1,s2,h1,h2,aK,hb⟩:=hr;have hL:=Pu ff hK;have my:Lo=[]:=Z3 (c35 ff) h2;subst hL;subst my;rw [aAv] at aK hb;obtain ⟨O1,O2,p,k⟩:=RY cv (h1.L8 (S':=λ _=>False) ib);have eC:=p.nodup_iff.1 aK;have iX:∀ b∈O2,¬ S' b/\w.heap.size<=b/\b<w'.heap.size:=λ b cV=>by
   obtain ⟨q0,q1,q2⟩:=hb b (p.mem_iff.2 (aBs _ cV));rcases q1 with q1|q1
   ·exact ⟨q0,q1,q2⟩
   ·cases q1
  refine ⟨us,O1,[],λ b=>S' b\/b∈O2,e1,hp,λ b hb=>.inl (s1 b hb),?_,k _ (λ b hb=>hb.elim) (λ b hb=>.inr hb),?_,by rw [aAv]; exact (aAg.1 eC).1,?_,k _ (λ b hb=>hb.elim) (λ b hb=>⟨.inr hb,(iX b hb).2.1⟩)⟩
  ·rintro b (cV|cV)
   ·exact s2 b cV
   ·exact .inr ⟨.inl (iX b cV).2.1,(iX b cV).2.2⟩
  ·have ib:∀ {ks:List PK} {us:List Value} {y:DL (F9 ks)} {T:Nat->Prop},ks.all PK.reads=true->I1 w'.heap S' ks us y []->I1 w'.heap T ks us y []:=by
    intro ks
    induction ks with
    | nil=>intro us y T _ h; exact h
    | cons k ks ih =>
     intro us y T hk h;simp only [aDn,aAa] at hk;cases k<;>first
      | (obtain ⟨v,us',e,h⟩:=h; exact ⟨v,us',e,ih hk.2 h⟩)
      | (exfalso; simp [PK.reads] at hk; done)
   exact ib ff h2
  ·intro b dK
   rw [aAv] at dK;obtain ⟨q0,q1,q2⟩:=hb b (p.mem_iff.2 (aBf _ dK));refine ⟨?_,q1,q2⟩;rintro (h9|h9)
   ·exact q0 h9
   ·exact (aAg.1 eC).2.2 b dK b h9 rfl
 refine ⟨h.ent,λ w S vs x L hS ed bc hK iy fP eo=>(core w S vs x L hS ed bc hK iy fP eo).mono (λ e w' ⟨us,O,Lo,S',a1,a2,a3,a4,a5,a6,a7,a8,_⟩=>⟨us,O,Lo,S',a1,a2,a3,a4,a5,a6,a7,a8⟩),λ _=>core⟩
theorem r9.Valid.conv {P:Program} {f:FuncId} {c:r9} (h:c.Valid P f) {rs':List Ty} {fn':DK c.ps->DL rs'} (hc:∀ x,c.pre x->∀ (H:Array Go.Obj) (S:Nat->Prop) (O:List Nat) (us:List Value),N2 H S c.rs O us (c.fn x)->N2 H S rs' O us (fn' x)) :
  (r9.mk c.ps rs' c.pre fn' c.out c.new).Valid P f:=by
 refine ⟨h.ent,λ w S vs x L hS ed bc hK iy fP eo=>?_,λ hn w S vs x L hS ed bc hK iy fP eo=>?_⟩
 ·refine (h.run w S vs x L hS ed bc hK iy fP eo).mono (λ e w' hr=>?_)
  obtain ⟨us,O,Lo,S',e1,hp,s1,s2,h1,h2⟩:=hr;exact ⟨us,O,Lo,S',e1,hp,s1,s2,hc x bc _ _ _ _ h1,h2⟩
 ·refine (h.fresh hn w S vs x L hS ed bc hK iy fP eo).mono (λ e w' hr=>?_)
  obtain ⟨us,O,Lo,S',e1,hp,s1,s2,h1,h2,h3,h4,h5⟩:=hr;exact ⟨us,O,Lo,S',e1,hp,s1,s2,hc x bc _ _ _ _ h1,h2,h3,h4,hc x bc _ _ _ _ h5⟩
end Go.Ex
namespace Go.Ex
abbrev OI:=TypeId×String×Array Edge
section
variable {P:Program} {fn:Func} {R:Ending->World->Prop} {k:List Item} {a:Act} {w:World} {S':Nat->Prop}
structure d0f (P:Program) (b:Nat) (ox:Op) (xv:Value) (X:Act->World->Prop):Prop where
 run:∀ a w,X a w->∀ o:Oper,o.op=ox->(execOp a.eval o).run P w=.ok (.value xv) w
 put:∀ a w d v,X a w->d≠1->d≠3->d<a.tmps.size->X (a.put (some d) v) w
 mem:∀ a w w',X a w->(∀ c,c≠b->w'.heap[c]?=w.heap[c]?)->X a w'
variable {S I T:Nat} {e:Nat->OI} {ox:Op} {t:Ty} {r:Nat} {xv:Value} {ds:List Value} {x:t.den} {b off cap:Nat} {A:Option Addr} {X:Act->World->Prop} {w0:World} {S0:Nat->Prop}
structure SpD (t:Ty) (ds:List Value) (b off cap:Nat) (w0:World) (i:Nat) (w:World):Prop where
 past:G2 [b] w0 w
 free:W3 t.isB w.heap b (off+cap*t.size)
 cells:e8 w.heap b off (i*t.size)=(List.replicate i ds).flatten
end
end Go.Ex
namespace Go.Ex
def BY (P:Program):List (FuncId×r9)->Prop
 | []=>True
 | (f,c)::l=>c.Valid P f/\BY P l
theorem BY.look {P:Program}:∀ {l:List (FuncId×r9)} {f:FuncId} {c:r9},BY P l->Ex.look f l=some c->c.Valid P f
 | [],_,_,_,h=>by cases h
 | (g,d)::l,f,c,h,hl=>by
  simp only [Ex.look] at hl;cases hb:Nat.beq f g with
  | true =>
   rw [hb] at hl;have:=aAe hb;subst this; cases hl; exact h.1
  | false=>rw [hb] at hl; exact BY.look h.2 hl
theorem PE {P:Program}:∀ {l:List (TypeId×TI)} {T:TypeId} {i:TI},l.all (yc P)=true->Ex.look T l=some i->yc P (T,i)=true
 | [],_,_,_,h=>by cases h
 | (g,d)::l,T,i,h,hl=>by
  simp only [aDn,aAa] at h;simp only [Ex.look] at hl;cases hb:Nat.beq T g with
  | true =>
   rw [hb] at hl;have:=aAe hb;subst this; cases hl; exact h.1
  | false=>rw [hb] at hl; exact PE h.2 hl
def Co (P:Program) (E3:List (FuncId×r9)):List (FuncId×List (Option Nat))->Prop
 | []=>True
 | (f,pat)::l=>(∀ c,Ex.look f E3=some c->c.Kept P f pat)/\Co P E3 l
theorem Co.look {P:Program} {E3:List (FuncId×r9)}:∀ {l:List (FuncId×List (Option Nat))} {f:FuncId} {pat:List (Option Nat)},Co P E3 l->Ex.look f l=some pat->∀ c,Ex.look f E3=some c->c.Kept P f pat
 | [],_,_,_,h=>by cases h
 | (g,d)::l,f,pat,h,hl=>by
  simp only [Ex.look] at hl;cases hb:Nat.beq f g with
  | true =>
   rw [hb] at hl;have:=aAe hb;subst this; cases hl; exact h.1
  | false=>rw [hb] at hl; exact Co.look h.2 hl
theorem C4 {E:Env} (ht:E.tt.all (yc E.P)=true) (hc:BY E.P E.E3) (hk:Co E.P E.E3 E.keeps:=by trivial):B8 E :=
 ⟨λ _ _ h=>PE ht h,λ _ _ h=>hc.look h,λ _ c _ h1 h2=>hk.look h2 c h1⟩
theorem i7 {rs:List Ty} {L:Code->List Item->St->Prop} {R:DL rs->Prop} {t t':Tree rs} (h:t=t') (h':t'.holds L R):t.holds L R:=h▸h'
theorem Reach.N4 {E:Env} (hE:B8 E) {fn:Func} (hf:D7 E fn) {y:DL E.rs} {z:DL (F9 E.ps)} {c:Code} {k:List Item} {α:Type} (mk:α->St) (I:α->Prop) (μ:α->Nat) (n:Nat) (hu:∀ x,uniq (mk x).fr/\uniq (mk x).hp)
  (h:∀ x,I x->(mk x).I6->(∀ x',I x'->μ x'<μ x->Reach E fn y z (.code c::.inLoop c::k) (mk x')) ->
   (exec E n (.code c::.inLoop c::k) (mk x)).holds (λ c' k' s'=>Reach E fn y z (.code c'::.inLoop c'::k') s') (·=DL.app y z)) :
  ∀ x,I x->Reach E fn y z (.code c::.inLoop c::k) (mk x):=by
 have key:∀ m x,μ x=m->I x->Reach E fn y z (.code c::.inLoop c::k) (mk x):=by
  intro m
  induction m using Nat.strongRecOn with
  | _ m ih =>
   intro x hm hI w0 S0 vs x0 L gv S ι a w eW hK cv;have hx:=h x hI (cv.I6 (hu x).1 (hu x).2) (λ x' h1 h2=>ih (μ x') (hm▸h2) x' rfl h1);exact j6 hE hf hx w0 S0 vs x0 L gv S ι a w eW hK cv
 exact λ x hI=>key (μ x) x rfl hI
def d8 (P:Program) (f:Nat):Code:=((P.funcs[f]?).bind (·.body)).getD .skip
end Go.Ex
namespace Go.Ex
open Go.ChangeShapes Go.WideShapes Go.ChangeAt Go.RowKit
section
variable {P:Program} {X:Type} {enc:TypeId×Value->X} {W:World} {sp:Nat->Bool} {held:Bool}
def wh {α:Type _} (f:α->Nat):List α->Nat
 | []=>0
 | x::l=>f x+wh f l
def Ty.flat:Ty->Bool
 | .int _|.bool|.str|.unit=>true
 | .fn _=>false
 | .hole _=>false
 | .D4 _=>false
 | .map _ _ _=>false
 | .box _ _ _=>false
 | .pair a b=>a.flat && b.flat
 | .arr _ t=>t.flat
 | .d0 o t=>!o && t.flat
def Ty.Z8:(t:Ty)->t.den->Nat
 | .int _,_=>1
 | .bool,_=>1
 | .str,s=>List.length s+1
 | .unit,_=>0
 | .fn _,_=>0
 | .hole _,_=>0
 | .D4 _,_=>0
 | .map _ _ _,_=>0
 | .box _ _ _,_=>0
 | .pair a b,x=>a.Z8 x.1+b.Z8 x.2
 | .arr _ t,l=>wh t.Z8 l
 | .d0 _ t,l=>wh t.Z8 l+1
mutual
def U9 {H:Type}:DataW H->Nat
 | .lit (.string bytes)=>bytes.length+1
 | .lit _=>1
 | .nil=>1
 | .ptr d=>U9 d+1
 | .slice elems spare=>yz elems+yz spare+1
 | .agg parts=>yz parts+1
 | .iface _ d=>U9 d+1
 | .map entries=>UL entries+1
 | .held _=>1
def yz {H:Type}:List (DataW H)->Nat
 | []=>0
 | d::r=>U9 d+yz r
def UL {H:Type}:List (Lit×DataW H)->Nat
 | []=>0
 | x::r=>c2F x+UL r
def c2F {H:Type}:Lit×DataW H->Nat
 | (.string bytes,d)=>bytes.length+U9 d+1
 | (_,d)=>U9 d+1
end
theorem Gs {H β:Type}:∀ (xs:List (DataW H×β)),yz (xs.map (·.1))=wh (λ x=>U9 x.1) xs
 | []=>rfl
 | x::xs=>by simp only [aCf,yz,wh,Gs xs]
theorem JJ {α β:Type} {R:List Nat->List Value->α->Prop} {sz:Nat} {bk:α->Nat} {bw:β->Nat}:∀ {n:Nat} {cs:List Value} {xs:List β},xs.length=n->cs.length=n*sz->(∀ i,i<n->∃ y z,xs[i]?=some z/\R [] ((cs.drop (i*sz)).take sz) y/\bk y<=bw z) ->
  ∃ l:List α,l.length=n/\j5 R sz [] cs l/\wh bk l<=wh bw xs
 | 0,cs,[],_,h,_=>⟨[],rfl,⟨rfl,by simpa using h⟩,aAk _⟩
 | n+1,cs,x::xs,hx,h,hr=>by
  obtain ⟨y,z,hz,hy,hb⟩:=hr 0 (by omega);have e:(n+1)*sz=n*sz+sz:=aBg n sz;obtain ⟨l,h1,h2,h3⟩:=JJ (R:=R) (bk:=bk) (bw:=bw) (n:=n) (cs:=cs.drop sz) (sz:=sz) (xs:=xs) (by simpa using hx) (by simp; omega) (λ i hi=>by
   obtain ⟨y,z,hz,hy,hb⟩:=hr (i+1) (by omega);refine ⟨y,z,by simpa using hz,?_,hb⟩;rw [aBm];rw [show sz+i*sz=(i+1)*sz by rw [aBg]; omega];exact hy)
  have hz:x=z:=by simpa using hz
  subst hz;exact ⟨y::l,by simp [h1],⟨[],[],rfl,by simpa using hy,h2⟩,by simp only [wh]; omega⟩
 | 0,_,_::_,h,_,_=>by simp at h
 | _+1,_,[],h,_,_=>by simp at h
theorem Dr {n:Nat} {T:TypeId} {t:Ty} (h:r8 P n T t=true):P.cellsOf T=t.size:=by
 obtain ⟨i,h1,h2,_⟩:=Y3 h;simp [Program.cellsOf,h1,h2]
theorem b1w:∀ (t:Ty),t.flat=true ->
  (∀ {n:Nat} {T:TypeId} {fuel:Nat} {cs:List Value} {x:DataW X×List MemPlace},r8 P n T t=true->DataW.trod enc P W 0 sp held fuel T cs=some x->∃ y:t.den,i6 W.heap (λ b=>b<W.heap.size) t [] cs y/\t.Z8 y<=U9 x.1) /\
  (∀ {n:Nat} {fs:List Field} {off m:Nat} {cs:List Value} {xs:List (DataW X×List MemPlace)},n7 (r8 P n) fs off t=true->xs.length=fs.length->(∀ (i:Nat) (f:Field),fs[i]?=some f->DataW.trod enc P W 0 sp held m f.type ((cs.drop f.offset).take (P.cellsOf f.type))=xs[i]?) ->
   ∃ y:t.den,i6 W.heap (λ b=>b<W.heap.size) t [] ((cs.drop off).take t.size) y/\t.Z8 y<=wh (λ x=>U9 x.1) xs):=by
 intro t;have strct:∀ {t:Ty},(∀ {n:Nat} {fs:List Field} {off m:Nat} {cs:List Value} {xs:List (DataW X×List MemPlace)},n7 (r8 P n) fs off t=true->xs.length=fs.length->(∀ (i:Nat) (f:Field),fs[i]?=some f->DataW.trod enc P W 0 sp held m f.type ((cs.drop f.offset).take (P.cellsOf f.type))=xs[i]?) ->
   ∃ y:t.den,i6 W.heap (λ b=>b<W.heap.size) t [] ((cs.drop off).take t.size) y/\t.Z8 y<=wh (λ x=>U9 x.1) xs)->t.agg=true->(∀ n u,t≠.arr n u) ->
   ∀ {n:Nat} {T:TypeId} {fuel:Nat} {cs:List Value} {x:DataW X×List MemPlace},r8 P n T t=true->DataW.trod enc P W 0 sp held fuel T cs=some x->∃ y:t.den,i6 W.heap (λ b=>b<W.heap.size) t [] cs y/\t.Z8 y<=U9 x.1:=by
  intro t hB dv mi n T fuel cs x hT h;obtain ⟨fs,k',h1,h2⟩:=MA hT dv mi;obtain ⟨xs,m,_,rfl,hl,hlen,hf⟩:=DataW.trod_struct h1 h;obtain ⟨y,hy,hb⟩:=hB (cs:=cs) (m:=m) (xs:=xs) h2 (by simpa using hlen) (λ i f qp=>hf i f (by simpa using qp));refine ⟨y,?_,?_⟩
  ·rw [Dr hT] at hl
   rw [aBz,aAw (by omega)] at hy;exact hy
  ·simp only [U9,Gs]; omega
 induction t with
 | int k =>
  intro _;refine ⟨?_,by intro n fs off m cs xs h; cases fs<;>simp [n7] at h⟩;intro n T fuel cs x hT h;obtain ⟨z,rfl,rfl,hw⟩:=DataW.trod_int (zk hT) h;simp only [Lit.wf,aAa,decide_eq_true_eq] at hw;exact ⟨z,⟨rfl,rfl,hw⟩,by simp [Ty.Z8,U9]⟩
 | bool =>
  intro _;refine ⟨?_,by intro n fs off m cs xs h; cases fs<;>simp [n7] at h⟩;intro n T fuel cs x hT h;obtain ⟨b,rfl,rfl⟩:=DataW.trod_bool (a49 hT) h;exact ⟨b,⟨rfl,rfl⟩,by simp [Ty.Z8,U9]⟩
 | str =>
  intro _;refine ⟨?_,by intro n fs off m cs xs h; cases fs<;>simp [n7] at h⟩;intro n T fuel cs x hT h;obtain ⟨s,rfl,rfl,hl⟩:=DataW.trod_string (Y9 hT) h;exact ⟨s.data.toList,⟨rfl,rfl,hl⟩,by simp [Ty.Z8,U9]⟩
 | unit =>
  intro _;have hB:∀ {n:Nat} {fs:List Field} {off m:Nat} {cs:List Value} {xs:List (DataW X×List MemPlace)},n7 (r8 P n) fs off .unit=true->xs.length=fs.length->(∀ (i:Nat) (f:Field),fs[i]?=some f->DataW.trod enc P W 0 sp held m f.type ((cs.drop f.offset).take (P.cellsOf f.type))=xs[i]?) ->
    ∃ y:(.unit:Ty).den,i6 W.heap (λ b=>b<W.heap.size) .unit [] ((cs.drop off).take (.unit:Ty).size) y/\(.unit:Ty).Z8 y<=wh (λ x=>U9 x.1) xs:=λ _ _ _=>⟨(),⟨rfl,by simp [Ty.size]⟩,by simp [Ty.Z8]⟩
  exact ⟨strct hB rfl (by simp),hB⟩
 | fn f=>intro h; cases h
 | hole t _=>intro h; cases h
 | D4 t _=>intro h; cases h
 | map o a b=>intro h; cases h
 | box o g t=>intro h; cases h
 | pair a b iha ihb =>
  intro eA;simp only [Ty.flat,aAa] at eA;have hB:∀ {n:Nat} {fs:List Field} {off m:Nat} {cs:List Value} {xs:List (DataW X×List MemPlace)},n7 (r8 P n) fs off (.pair a b)=true->xs.length=fs.length->(∀ (i:Nat) (f:Field),fs[i]?=some f->DataW.trod enc P W 0 sp held m f.type ((cs.drop f.offset).take (P.cellsOf f.type))=xs[i]?) ->
    ∃ y:((.pair a b):Ty).den,i6 W.heap (λ b=>b<W.heap.size) (.pair a b) [] ((cs.drop off).take ((.pair a b):Ty).size) y/\((.pair a b):Ty).Z8 y<=wh (λ x=>U9 x.1) xs:=by
   intro n fs off m cs xs hf rF hx;cases fs with
   | nil=>simp [n7] at hf
   | cons f fs =>
    cases xs with
    | nil=>simp at rF
    | cons x xs =>
    simp only [n7,aAa] at hf;obtain ⟨⟨⟨⟨h1,_⟩,h3⟩,_⟩,h5⟩:=hf;have h1:f.offset=off:=aAe h1;have iJ:=hx 0 f (by simp);rw [h1,Dr h3] at iJ;obtain ⟨y1,oX,dK⟩:=(iha eA.1).1 h3 (iJ.trans (by simp:_=some x));obtain ⟨y2,ma,fI⟩:=(ihb eA.2).2 (cs:=cs) (m:=m) (xs:=xs) h5 (by simpa using rF) (λ i f hf=>by simpa using hx (i+1) f (by simpa using hf));refine ⟨(y1,y2),⟨[],[],rfl,?_,?_⟩,?_⟩
    ·rw [aCs,aCb (by simp [Ty.size])]; exact oX
    ·rw [<- aBm] at ma
     rw [aDk,show (Ty.pair a b).size - a.size=b.size by simp [Ty.size]]; exact ma
    ·simp only [Ty.Z8,wh]; omega
  exact ⟨strct hB rfl (by simp),hB⟩
 | arr n t ih =>
  intro eA;refine ⟨?_,by intro n fs off m cs xs h; cases fs<;>simp [n7] at h⟩;intro k T fuel cs x hT h;obtain ⟨e,k',h1,h2,h3⟩:=yw hT;obtain ⟨xs,m,_,rfl,hl,hlen,hf⟩:=DataW.trod_array h1 h;rw [Dr hT] at hl;have hs:(Ty.arr n t).size=n*t.size:=rfl;rw [hs] at hl;obtain ⟨l,g1,g2,g3⟩:=JJ (R:=i6 W.heap (λ b=>b<W.heap.size) t) (bk:=t.Z8) (bw:=λ x:DataW X×List MemPlace=>U9 x.1) hlen hl (λ i hi=>by
   have:=hf i hi;rw [Dr h3] at this;have e:=aAf (l:=xs) (i:=i) (by omega);obtain ⟨y,hy,hb⟩:=(ih eA).1 h3 (this.trans e);exact ⟨y,_,e,hy,hb⟩)
  exact ⟨l,⟨g1,g2⟩,by simp only [Ty.Z8,U9,Gs]; omega⟩
 | d0 o t ih =>
  intro eA;simp only [Ty.flat,aAa,aAu] at eA;obtain ⟨rfl,cj⟩:=eA;refine ⟨?_,by intro n fs off m cs xs h; cases fs<;>simp [n7] at h⟩;intro k T fuel cs x hT h;obtain ⟨e,k',h1,h2,h3⟩:=H9 hT;have aW:=Dr h3;rcases DataW.trod_slice h1 h with ⟨rfl,rfl⟩|⟨a,len,cap,elems,rest,n,_,rfl,rfl,_,rG,eh,nK,hf,_,_⟩
  ·exact ⟨([]:List t.den),.inl ⟨rfl,⟨none,0,rfl,by simp⟩,rfl⟩,by simp [Ty.Z8,U9,wh]⟩
  ·rw [aW] at hf
   by_cases h0:len=0
   ·subst h0
    exact ⟨([]:List t.den),.inl ⟨rfl,⟨some a,cap,rfl,by simp⟩,rfl⟩,by simp [Ty.Z8,U9,wh]⟩
   ·have bM:∀ i,i<len->∃ ci y z,W.cells? 0 (a.add (i*t.size)) t.size=some ci/\i6 W.heap (λ b=>b<W.heap.size) t [] ci y/\elems[i]?=some z/\t.Z8 y<=U9 z.1:=by
     intro i hi;have:=hf i hi;have e:=aAf (l:=elems) (i:=i) (by omega);rw [e] at this;obtain ⟨ci,k1,k2⟩:=Option.bind_eq_some_iff.1 this;obtain ⟨y,hy,hb⟩:=(ih cj).1 h3 k2;exact ⟨ci,y,_,k1,hy,e,hb⟩
    obtain ⟨c0,_,_,k1,_⟩:=bM 0 (by omega);obtain ⟨_,l0,g0⟩:=World.cells?_some k1;obtain ⟨b,off,spot⟩:=a;have mX:=g0 0 (by omega);have cu:∃ v,W.cell? (Addr.mk b off spot)=some v:=by
     have:c0[0]?=some c0[0]:=aAf (by omega);rw [this,aEy] at mX;exact ⟨_,mX⟩
    obtain ⟨v0,fk⟩:=cu;obtain ⟨arr,T0,fz,hh,mI⟩:∃ arr T0 fz,W.heap[b]?=some (.cells arr T0 fz)/\spot=none:=by
     unfold World.cell? at fk;split at fk
     ·rename_i c T0 fz hh
      split at fk
      ·cases fk
      ·rename_i hs
       exact ⟨c,T0,fz,hh,by simpa using hs⟩
     ·cases fk
    subst mI;have dS:y8 W.heap b=arr.toList:=by simp only [y8,hh]
    have kJ:∀ i ci,i<len->W.cells? 0 ((Addr.mk b off none).add (i*t.size)) t.size=some ci->off+i*t.size+t.size<=(y8 W.heap b).length/\ci=e8 W.heap b (off+i*t.size) t.size:=by
     intro i ci hi hc;obtain ⟨_,l1,g1⟩:=World.cells?_some hc;have hj:∀ j,j<t.size->(y8 W.heap b)[off+i*t.size+j]?=ci[j]?:=by
      intro j hj;have:=g1 j hj;rw [Addr.J0,Addr.J0] at this;simp only [World.cell?,hh] at this;rw [dS,<- this]; simp
     have hle:off+i*t.size+t.size<=(y8 W.heap b).length:=by
      have:=hj (t.size - 1) (by omega);rw [aAf (by omega:t.size - 1<ci.length)] at this;have:=(aDz.1 this).1;omega
     refine ⟨hle,aEm (λ j=>?_)⟩;by_cases rK:j<t.size
     ·rw [<- hj j rK]
      simp only [e8,aBq,if_pos rK,aBl]
     ·rw [aCd (by omega),aCd (by rw [MT _ _ _ hle]; omega)]
    have hlen:off+len*t.size<=(y8 W.heap b).length:=by
     obtain ⟨ci,y,_,q1,_⟩:=bM (len - 1) (by omega);have:=(kJ (len - 1) ci (by omega) q1).1;have e:len*t.size=(len - 1)*t.size+t.size:=by
      rw [<- aBg]; congr 1; omega
     omega
    obtain ⟨l,q1,q2,q3⟩:=JJ (R:=i6 W.heap (λ b=>b<W.heap.size) t) (bk:=t.Z8) (bw:=λ x:DataW X×List MemPlace=>U9 x.1) (n:=len) (sz:=t.size) (cs:=e8 W.heap b off (len*t.size)) nK (MT _ _ _ hlen) (λ i hi=>by
     obtain ⟨ci,y,z,r1,r2,r3,r4⟩:=bM i hi;have hle:i*t.size+t.size<=len*t.size:=by rw [<- aBg]; exact aAm _ hi
     rw [o8,n9 _ _ _ _ (by omega),<- (kJ i ci hi r1).2];exact ⟨y,z,r3,r2,r4⟩)
    have dR:b<W.heap.size:=(aAp.1 hh).1;subst q1;exact ⟨l,.inr ⟨b,off,cap,[],rfl,rG,⟨eh,by simp⟩,hlen,q2,rfl,rfl,dR⟩,by simp only [Ty.Z8,U9,Gs]; omega⟩
end
end Go.Ex
namespace Go.Ex
open Go.ChangeShapes Go.WideShapes Go.ChangeAt Go.RowKit
section
variable {P:Program} {X:Type} {enc:TypeId×Value->X} {W W':World} {sp:Nat->Bool} {held:Bool}
theorem b9o {k:Nat} {T:TypeId} {t:Ty} (hT:r8 P k T t=true) {r:Go.Reach} {base:Nat} {v:Value} (h:Value.okWide P W r base T v):v=s5 t v.cells.toList:=by
 obtain ⟨d,hd,dv⟩:=T4 hT;unfold Value.okWide at h;rw [hd] at h;cases t with
 | int q =>
  have hu:=zk hT;rw [hd] at hu; cases hu;simp only [Cell.okWide,hd,Cell.ok] at h;cases v<;>simp_all [s5,Ty.agg,Value.cells]
 | bool =>
  have hu:=a49 hT;rw [hd] at hu; cases hu;simp only [Cell.okWide,hd,Cell.ok] at h;cases v<;>simp_all [s5,Ty.agg,Value.cells]
 | str =>
  have hu:=Y9 hT;rw [hd] at hu; cases hu;simp only [Cell.okWide,hd,Cell.ok] at h;cases v<;>simp_all [s5,Ty.agg,Value.cells]
 | fn f =>
  obtain ⟨_,_,_,hu⟩:=PF hT;rw [hd] at hu; cases hu;simp only [Cell.okWide,hd,Cell.ok] at h;cases v<;>simp_all [s5,Ty.agg,Value.cells]
 | map o a b =>
  obtain ⟨_,_,_,hu,_⟩:=Ke hT;rw [hd] at hu; cases hu;simp only [Cell.okWide,hd,Cell.ok] at h;cases v<;>simp_all [s5,Ty.agg,Value.cells]
 | box o g a =>
  cases g with
  | none =>
   obtain ⟨_,_,hu,_⟩:=Kd hT;rw [hd] at hu; cases hu;simp only [Cell.okWide,hd,Cell.ok] at h;cases v<;>simp_all [s5,Ty.agg,Value.cells]
  | some f =>
   obtain ⟨_,_,_,hu⟩:=SX hT;rw [hd] at hu; cases hu;simp only [Cell.okWide,hd,Cell.ok] at h;cases v<;>simp_all [s5,Ty.agg,Value.cells]
 | d0 o u =>
  obtain ⟨e,_,hu,_⟩:=H9 hT;rw [hd] at hu; cases hu;simp only [Cell.okWide,hd,Cell.ok] at h;cases v<;>simp_all [s5,Ty.agg,Value.cells]
 | hole u =>
  obtain ⟨e,hu⟩:=SJ hT;rw [hd] at hu; cases hu;simp only [Cell.okWide,hd,Cell.ok] at h;cases v<;>simp_all [s5,Ty.agg,Value.cells]
 | D4 u =>
  obtain ⟨e,hu⟩:=Rx hT;rw [hd] at hu; cases hu;simp only [Cell.okWide,hd,Cell.ok] at h;cases v<;>simp_all [s5,Ty.agg,Value.cells]
 | _ =>
  cases d<;>first|(exact (aBa dv.symm).elim)|skip
  all_goals
   obtain ⟨cs,rfl,_⟩:=h;simp [s5,Ty.agg,Value.cells]
def zJ (P:Program):List TypeId->List Ty->Bool
 | [],[]=>true
 | T::ts,t::us=>r8 P 100 T t && t.flat && P.readableRec T && decide (T<P.types.size) && zJ P ts us
 | _,_=>false
def Ei:(us:List Ty)->DK (us.map .v)->Nat
 | [],_=>0
 | t::us,x=>t.Z8 x.1+Ei us x.2
theorem TV:∀ {ts:List TypeId} {us:List Ty},zJ P ts us=true->∀ {vs:List Value} {ds:List (DataW X)} {ps:List MemPlace} {base:Nat} {r:Go.Reach},DataW.TrodAll enc P W 0 sp held ts vs ds ps ->
  (∀ (j:Nat) T v,ts[j]?=some T->vs[j]?=some v->Value.okWide P W r base T v)->∃ x:DK (us.map .v),W2 W.heap (λ b=>b<W.heap.size) (us.map .v) vs x []/\ds.length=ts.length/\Ei us x<=yz ds
 | [],[],_,vs,ds,ps,base,r,h,_=>by
  obtain ⟨rfl,rfl,rfl⟩:=trodAll_nil h;exact ⟨(),⟨rfl,rfl⟩,rfl,aAk _⟩
 | [],_::_,h,_,_,_,_,_,_,_=>by cases h
 | _::_,[],h,_,_,_,_,_,_,_=>by cases h
 | T::ts,t::us,di,vs,ds,ps,base,r,h,aH=>by
  simp only [zJ,aAa] at di;obtain ⟨⟨⟨⟨h1,h2⟩,_⟩,_⟩,h5⟩:=di;obtain ⟨v,vs',d,ds',p,q,rfl,rfl,rfl,⟨fuel,hv⟩,hr⟩:=trodAll_cons h;obtain ⟨y,hy,hb⟩:=(b1w t h2).1 h1 hv;obtain ⟨x,hx,hl,fI⟩:=TV h5 hr (λ j T v hT hv=>aH (j+1) T v (by simpa using hT) (by simpa using hv));exact ⟨(y,x),⟨v,vs',[],[],rfl,rfl,⟨rfl,_,b9o h1 (aH 0 T v rfl rfl),hy⟩,hx⟩,by simp [hl],by simp only [Ei,yz]; exact Nat.add_le_add hb fI⟩
theorem Vh (hl:laidOutB P=true) (hb:Below W.heap.size W W'):∀ {ts:List TypeId} {us:List Ty},zJ P ts us=true->∀ {vs:List Value} {ds:List (DataW X)} {ps:List MemPlace},DataW.TrodAll enc P W 0 (λ _=>true) true ts vs ds ps ->
  (∀ p∈ps,p.block<W.heap.size)->(∀ p∈ps,sp p.block=true)->DataW.TrodAll enc P W' 0 sp true ts vs ds ps
 | [],[],_,vs,ds,ps,h,_,_=>by
  obtain ⟨rfl,rfl,rfl⟩:=trodAll_nil h;rfl
 | [],_::_,h,_,_,_,_,_,_=>by cases h
 | _::_,[],h,_,_,_,_,_,_=>by cases h
 | T::ts,t::us,di,vs,ds,ps,h,bf,fK=>by
  simp only [zJ,aAa] at di;obtain ⟨⟨⟨⟨_,_⟩,h3⟩,h4⟩,h5⟩:=di;obtain ⟨v,vs',d,ds',p,q,rfl,rfl,rfl,hv,hr⟩:=trodAll_cons h;refine trodAll_cons_mk (WideElems.Trod_stays hl h3 (of_decide_eq_true h4) hv (λ x hx=>hb.same (bf x (by simp [hx]))) (λ x hx=>fK x (by simp [hx]))) ?_;exact Vh hl hb h5 hr (λ x hx=>bf x (by simp [hx])) (λ x hx=>fK x (by simp [hx]))
def GO (us:List Ty) (pre:DK (us.map .v)->Prop):r9:={ ps:=us.map .v,rs:=[.bool],pre:=pre,fn:=λ _=>(true,()),out:=λ _=>Nz us }
where Nz:(us:List Ty)->DL (F9 (us.map .v))
 | []=>()
 | _::us=>Nz us
theorem PI:∀ us:List Ty,(us.map PK.v).any PK.lnk=false
 | []=>rfl
 | _::us=>PI us
theorem c4n {C:Checked} {f:FuncId} {fn:Func} {s:ChangeSpec} {apart fresh handsOn again:Bool} {us:List Ty} {tb:TypeId} {pre:DK (us.map .v)->Prop}
  (hl:laidOutB C.prog=true) (di:zJ C.prog fn.params.toList us=true) (hY:s.vars=[]) (hs:∀ ds:List (DataW X),ds.length=fn.params.toList.length->s.fn X ds={ results:=[.lit (.bool true)],args:=ds })
  (eO:fn.resultTypes=#[tb]) (oz:C.prog.underlying tb=some .bool) (hv:(GO us pre).Valid C.prog f)
  {W:World} (ed:vI C.prog W (λ b=>b<W.heap.size)) {base:Nat} {args:Array Value} {ds gs:List (DataW X)} {before:List MemPlace} {rr:Go.Reach} (bc:∀ x,Ei us x<=yz ds->pre x)
  (dH:∀ (j:Nat) t v,fn.params[j]?=some t->args[j]?=some v->Value.okWide C.prog W rr base t v) (hW:DataW.Whole enc C.prog fn.params.toList s.vars apart W args.toList ds gs before) :
  Calls C.prog f args W λ e W'=>∃ v,e=.returned v/\s.post enc C.prog fn apart fresh handsOn again W args v W':=by
 have bf:=DataW.Whole.lt hW;have rV:=hW;obtain ⟨p,q,hA,hV,rfl,hz,hn⟩:=hW;rw [hY] at hV;obtain ⟨rfl,rfl⟩:=trodVars_none hV;simp only [aAv] at bf hz hn rV;obtain ⟨x,hx,hlen,lQ⟩:=TV di hA (λ j T v hT hv=>dH j T v (by simpa using hT) (by simpa using hv));have hc:=hv.run W (λ b=>b<W.heap.size) args.toList x [] (λ _ h=>h) ed (bc x lQ) hx (Ds (PI us)) aAy (by simp);refine Calls.mono (by simpa using hc) ?_;rintro e w' ⟨us',O,Lo,S',rfl,bn,_,_,⟨v,us2,O1,O2,cs,rfl,rfl,rfl,hR,fJ⟩,_,_,_⟩;have hb:RowKit.Below W.heap.size W w':=⟨bn.os,bn.tape.1,bn.out,bn.size,λ k hk=>bn.frame k hk (by simp)⟩;obtain ⟨rfl,rfl⟩:=fJ;obtain ⟨_,rfl⟩:=hR;have pv:xl [s5 .bool [.bool ((GO us pre).fn x).1]]=.bool true:=rfl;rw [pv];have jb:=hs ds hlen;have aF:∀ sp:Nat->Bool,(∀ x∈p,sp x.block=true)->DataW.TrodAll enc C.prog w' 0 sp true fn.params.toList args.toList ds p:=λ sp fK=>Vh hl hb di hA bf fK;have cv:∀ (b:Nat) (sp:Nat->Bool) (hd:Bool),DataW.TrodAll enc C.prog w' b sp hd fn.resultTypes.toList ((Value.bool true).resultList fn.resultTypes.size) [.lit (.bool true)] []:=by
  intro b sp hd;rw [eO];exact trodAll_cons_mk (shut_bool oz _) trodAll_mk0
 have jl:∀ sp:Nat->Bool,DataW.TrodVars enc C.prog w' sp s.vars [] []:=by intro sp; rw [hY]; rfl
 have hold:∀ x∈p,(λ b=>decide (b<W.heap.size)) x.block=true:=λ x hx=>by simpa using bf x hx
 refine ⟨_,rfl,ds,[],p,[],p,[],rV,?_,?_,?_,?_,?_⟩
 ·rw [aAv,jb]; exact cv _ _ _
 ·rw [aAv,jb]; exact aF _ hold
 ·rw [aAv,jb]; exact jl _
 ·exact hb.frame _
 ·intro _
  refine ⟨ok_one eO rfl (okWide_bool_mk oz _),.lit (.bool true)::ds,[],p,⟨[]++p,[],trodAll_append (aF _ (λ _ _=>rfl)) (cv _ _ _),jl _,by simp,?_,?_⟩,λ x hx _=>by simpa using hx⟩
  ·intro b off hp
   rw [hb.frozen (bf _ hp)];exact hz b off hp
  ·exact hn
end
end Go.Ex
