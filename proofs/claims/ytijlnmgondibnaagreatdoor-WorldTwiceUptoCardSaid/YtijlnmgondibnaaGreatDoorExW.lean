import Derived.Test.YtijlnmgondibnaaGreatDoorExK8
import Derived.WalkKit
import Derived.ProofKit
import Derived.OpenShut
import Derived.JoinedCond
set_option linter.unusedVariables false
set_option linter.unusedSimpArgs false
set_option linter.unusedSectionVars false
namespace Go.Ex
section
variable {E:Env} {B:F3} {S S':Nat->Prop} {ι:Ix} {s:St} {a:Act} {w:World} {hp:List (Nat×i7)} {H H':Array Go.Obj}
def At (P:Program) (fn:Func) (R:Ending->World->Prop) (k:List Item) (a:Act) (w:World):Prop :=
 ∀ (b:Frame) (cs:List Frame),∃ (e:Exit) (a':Act) (w':World),bodyPost P fn R e a' w'/\Arrives P (lone (b.at a k) cs w) b [] cs e a' w'
section at_
variable {P:Program} {fn:Func} {R:Ending->World->Prop} {k k':List Item}
theorem At.step (hs:∀ (b:Frame) (cs:List Frame),step P (lone (b.at a k) cs w)=.next (lone (b.at a k') cs w)) (h:At P fn R k' a w):At P fn R k a w :=
 λ b cs=>let ⟨e,a',w',q,r⟩:=h b cs; ⟨e,a',w',q,.of_steps (.one (hs b cs)) r⟩
theorem At.region {id:Nat} {ops:Array Oper} {d:Bool} (h:(Code.region id ops d).wp P (λ e a w=>e=.normal/\At P fn R k a w) a w):At P fn R (.code (.region id ops d)::k) a w:=by
 intro b cs;obtain ⟨e,a',w',⟨rfl,h2⟩,eT⟩:=h b k cs;obtain ⟨e,a'',w'',q,r⟩:=h2 b cs;exact ⟨e,a'',w'',q,.of_steps eT r⟩
theorem At.done (h:bodyPost P fn R .normal a w):At P fn R [] a w:=λ _ _=>⟨.normal,a,w,h,Steps.refl _ _⟩
theorem At.ret (h:bodyPost P fn R .ret a w):At P fn R (.code .ret::k) a w:=λ _ _=>⟨.ret,a,w,h,_,.one step_ret⟩
theorem b8C {f:FuncId} {c:Code} {args:Array Value} (hf:P.funcs[f]?=some fn) (hb:fn.body=some c)
  (h:At P fn R [.code c] { tmps:=args++Array.replicate (fn.ntmps - args.size) undef,defers:=[] } w):Calls P f args w R:=by
 intro cs
 let b:Frame:={ (default:Frame) with fn:=f,kind:=.normal }
 have lA:Frame.enter P f args .normal=b.at { tmps:=args++Array.replicate (fn.ntmps - args.size) undef,defers:=[] } [.code c]:=by
  simp [Frame.enter,Frame.at,hf,hb,b]
 obtain ⟨e,a',w',hq,eT⟩:=h b cs;rw [<- lA] at eT;cases e with
 | normal =>
  obtain ⟨hd,v,hr,hR⟩:=hq;exact ⟨.returned v,w',_,hR,Steps.trans eT (.one step_end),rfl,rfl,hd,rfl,fn,hf,hr⟩
 | ret =>
  obtain ⟨hd,v,hr,hR⟩:=hq;obtain ⟨todo,hs⟩:=eT;exact ⟨.returned v,w',_,hR,hs,rfl,rfl,hd,rfl,fn,hf,hr⟩
 | panic chain =>
  obtain ⟨hd,hR⟩:=hq;obtain ⟨todo,hs⟩:=eT;exact ⟨.panicked chain,w',_,hR,hs,rfl,rfl,hd,fn,hf⟩
 | exit id=>exact hq.elim
 | goto l=>exact hq.elim
 | outgrown=>exact ⟨.outgrown,w',b,hq,eT.resolve_left (by simp [b]),rfl,trivial⟩
end at_
theorem RS.Q6 (live:List Nat) (s0:St):∀ {l:List (Nat×i7)} {s:St},RS B S ι s a w->RS B S ι (Q6 live s0 l s) a w
 | [],_,h=>h
 | (i,_)::l,s,h=>by
  simp only [Ex.Q6]
  split
  ·exact RS.Q6 live s0 h
  ·rename_i hp
   simp only [Bool.or_eq_false_iff] at hp;exact RS.Q6 live s0 (h.drop hp.1)
theorem RS.Hf (h:RS B S ι s a w) {m d:Nat} (hf:s.fresh d=true) {t:Ty} {x:t.den} {O:List Nat} {cs:List Value} (hv:a.tmps.getD m (B.gd m)=s5 t cs) (hR:i6 w.heap S t O cs x) (hF:G5 B S ι s.hp w O) :
  ∃ ι',RS B S ι' { s.y9 d (.own t x) with fr:=Ex.put m (.at_ d []) s.fr } a w :=
 ⟨_,(h.hold hf hR hF).slot (t:=m) (v:=.at_ d []) (by rw [hv]; exact Af hR.length)⟩
def zh (ι ι':Ix) (i j:Nat):Prop:=ι'.root j=ι.root i/\ι'.cells j=ι.cells i/\ι'.own j=ι.own i
theorem zh.place {ι':Ix} {i j:Nat} (h:zh ι ι' i j) {H:Array Go.Obj} {e:i7} {p:List Step}:Place H ι' j e p=Place H ι i e p:=by
 obtain ⟨h1,h2,h3⟩:=h;cases e<;>simp only [Place,VH,VR,h1,h2]
theorem zh.loc {ι':Ix} {i j:Nat} (h:zh ι ι' i j) {H:Array Go.Obj} {e:i7} {p:List Step}:Loc H ι' j e p=Loc H ι i e p:=by
 simp only [Loc,h.place]
theorem zh.Bu {ι':Ix} {i j:Nat} (h:zh ι ι' i j) {H:Array Go.Obj} {e:i7} {p:List Step} {u:Ty} {cs:List Value}:Cells H ι' j e p u cs↔Cells H ι i e p u cs:=by
 have hv:VH H ι' j e=VH H ι i e:=by obtain ⟨h1,h2,h3⟩:=h; cases e<;>simp only [VH,h2]
 simp only [Cells,h.place,hv]
theorem RS.ren (h:RS B S ι s a w) {i j:Nat} (hi:pinned i=false) {u:Ty} {x:u.den} (h1:look i s.hp=some (.own u x)) (hf:s.fresh j=true) :
  ∃ ι',RS B S ι' { fr:=mapA (AV.ren i j) s.fr,hp:=Ex.put j (.own u x) (del i s.hp) } a w:=by
 obtain ⟨f1,f2⟩:=EW hf;have bS:i≠j:=by rintro rfl; rw [f1] at h1; cases h1
 let ι':Ix:={ root:=λ k=>if k=j then ι.root i else ι.root k,cells:=λ k=>if k=j then ι.cells i else ι.cells k,own:=λ k=>if k=j then ι.own i else ι.own k }
 have lT:zh ι ι' i j:=⟨by simp [ι'],by simp [ι'],by simp [ι']⟩;have ot:∀ k,k≠j->F8 ι ι' k:=λ k hk=>⟨by simp [ι',hk],by simp [ι',hk],by simp [ι',hk]⟩;have hF:G5 B S ι (St.B0 [i] s).hp w (ι.own i):=by
  obtain ⟨⟨O,hO,hR⟩,aN⟩:=(h.hs.ob i _ h1:OB w.heap S ι i (.own u x));exact G5.B0 h.hs aN (λ b hb=>⟨i,_,by simp,h1,hb⟩)
 have aX:OB w.heap S ι' j (.own u x):=by
  obtain ⟨⟨O,hO,hR⟩,aN⟩:=(h.hs.ob i _ h1:OB w.heap S ι i (.own u x));obtain ⟨e1,e2,e3⟩:=lT;exact ⟨⟨O,by rw [e3]; exact hO,by rw [e2]; exact hR⟩,by rw [e3]; exact aN⟩
 have hd:=h.hs.drop hi;refine ⟨ι',⟨hd.add (d:=j) (e:=.own u x) (ι':=ι') (O:=ι.own i) ?_ ot aX ?_ hF,h.dfr,h.sz,?_⟩⟩
 ·rw [M1]; split<;>first|rfl|exact f1
 ·intro b hb
  have:ι'.own j=ι.own i:=lT.2.2;show b∈ι.own i;rw [<- this]; exact hb
 ·intro t v hv
  simp only [P9,Option.map_eq_some_iff] at hv;obtain ⟨v0,fh,rfl⟩:=hv;have oh:=f2 t v0 fh;refine VX.map (λ _ _=>rfl) (λ _ h=>h) (λ q vs hq hm hv=>?_) (h.fr t v0 fh);have dq:∀ k,q.j5 k=true->k≠i->look k (Ex.put j (.own u x) (del i s.hp))=look k s.hp:=by
   intro k hk gJ;have nu:k≠j:=by rintro rfl; rw [hm k hk] at oh; cases oh
   rw [o7,if_neg nu,M1,if_neg gJ]
  have du:look j (Ex.put j (i7.own u x) (del i s.hp))=some (.own u x):=by rw [o7,if_pos rfl]
  dsimp only
  split
  ·rename_i ca
   refine VX.other (λ k hk=>dq k hk ?_) (λ k hk=>ot k ?_) hv
   ·rintro rfl; rw [hk] at ca; cases ca
   ·rintro rfl; rw [hm k hk] at oh; cases oh
  ·rename_i ca
   split
   ·rename_i k p
    have:=Nat.eq_of_beq_eq_true ca;subst this;obtain ⟨e,b,off,k1,k2,k3,k4⟩:=hv;rw [h1] at k1; cases k1;exact ⟨_,b,off,du,k2,lT.loc.trans k3,k4⟩
   ·rename_i k p
    have:=Nat.eq_of_beq_eq_true ca;subst this;obtain ⟨e,u',y,cs,k1,k2,k3,k4,k5⟩:=hv;rw [h1] at k1; cases k1;exact ⟨_,u',y,cs,du,k2,k3,lT.Bu.2 k4,k5⟩
   ·rename_i k p lo cY
    have:=Nat.eq_of_beq_eq_true ca;subst this;obtain ⟨e,v,k1,k2,k3,k4,k5,k6⟩:=hv;rw [h1] at k1; cases k1;refine ⟨_,v,du,k2,k3,k4,k5,?_⟩;rcases k6 with ⟨t',l,A,cap,q1,q2,q3,q4⟩|⟨n,t',l,b,off,q1,q2,q3,q4⟩
    ·exact .inl ⟨t',l,A,cap,q1,q2,lT.Bu.2 q3,q4⟩
    ·exact .inr ⟨n,t',l,b,off,q1,q2,lT.loc.trans q3,q4⟩
   ·obtain ⟨y,e⟩:=VX.one hq hv
    exact ⟨y,e⟩
theorem RS.settle (h:RS B S ι s a w) (m:Nat) (t:Ty):∃ ι',RS B S ι' (settle m t s) a w:=by
 have hg:=h.get m;unfold Ex.settle
 split
 ·rename_i hm
  rw [hm] at hg;have hv:a.tmps.getD m (B.gd m)=Value.slice none 0 0:=by
   have:[a.tmps.getD m (B.gd m)]=[Value.slice none 0 0]:=hg;simpa using this
  split
  ·rename_i u hf
   exact h.Hf hf (t:=.d8 true u) (x:=([]:List u.den)) (O:=[]) (cs:=[.slice none 0 0]) hv (.inl ⟨rfl,⟨none,0,rfl,λ _=>rfl⟩,rfl⟩) G5.nil
  ·exact ⟨ι,h⟩
 ·rename_i i hm
  split
  ·rename_i u x aX
   split
   ·exact ⟨ι,h⟩
   ·rename_i hc
    simp only [Bool.or_eq_false_iff,Bool.not_eq_false'] at hc;exact h.ren hc.1 aX hc.2
  ·exact ⟨ι,h⟩
 ·rename_i i lo hi hm
  rw [hm] at hg
  split
  ·rename_i u x g cW
   split
   ·exact ⟨ι,h⟩
   ·rename_i hc
    simp only [Bool.or_eq_false_iff,Bool.not_eq_false'] at hc;obtain ⟨O,cs,k1,k2,k3,k4⟩:=Ax h.hs cW hg;have ew:g=[i]:=by
     simp only [AV.vg] at cW;split at cW<;>cases cW;rfl
    subst ew;exact (h.drop hc.1).Hf hc.2 k1 k2 (G5.B0 h.hs k3 k4)
  ·exact ⟨ι,h⟩
 ·rename_i u x hm
  rw [hm] at hg
  split
  ·rename_i hc
   simp only [Bool.and_eq_true] at hc;obtain ⟨cs,e,hR⟩:=hg;exact h.Hf hc.2 (by simpa using e) hR G5.nil
  ·exact ⟨ι,h⟩
 ·exact ⟨ι,h⟩
theorem RS.Y0:∀ {l:List (Nat×Option Ty)} {ι:Ix} {s:St},RS B S ι s a w->∃ ι',RS B S ι' (Y0 l s) a w
 | [],ι,s,h=>⟨ι,h⟩
 | (_,none)::l,ι,s,h=>RS.Y0 (l:=l) h
 | (m,some t)::l,ι,s,h=>by
  obtain ⟨ι',h'⟩:=h.settle m t;exact RS.Y0 (l:=l) h'
theorem RS.canon (h:RS B S ι s a w) (x:List (Nat×Option Ty)):∃ ι',RS B S ι' (canon x s) a w:=by
 have h1:RS B S ι (Ex.Q6 (x.map (·.1)) s s.hp s) a w:=RS.Q6 (x.map (·.1)) s h;obtain ⟨ι',h2⟩:=RS.Y0 (l:=x) h1;have h3:=RS.Q6 (x.map (·.1)) (Ex.Y0 x (Ex.Q6 (x.map (·.1)) s s.hp s)) (l:=(Ex.Y0 x (Ex.Q6 (x.map (·.1)) s s.hp s)).hp) h2;refine ⟨ι',h3.hs,h3.dfr,h3.sz,?_⟩;intro t v hv;simp only [Ex.canon] at hv;generalize hs:Ex.Q6 (x.map (·.1)) (Ex.Y0 x (Ex.Q6 (x.map (·.1)) s s.hp s)) (Ex.Y0 x (Ex.Q6 (x.map (·.1)) s s.hp s)).hp (Ex.Y0 x (Ex.Q6 (x.map (·.1)) s s.hp s))=s1 at hv h3;have:v=s1.get t:=by
  generalize x.map (·.1)=ts at hv;clear h3 hs;revert hv
  induction ts with
  | nil=>intro hv; cases hv
  | cons t' l ih =>
   intro hv;simp only [List.map_cons,look] at hv;cases hb:Nat.beq t t' with
   | true =>
    rw [hb] at hv;have:=Nat.eq_of_beq_eq_true hb;subst this;cases hv; rfl
   | false=>rw [hb] at hv; exact ih hv
 rw [this];have:=h3.get t;simp only [Ex.canon,hs];exact this
theorem Kr (hE:D9 E B) (h:RS B S ι s a w):∀ {rs:List ResultVar} {l:AV},ye E s rs=some l ->
  ∃ us,(rs.mapM λ r=>(match r with
   | .tmp t=>pure (a.tmps.getD t undef)
   | .cell c t=>do loadVar t (<- asAddr (a.tmps.getD c undef)):Sem Value)).run E.P w=.ok us w/\VX w.heap S ι s.hp l us
 | [],l,hl=>by
  simp only [ye,Option.some.injEq] at hl;subst hl;exact ⟨[],rfl,rfl⟩
 | .tmp t::rs,l,hl=>by
  simp only [ye] at hl;split at hl
  ·rename_i v hv
   cases hl;obtain ⟨us,h1,h2⟩:=Kr hE h hv;exact ⟨a.tmps.getD t undef::us,by simp only [List.mapM_cons,Sem.run_bind,Sem.run_pure,Result.andThen,h1],_,us,rfl,h.ev (.tmp t),h2⟩
  ·cases hl
 | .cell c T::rs,l,hl=>by
  simp only [ye] at hl;split at hl
  ·rename_i i p hc
   have hv:=h.ev (.tmp c);rw [hc] at hv;obtain ⟨e,b,off,k1,k2,k3,k4⟩:=hv;have k4:a.tmps.getD c undef=.pointer (some ⟨b,off,none⟩):=by
    have k5:[a.tmps.getD c undef]=[.pointer (some ⟨b,off,none⟩)]:=k4;exact List.head_eq_of_cons_eq k5
   split at hl
   ·rename_i u y cV
    have hg:=I5 k1 cV;split at hl
    ·rename_i bD
     split at hl
     ·rename_i v hv
      obtain ⟨us,h1,h2⟩:=Kr hE h hv;obtain ⟨O2,m1,mn,m2,m3,m4,m5⟩:=N5 (L8 k3) (h.hs.ob i _ k1) h.hs.slt k2 hg k3;have sS:(do loadVar T (<- asAddr (a.tmps.getD c undef)):Sem Value).run E.P w=.ok (s5 u (e8 w.heap b off u.size)) w:=by
       rw [k4]; simp [asAddr,CU (E1 hE bD) m2]
      refine ⟨s5 u (e8 w.heap b off u.size)::us,?_,?_⟩
      ·simp only [List.mapM_cons]
       rw [Sem.run_bind,sS];simp only [Result.andThen,Sem.run_bind,Sem.run_pure,h1]
      ·split at hl
       ·rename_i hs
        cases hl;have:=m2.O7 hs;subst this;exact ⟨_,us,rfl,⟨_,rfl,m2⟩,h2⟩
       ·cases hl
        obtain ⟨r3,r4⟩:=D4 k3;exact ⟨_,us,rfl,⟨_,u,y,_,k1,k2,hg,⟨b,off,r3,by rw [l6 (G8 r4)]⟩,rfl⟩,h2⟩
     ·cases hl
    ·cases hl
   ·cases hl
  ·cases hl
theorem b7Z (hE:D9 E B) (h:RS B S ι s a w) {fn:Func} (eN:fn.results.toList=E.res) {l:AV} (hl:ye E s E.res=some l) :
  ∃ us,(results fn a.tmps).run E.P w=.ok (wE us) w/\VX w.heap S ι s.hp l us:=by
 obtain ⟨us,h1,h2⟩:=Kr hE h hl;refine ⟨us,?_,h2⟩;rw [<- eN] at h1;have:(fn.results.mapM λ r=>(match r with
   | .tmp t=>pure (a.tmps.getD t undef)
   | .cell c t=>do loadVar t (<- asAddr (a.tmps.getD c undef)):Sem Value)).run E.P w=.ok us.toArray w:=by
  rw [Array.mapM_eq_mapM_toList,Sem.run_map,h1]; rfl
 simp only [results];rw [Sem.run_bind];refine (congrArg (λ r:Result (Array Value)=>r.andThen λ vs w'=>Sem.run E.P (pure (if h:vs.size=1 then vs[0] else Value.tuple vs)) w') this).trans ?_;simp only [Result.andThen,Sem.run_pure]
 match us with
 | []=>rfl
 | [v]=>rfl
 | v::v2::l=>rfl
theorem c0l (h:HS B S ι s.hp w) {t:Ty} {used ff:List Nat} {av:AV} {x:t.den} {v:Value} (hr:HW s t used av=some (x,ff)) (hv:VX w.heap S ι s.hp av [v]) :
  ∃ O cs,v=s5 t cs/\i6 w.heap S t O cs x/\O.Nodup/\(∀ b∈O,∃ i e,i∈ff/\i∉used/\pinned i=false/\look i s.hp=some e/\b∈l7 ι i e)/\∀ i∈used,i∈ff:=by
 unfold HW at hr;split at hr
 ·rename_i i
  split at hr
  ·cases hr
  ·rename_i hc
   simp only [Bool.or_eq_false_iff] at hc;obtain ⟨dP,iA⟩:=hc;have kW:i∉used:=by intro hm; simp [hm] at dP
   obtain ⟨e,u,y,cs,h1,h2,h3,h4,h5⟩:=hv;have key:∀ {e0:i7},s.obj i=some e0->(hu:e0.ty=t)->∀ {x},x=X3 hu e0.x->∃ O cs,v=s5 t cs/\i6 w.heap S t O cs x/\O.Nodup/\(∀ b∈O,∃ j e,j∈i::used/\j∉used/\pinned j=false/\look j s.hp=some e/\b∈l7 ι j e)/\∀ j∈used,j∈i::used:=by
    rintro e0 aX rfl x rfl;obtain rfl:=wN h1 aX;rw [C9] at h3; cases h3;obtain ⟨O2,m1,m2,m3⟩:=H4 h h1 h2 C9 h4;exact ⟨O2,cs,by simpa using h5,m3,m2,λ b hb=>⟨i,_,by simp,kW,iA,h1,J1 (m1 b hb)⟩,λ j hj=>by simp [hj]⟩
   split at hr
   ·rename_i u' x' aX
    split at hr
    ·rename_i hu; cases hr; exact key (e0:=.var u' x') aX hu rfl
    ·cases hr
   ·rename_i u' x' aX
    split at hr
    ·rename_i hu; cases hr; exact key (e0:=.own u' x') aX hu rfl
    ·cases hr
   ·cases hr
 ·rename_i i lo hi
  split at hr
  ·cases hr
  ·rename_i hc
   simp only [Bool.or_eq_false_iff] at hc;obtain ⟨dP,iA⟩:=hc;have kW:i∉used:=by intro hm; simp [hm] at dP
   split at hr
   ·rename_i u x' g cW
    split at hr
    ·rename_i hu
     cases hr;subst hu;obtain ⟨O,cs,k1,k2,k3,k4⟩:=Ax h cW hv;have ew:g=[i]:=by
      simp only [AV.vg] at cW;split at cW<;>cases cW;rfl
     subst ew;refine ⟨O,cs,k1,k2,k3,λ b hb=>?_,λ j hj=>by simp [hj]⟩;obtain ⟨j,e,j1,j2,j3⟩:=k4 b hb;simp only [List.mem_cons,List.not_mem_nil,or_false] at j1;subst j1;exact ⟨j,e,by simp,kW,iA,j2,j3⟩
    ·cases hr
   ·cases hr
 ·rename_i i
  split at hr
  ·cases hr
  ·rename_i hc
   simp only [Bool.or_eq_false_iff] at hc;obtain ⟨dP,iA⟩:=hc;have kW:i∉used:=by intro hm; simp [hm] at dP
   split at hr
   ·rename_i u y aX
    split at hr
    ·rename_i hu
     subst hu;cases hr;obtain ⟨e,b,off,h1,h2,h3,h4⟩:=hv;obtain rfl:=wN h1 aX;obtain ⟨⟨O,hO,hR⟩,hf,aN⟩:=h.ob i _ h1;have hl:(ι.root i).1=b/\(ι.root i).2=off:=by
      have:=(D4 h3).1;simp only [Place,C3,VR,Option.some.injEq,Prod.mk.injEq] at this;exact this
     obtain ⟨rfl,rfl⟩:=hl;refine ⟨(ι.root i).1::O,[.pointer (some ⟨(ι.root i).1,(ι.root i).2,none⟩)],by simpa [s5,Ty.agg] using h4,.inr ⟨_,_,_,O,rfl,rfl,hf.x8,hR,rfl,hf⟩,((hO.cons _).nodup_iff).2 aN,λ c hc=>⟨i,_,by simp,kW,iA,h1,?_⟩,λ j hj=>by simp [hj]⟩;simp only [l7];exact ((hO.cons _).mem_iff).1 hc
    ·cases hr
   ·cases hr
 ·rename_i f i
  split at hr
  ·cases hr
  ·rename_i hc
   simp only [Bool.or_eq_false_iff] at hc;obtain ⟨dP,iA⟩:=hc;have kW:i∉used:=by intro hm; simp [hm] at dP
   split at hr
   ·rename_i u y aX
    split at hr
    ·rename_i hu
     subst hu;cases hr;obtain ⟨us,fg,v0,us0,rfl,⟨e,b,off,h1,h2,h3,h4⟩,lR⟩:=hv;have lR:us0=[]:=lR;subst lR;have h4:v0=.pointer (some ⟨b,off,none⟩):=by simpa using h4
     subst h4;obtain rfl:=wN h1 aX;obtain ⟨⟨O,hO,hR⟩,hf,aN⟩:=h.ob i _ h1;have hl:(ι.root i).1=b/\(ι.root i).2=off:=by
      have:=(D4 h3).1;simp only [Place,C3,VR,Option.some.injEq,Prod.mk.injEq] at this;exact this
     obtain ⟨rfl,rfl⟩:=hl;refine ⟨(ι.root i).1::O,[wY (some f) ⟨(ι.root i).1,(ι.root i).2,none⟩],by simpa [s5,Ty.agg,wY] using fg,.inr ⟨_,_,_,O,rfl,rfl,hf.x8,hR,rfl,hf⟩,((hO.cons _).nodup_iff).2 aN,λ c hc=>⟨i,_,by simp,kW,iA,h1,?_⟩,λ j hj=>by simp [hj]⟩;simp only [l7];exact ((hO.cons _).mem_iff).1 hc
    ·cases hr
   ·cases hr
 ·split at hr
  ·cases hr
   have hv:v=Value.pointer none:=by
    have:[v]=[Value.pointer none]:=hv;simpa using this
   subst hv;exact ⟨[],[.pointer none],by simp [s5,Ty.agg],.inl ⟨rfl,rfl,rfl⟩,List.nodup_nil,by simp,λ _ h=>h⟩
  ·cases hr
 ·split at hr
  ·rename_i x' hx
   cases hr;obtain ⟨cs,e,hR⟩:=HN hx hv;exact ⟨[],cs,e,hR,List.nodup_nil,by simp,λ _ h=>h⟩
  ·cases hr
theorem Sw (h:HS B S ι s.hp w):∀ {rs:List Ty} {used:List Nat} {l:AV} {y:DL rs} {us:List Value},AX s rs used l=some y->VX w.heap S ι s.hp l us ->
  ∃ O,M4 w.heap S rs O us y/\O.Nodup/\∀ b∈O,∃ i e,i∉used/\pinned i=false/\look i s.hp=some e/\b∈l7 ι i e
 | [],used,l,y,us,hr,hv=>by
  cases l<;>simp only [AX] at hr<;>first|cases hr|skip
  exact ⟨[],⟨rfl,hv⟩,List.nodup_nil,by simp⟩
 | t::ts,used,l,y,us,hr,hv=>by
  cases l<;>simp only [AX] at hr<;>first|cases hr|skip
  rename_i av bv;obtain ⟨v,us',rfl,ha,hb⟩:=hv;split at hr
  ·rename_i x ff h1
   split at hr
   ·rename_i y' h2
    cases hr;obtain ⟨O1,cs,k1,k2,k3,k4,k5⟩:=c0l h h1 ha;obtain ⟨O2,m1,m2,m3⟩:=Sw h h2 hb;refine ⟨O1++O2,⟨v,us',O1,O2,cs,rfl,rfl,k1,k2,m1⟩,List.nodup_append.2 ⟨k3,m2,?_⟩,?_⟩
    ·rintro c hc d hd rfl
     obtain ⟨i,e,i1,_,_,i2,i3⟩:=k4 c hc;obtain ⟨j,e',j1,_,j2,j3⟩:=m3 c hd;exact h.dj i j e e' i2 j2 (by rintro rfl; exact j1 i1) c i3 j3
    ·intro c hc
     rcases List.mem_append.1 hc with hc|hc
     ·obtain ⟨i,e,_,i1,i4,i2,i3⟩:=k4 c hc
      exact ⟨i,e,i1,i4,i2,i3⟩
     ·obtain ⟨j,e',j1,j4,j2,j3⟩:=m3 c hc
      exact ⟨j,e',λ hj=>j1 (k5 j hj),j4,j2,j3⟩
   ·cases hr
  ·cases hr
def N1:(ks:List PK)->List Value->Nat->List (Nat×(Nat×Nat)×List Value)
 | .rw _::ks,v::vs,i=>(match v with
  | .pointer (some a)=>(2000000+i,(a.block,a.off),[])
  | _=>(2000000+i,(0,0),[]))::N1 ks vs (i+1)
 | .mu _::ks,v::vs,i=>(2000000+i,(0,0),[v])::N1 ks vs (i+1)
 | _::ks,_::vs,i=>N1 ks vs (i+1)
 | _,_,_=>[]
theorem Fp (h:HS B S ι s.hp w) {H0:Array Go.Obj} {S0:Nat->Prop}:∀ {ks:List PK} {vs:List Value} {x:DK ks} {L0:List Nat} {j:Nat} {z:DL (F6 ks)},V0 H0 S0 ks vs x L0->(∀ q∈N1 ks vs j,q∈B.pins)->vq s ks j=some z ->
  ∃ Lo,H3 w.heap S ks vs z Lo/\Lo.Nodup/\∀ b∈Lo,∃ i e,2000000+j<=i/\look i s.hp=some e/\b∈l7 ι i e
 | [],vs,x,L0,j,z,hK,_,hz=>⟨[],⟨hK.1,rfl⟩,List.nodup_nil,by simp⟩
 | k::ks,vs,x,L0,j,z,⟨v,us,L1,L2,e1,e2,hk,hK⟩,hp,hz=>by
  subst e1 e2;have plain:∀ {z':DL (F6 ks)},(∀ q∈N1 ks us (j+1),q∈B.pins)->vq s ks (j+1)=some z'->∃ Lo,H3 w.heap S ks us z' Lo/\Lo.Nodup/\∀ b∈Lo,∃ i e,2000000+j<=i/\look i s.hp=some e/\b∈l7 ι i e:=by
   intro z' hp hz;obtain ⟨Lo,k1,k2,k3⟩:=Fp h hK hp hz;exact ⟨Lo,k1,k2,λ b hb=>by obtain ⟨i,e,i1,i2,i3⟩:=k3 b hb; exact ⟨i,e,by omega,i2,i3⟩⟩
  have join:∀ {L1 Lo:List Nat} {e0:i7},look (2000000+j) s.hp=some e0->L1.Nodup->(∀ b∈L1,b∈l7 ι (2000000+j) e0)->Lo.Nodup->(∀ b∈Lo,∃ i e,2000000+(j+1)<=i/\look i s.hp=some e/\b∈l7 ι i e) ->
    (L1++Lo).Nodup/\∀ b∈L1++Lo,∃ i e,2000000+j<=i/\look i s.hp=some e/\b∈l7 ι i e:=by
   intro L1 Lo e0 h1 n1 m1 n2 m2;refine ⟨List.nodup_append.2 ⟨n1,n2,?_⟩,?_⟩
   ·rintro c hc d hd rfl
    obtain ⟨i,e,i1,i2,i3⟩:=m2 c hd;exact h.dj (2000000+j) i e0 e h1 i2 (by omega) c (m1 c hc) i3
   ·intro b hb
    rcases List.mem_append.1 hb with hb|hb
    ·exact ⟨_,e0,Nat.le_refl _,h1,m1 b hb⟩
    ·obtain ⟨i,e,i1,i2,i3⟩:=m2 b hb; exact ⟨i,e,by omega,i2,i3⟩
  cases k with
  | v t=>obtain ⟨Lo,k1,k2⟩:=plain hp hz; exact ⟨Lo,⟨v,us,rfl,k1⟩,k2⟩
  | rd t=>obtain ⟨Lo,k1,k2⟩:=plain hp hz; exact ⟨Lo,⟨v,us,rfl,k1⟩,k2⟩
  | D3 f ts=>obtain ⟨Lo,k1,k2⟩:=plain hp hz; exact ⟨Lo,⟨v,us,rfl,k1⟩,k2⟩
  | W3=>obtain ⟨Lo,k1,k2⟩:=plain hp hz; exact ⟨Lo,⟨v,us,rfl,k1⟩,k2⟩
  | rcs f n=>obtain ⟨Lo,k1,k2⟩:=plain hp hz; exact ⟨Lo,⟨v,us,rfl,k1⟩,k2⟩
  | el q=>obtain ⟨Lo,k1,k2⟩:=plain hp hz; exact ⟨Lo,⟨v,us,rfl,k1⟩,k2⟩
  | own t=>obtain ⟨Lo,k1,k2⟩:=plain hp hz; exact ⟨Lo,⟨v,us,rfl,k1⟩,k2⟩
  | rw t =>
   obtain ⟨b0,off0,O0,rfl,_,_,_⟩:=hk;simp only [vq] at hz;split at hz
   ·rename_i u x' y' aX iB
    split at hz
    ·rename_i hu
     cases hz;subst hu;have aX:look (2000000+j) s.hp=some (.var u x'):=aX;obtain ⟨Lo,k1,k2,k3⟩:=Fp h hK (λ q hq=>hp q (by simp only [N1]; exact List.mem_cons_of_mem _ hq)) iB;obtain ⟨_,_,p3,p4⟩:=h.pin (2000000+j,(b0,off0),[]) (hp _ (by simp [N1]));have p3:ι.root (2000000+j)=(b0,off0):=p3;obtain ⟨⟨O,hO,hR⟩,dY,aN⟩:=(h.ob _ _ aX:OB w.heap S ι (2000000+j) (.var u x'));rw [p3] at hR dY aN;have eB:(b0::O).Nodup:=List.nodup_cons.2 ⟨λ hb=>(List.nodup_cons.1 aN).1 (hO.mem_iff.1 hb),hO.nodup_iff.2 (List.nodup_cons.1 aN).2⟩;obtain ⟨j1,j2⟩:=join aX eB (λ b hb=>by
      rcases List.mem_cons.1 hb with rfl|hb
      ·simp [l7,p3]
      ·simp [l7,hO.mem_iff.1 hb]) k2 k3
     exact ⟨(b0::O)++Lo,⟨b0,off0,O,us,Lo,rfl,hR,dY,rfl,k1⟩,j1,j2⟩
    ·cases hz
   ·cases hz
  | mu t =>
   obtain ⟨cs0,rfl,fK⟩:=hk;simp only [vq] at hz;split at hz
   ·rename_i u x' y' aX iB
    split at hz
    ·rename_i hu
     cases hz;subst hu;have aX:look (2000000+j) s.hp=some (.own (.d8 true t) x'):=aX;obtain ⟨Lo,k1,k2,k3⟩:=Fp h hK (λ q hq=>hp q (by simp only [N1]; exact List.mem_cons_of_mem _ hq)) iB;obtain ⟨_,_,p3,p4⟩:=h.pin (2000000+j,(0,0),[s5 (.d8 true t) cs0]) (hp _ (by simp [N1]));have p4:ι.cells (2000000+j)=[s5 (.d8 true t) cs0]:=p4;obtain ⟨⟨O,hO,hR⟩,aN⟩:=(h.ob _ _ aX:OB w.heap S ι (2000000+j) (.own (.d8 true t) x'));rw [p4] at hR;obtain ⟨j1,j2⟩:=join aX (hO.nodup_iff.2 aN) (λ b hb=>hO.mem_iff.1 hb) k2 k3;exact ⟨O++Lo,⟨[s5 (.d8 true t) cs0],O,us,Lo,rfl,rfl,hR,rfl,k1⟩,j1,j2⟩
    ·cases hz
   ·cases hz
end
end Go.Ex
namespace Go.Ex
def zM {α:Type} (p:α->Prop) (l:List α):Prop:=∀ x∈l,p x
def H8:(t:Ty)->t.den->Prop
 | .int k,n=>u7 k n
 | .bool,_=>True
 | .str,s=>List.length s<=maxLen
 | .unit,_=>True
 | .fn _,_=>True
 | .hole _,_=>True
 | .C6 t,x=>List.length x.2.1<=maxLen/\zM (H8 t) x.2.1
 | .map _ k v,x=>match x with
  | none=>True
  | some l=>zM (λ p=>H8 k p.1/\H8 v p.2) l
 | .box _ _ t,x=>match x with
  | none=>True
  | some y=>H8 t y
 | .pair a b,x=>H8 a x.1/\H8 b x.2
 | .arr n t,l=>List.length l=n/\zM (H8 t) l
 | .d8 _ t,l=>List.length l<=maxLen/\zM (H8 t) l
def AV.H8:AV->Prop
 | .val t x=>Ex.H8 t x
 | .P8 t x=>Ex.H8 t x
 | _=>True
def GZ:List (Nat×AV)->Prop
 | []=>True
 | (_,v)::l=>v.H8/\GZ l
def Bd:List (Nat×i7)->Prop
 | []=>True
 | (_,.var t x)::l=>Ex.H8 t x/\Bd l
 | (_,.own t x)::l=>Ex.H8 t x/\Bd l
 | (_,.M3)::l=>Bd l
def St.H8 (s:St):Prop:=GZ s.fr/\Bd s.hp
def PK.H8:(k:PK)->k.den->Prop
 | .v t,x=>Ex.H8 t x
 | .rd t,x=>Ex.H8 t x
 | .D3 _ ts,x=>GW ts x
 | .own t,x=>Ex.H8 t x
 | .rw t,x=>Ex.H8 t x
 | .mu t,x=>Ex.H8 (.d8 true t) x
 | .W3,_=>True
 | .rcs _ _,_=>True
 | .el _,_=>True
where GW:(ts:List Ty)->DL ts->Prop
 | [],_=>True
 | t::ts,x=>Ex.H8 t x.1/\GW ts x.2
def Hd:(ks:List PK)->DK ks->Prop
 | [],_=>True
 | k::ks,x=>k.H8 x.1/\Hd ks x.2
section
variable {E:Env} {B:F3} {S S':Nat->Prop} {ι:Ix} {s:St} {a:Act} {w:World} {hp:List (Nat×i7)} {H H':Array Go.Obj}
theorem j6.H8 {t:Ty} (hr:∀ {O:List Nat} {cs:List Value} {x:t.den},i6 H S t O cs x->Ex.H8 t x):∀ {l:List t.den} {O:List Nat} {cs:List Value},j6 (i6 H S t) t.size O cs l->zM (Ex.H8 t) l
 | [],_,_,_=>by intro x hx; cases hx
 | x::l,_,_,⟨O1,O2,_,h1,h2⟩=>by
  intro y hy;rcases List.mem_cons.1 hy with rfl|hy
  ·exact hr h1
  ·exact j6.H8 hr h2 y hy
theorem vj.H8 {t u:Ty} (hr:∀ {cs:List Value} {x:t.den},i6 H S t [] cs x->Ex.H8 t x) (kQ:∀ {cs:List Value} {x:u.den},i6 H S u [] cs x->Ex.H8 u x):∀ {es:List MapEntry} {l:List (t.den×u.den)},vj (i6 H S t []) (i6 H S u []) t u es l->zM (λ p=>Ex.H8 t p.1/\Ex.H8 u p.2) l
 | [],l,h=>by rw [show l=[] from h]; intro x hx; cases hx
 | e::es,l,⟨x,y,l',cs,ds,e1,_,h1,_,h2,h3⟩=>by
  rw [e1]; intro p hp;rcases List.mem_cons.1 hp with rfl|hp
  ·exact ⟨hr h1,kQ h2⟩
  ·exact vj.H8 hr kQ h3 p hp
theorem i6.H8:∀ {t:Ty} {O:List Nat} {cs:List Value} {x:t.den},i6 H S t O cs x->Ex.H8 t x:=by
 intro t
 induction t with
 | int k=>intro O cs x h; exact h.2.2
 | bool=>intro O cs x h; trivial
 | str=>intro O cs x h; exact h.2.2
 | fn f=>intro O cs x _; exact trivial
 | hole t _=>intro O cs x _; exact trivial
 | C6 t ih =>
  rintro O cs ⟨n,l,m⟩ h
  match n,h with
  | 0,h =>
   rcases h with ⟨_,_,h3⟩|⟨b,off,cap,O',c1,c2,c3,c4,c5,c6⟩
   ·subst h3; exact ⟨Nat.zero_le _,by intro x hx; cases hx⟩
   ·exact ⟨Nat.le_trans c2 c3.1,j6.H8 (λ h=>ih h) c5⟩
  | 1,h =>
   rcases h with ⟨_,_,h3⟩|⟨b,off,cap,O',c1,c2,c3,c4,c5,c6⟩
   ·subst h3; exact ⟨Nat.zero_le _,by intro x hx; cases hx⟩
   ·exact ⟨Nat.le_trans c2 c3.1,j6.H8 (λ h=>ih h) c5⟩
  | n+2,⟨b,off,O',c1,c2,c3,c4,c5⟩ =>
   have hr:=j6.H8 (λ h=>ih h) c4;exact ⟨by have:=c2.1; show List.length l<=maxLen; omega,λ x hx=>hr x (List.mem_append.2 (.inl hx))⟩
 | map o k v ihk ihv =>
  rintro O cs x (⟨rfl,_⟩|⟨l,b,es,ck,rfl,_,_,h4,_⟩)
  ·trivial
  ·exact vj.H8 (λ h=>ihk h) (λ h=>ihv h) h4
 | box o g t ih =>
  rintro O cs x (⟨rfl,_⟩|⟨y,b,off,O',rfl,_,_,h3,_⟩)
  ·trivial
  ·exact ih h3
 | unit=>intro O cs x h; trivial
 | pair a c iha ihc=>rintro O cs x ⟨O1,O2,_,h1,h2⟩; exact ⟨iha h1,ihc h2⟩
 | arr n t ih=>rintro O cs x ⟨h1,h2⟩; exact ⟨h1,j6.H8 (λ h=>ih h) h2⟩
 | d8 o t ih =>
  rintro O cs x h;rcases h with ⟨_,_,h3⟩|⟨b,off,cap,O',c1,c2,c3,c4,c5,c6⟩
  ·subst h3; exact ⟨Nat.zero_le _,by intro x hx; cases hx⟩
  ·exact ⟨Nat.le_trans c2 c3.1,j6.H8 (λ h=>ih h) c5⟩
theorem VX.H8 {v:AV} {vs:List Value} (h:VX H S ι hp v vs):v.H8:=by
 cases v<;>try trivial
 ·obtain ⟨cs,_,h⟩:=h; exact h.H8
 ·obtain ⟨b,off,_,_,_,h⟩:=h; exact h.H8
theorem RS.H8 (h:RS B S ι s a w) (h1:uniq s.fr) (h2:uniq s.hp):s.H8:=by
 have look_tail:∀ {α:Type} {n m:Nat} {x:α} {l:List (Nat×α)} {y:α},look m l=none->look n l=some y->look n ((m,x)::l)=some y:=by
  intro α n m x l y h1 h2;simp only [look];cases hb:Nat.beq n m with
  | true =>
   have:=Nat.eq_of_beq_eq_true hb;subst this;rw [h1] at h2; cases h2
  | false=>exact h2
 have fr:∀ l:List (Nat×AV),uniq l->(∀ t v,look t l=some v->v.H8)->GZ l:=by
  intro l
  induction l with
  | nil=>intro _ _; trivial
  | cons q l ih =>
   obtain ⟨n,v⟩:=q;rintro ⟨k0,k2⟩ k3;have k1:=Fa k0;exact ⟨k3 n v (by simp [look]),ih k2 (λ t v hv=>k3 t v (look_tail k1 hv))⟩
 have pB:∀ l:List (Nat×i7),uniq l->(∀ t e,look t l=some e->Ex.H8 e.ty e.x)->Bd l:=by
  intro l
  induction l with
  | nil=>intro _ _; trivial
  | cons q l ih =>
   obtain ⟨n,e⟩:=q;rintro ⟨k0,k2⟩ k3;have k1:=Fa k0;have h0:=k3 n e (by simp [look]);have h3:=ih k2 (λ t e he=>k3 t e (look_tail k1 he));cases e<;>first|exact ⟨h0,h3⟩|exact h3
 refine ⟨fr _ h1 (λ t v hv=>(h.fr t v hv).H8),pB _ h2 (λ i e he=>?_)⟩;have:=h.hs.ob i e he;cases e with
 | var t x=>obtain ⟨⟨O,_,hR⟩,_⟩:=this; exact hR.H8
 | own t x=>obtain ⟨⟨O,_,hR⟩,_⟩:=this; exact hR.H8
 | M3=>trivial
def F3.of (w:World) (S:Nat->Prop) (ps:List PK) (vs:List Value) (L:List Nat) (n:Nat) (gv:Value:=undef):F3:=⟨w,S,λ b=>b∈L,n,N1 ps vs 0,gv⟩
def GOk (gp:Option (List Step)) (gv:Value) (H:Array Go.Obj):(ps:List PK)->List Value->DL (F6 ps)->Prop
 | .rw t::_,vs,z=>(match gp,vs with
  | some p,.pointer (some ⟨b,off,none⟩)::_=>B8 t z.1 p/\∃ b' ar,C2 H t p b off=some (b',ar)/\gv=.pointer (some ⟨b',ar,none⟩)
  | _,_=>True)
 | _,_,_=>True
def Uw (P:Program) (w0:World) (S0:Nat->Prop) (L:List Nat):Prop:=vm P w0 S0/\∀ b,S0 b->b<w0.heap.size/\¬ b∈L
def Reach (E:Env) (fn:Func) (y:DL E.rs) (z:DL (F6 E.ps)) (k:List Item) (s:St):Prop :=
 ∀ (w0:World) (S0:Nat->Prop) (vs:List Value) (x:DK E.ps) (L:List Nat) (gv:Value) (S:Nat->Prop) (ι:Ix) (a:Act) (w:World),Uw E.P w0 S0 L->V0 w0.heap S0 E.ps vs x L ->
  RS (F3.of w0 S0 E.ps vs L fn.ntmps gv) S ι s a w->At E.P fn (λ e w'=>xA w0 S0 E.rs E.ps vs L y z e w'/\GOk E.gp gv w'.heap E.ps vs z) k a w
structure D7 (E:Env) (fn:Func):Prop where
 nt:fn.ntmps=E.nt
 res:fn.results.toList=E.res
theorem NW:∀ {a b:List Ty} {x x':DL a} {y y':DL b},DL.app x y=DL.app x' y'->x=x'/\y=y'
 | [],_,_,_,_,_,h=>⟨rfl,h⟩
 | _::_,_,x,x',_,_,h=>by
  have h1:=congrArg Prod.fst h;have h2:=congrArg Prod.snd h;obtain ⟨h3,h4⟩:=NW h2;exact ⟨Prod.ext h1 h3,h4⟩
theorem TV {fn:Func} {w0:World} {S0:Nat->Prop} {vs:List Value} {x:DK E.ps} {L:List Nat} {gv:Value} (hE:D9 E (F3.of w0 S0 E.ps vs L fn.ntmps gv)) (hf:D7 E fn) {y:DL E.rs} {z:DL (F6 E.ps)} {L':Code->List Item->St->Prop} (ht:(finish E s).holds L' (·=DL.app y z)) (hK:V0 w0.heap S0 E.ps vs x L)
  (h:RS (F3.of w0 S0 E.ps vs L fn.ntmps gv) S ι s a w) (hG:vq s E.ps 0=some z->GOk E.gp gv w.heap E.ps vs z) (e:Exit) (he:e=.normal\/e=.ret) :
  bodyPost E.P fn (λ e w'=>xA w0 S0 E.rs E.ps vs L y z e w'/\GOk E.gp gv w'.heap E.ps vs z) e a w:=by
 unfold finish at ht;split at ht
 ·exact ht.elim
 ·rename_i l hl
  split at ht
  ·rename_i y' z' hy hz
   have ht:DL.app y' z'=DL.app y z:=ht;obtain ⟨rfl,rfl⟩:=NW ht;obtain ⟨us,h1,h2⟩:=b7Z hE h hf.res hl;obtain ⟨O,k1,k2,k3⟩:=Sw h.hs hy h2;obtain ⟨Lo,m1,m2,m3⟩:=Fp h.hs hK (λ q hq=>hq) hz;have hR:xA w0 S0 E.rs E.ps vs L y' z' (.returned (wE us)) w:=by
    refine ⟨us,O,Lo,S,rfl,⟨h.hs.os,h.hs.tape,h.hs.out,h.hs.size,λ c hc hL=>h.hs.frame c hc hL⟩,h.hs.s0,λ b hb=>?_,k1,m1,List.nodup_append.2 ⟨k2,m2,?_⟩,λ b hb=>?_⟩
    ·rcases h.hs.s1 b hb with h1|h1
     ·exact .inl h1
     ·exact .inr ⟨h1,h.hs.slt b hb⟩
    ·rintro c hc d hd rfl
     obtain ⟨i,e,i0,ip,i1,i2⟩:=k3 c hc;obtain ⟨j,e',j0,j1,j2⟩:=m3 c hd;refine h.hs.dj i j e e' i1 j1 ?_ c i2 j2;rintro rfl;have:pinned i=true:=by simp only [pinned,Nat.ble_eq]; omega
     rw [ip] at this; cases this
    ·have:∃ i e,look i s.hp=some e/\b∈l7 ι i e:=by
      rcases List.mem_append.1 hb with hb|hb
      ·obtain ⟨i,e,_,_,n2,n3⟩:=k3 b hb; exact ⟨i,e,n2,n3⟩
      ·obtain ⟨i,e,_,n2,n3⟩:=m3 b hb; exact ⟨i,e,n2,n3⟩
     obtain ⟨i,e,n2,n3⟩:=this;exact h.hs.bl i e n2 b n3
   rcases he with rfl|rfl
   ·exact ⟨h.dfr,_,h1,hR,hG hz⟩
   ·exact ⟨h.dfr,_,h1,hR,hG hz⟩
  ·exact ht.elim
theorem WU {gv:Value} {H:Array Go.Obj}:∀ {ps:List PK} {vs:List Value} {z:DL (F6 ps)},GOk none gv H ps vs z
 | [],_,_=>trivial
 | k::_,_,_=>by cases k<;>trivial
theorem gok {H0:Array Go.Obj} {S0:Nat->Prop} {gv:Value} {p:List Step}:∀ {ps:List PK} {vs:List Value} {x:DK ps} {L:List Nat} {z:DL (F6 ps)},V0 H0 S0 ps vs x L->vq s ps 0=some z->(∀ q∈N1 ps vs 0,ι.root q.1=q.2.1)->VX H S ι s.hp (.ptr 2000000 p) [gv]->GOk (some p) gv H ps vs z
 | [],_,_,_,_,_,_,_,_=>trivial
 | k::ps,vs,x,L,z,⟨v,us,L1,L2,e1,_,hk,_⟩,hz,hp,hv=>by
  cases k with
  | rw t =>
   obtain ⟨b,off,O,rfl,_,_,_⟩:=hk;subst e1;have hr:ι.root 2000000=(b,off):=hp (2000000,(b,off),[]) (by simp [N1]);obtain ⟨e,b',ar,k1,k2,k3,k4⟩:=hv;unfold vq at hz;split at hz
   ·rename_i u x0 y0 ho hy
    have ho:look 2000000 s.hp=some (.var u x0):=ho;rw [k1] at ho; cases ho;split at hz
    ·rename_i hu
     subst hu;cases hz;obtain ⟨p1,_⟩:=D4 k3;have p1:C2 H u p (ι.root 2000000).1 (ι.root 2000000).2=some (b',ar):=p1;rw [hr] at p1;exact ⟨k2,b',ar,p1,by simpa using k4⟩
    ·cases hz
   ·cases hz
  | _=>trivial
theorem TH {fn:Func} {w0:World} {S0:Nat->Prop} {vs:List Value} {x:DK E.ps} {L:List Nat} {gv:Value} (hE:D9 E (F3.of w0 S0 E.ps vs L fn.ntmps gv)) (hf:D7 E fn) {y:DL E.rs} {z:DL (F6 E.ps)} {L':Code->List Item->St->Prop} (ht:(IK E s).holds L' (·=DL.app y z)) (hK:V0 w0.heap S0 E.ps vs x L)
  (h:RS (F3.of w0 S0 E.ps vs L fn.ntmps gv) S ι s a w) (e:Exit) (he:e=.normal\/e=.ret) :
  bodyPost E.P fn (λ e w'=>xA w0 S0 E.rs E.ps vs L y z e w'/\GOk E.gp gv w'.heap E.ps vs z) e a w:=by
 unfold IK at ht;split at ht
 ·rename_i cC
  exact TV hE hf ht hK h (λ _=>by rw [cC]; exact WU) e he
 ·rename_i p cC
  split at ht
  ·rename_i i q hl
   obtain ⟨⟨rfl,rfl,lY⟩,ht⟩:=ht;have ht:=ht ⟨rfl,rfl,lY⟩;refine TV hE hf ht hK h (λ hz=>?_) e he;rw [cC];refine gok (S:=S) (ι:=ι) hK hz (λ q hq=>(h.hs.pin q hq).2.2.1) ?_;have hv:=h.fr J7 _ hl;have bc:¬ J7<a.tmps.size:=by rw [h.sz]; show ¬ J7<fn.ntmps; rw [hf.nt]; omega
   have:a.tmps.getD J7 (F3.gd (F3.of w0 S0 E.ps vs L fn.ntmps gv) J7)=gv:=by
    rw [Array.getD_eq_getD_getElem?,Array.getElem?_eq_none (by omega)];rfl
   rw [this] at hv;exact hv
  ·exact ht.elim
theorem j7 {rs:List Ty} {L:Code->List Item->St->Prop} {R:DL rs->Prop} {b:Bool} {t e:Tree rs}:(cond b t e).holds L R↔(b=true->t.holds L R)/\(b=false->e.holds L R):=by
 cases b<;>simp
theorem yK:∀ {ks:List PK} {H:Array Go.Obj} {S:Nat->Prop} {vs:List Value} {x:DK ks} {L:List Nat},ks.any PK.l5=false->V0 H S ks vs x L->L=[]
 | [],_,_,_,_,_,_,h=>h.2
 | k::ks,_,_,_,_,_,hp,⟨v,us,L1,L2,_,e,h1,h2⟩=>by
  rw [List.any_cons,Bool.or_eq_false_iff] at hp;have e2:=yK hp.2 h2;have e1:L1=[]:=by
   cases k<;>first|(exfalso; simp [PK.l5] at hp; done)|exact h1.1|exact h1
  rw [e,e1,e2]; rfl
theorem j8 (hE:C0 E) {fn:Func} (hf:D7 E fn) {y:DL E.rs} {z:DL (F6 E.ps)}:∀ {n:Nat} {k:List Item} {s:St},(exec E n k s).holds (λ c k s=>Reach E fn y z (.code c::.inLoop c::k) s) (·=DL.app y z)->Reach E fn y z k s
 | 0,k,s,ht=>ht.elim
 | n+1,k,s,ht=>by
  intro w0 S0 vs x L gv S ι a w eV hK h;have hB:D9 E (F3.of w0 S0 E.ps vs L fn.ntmps gv):=⟨hE,eV⟩;unfold exec at ht;split at ht
  ·obtain ⟨S2,ι2,h2⟩:=Y8 (E:=E) (l:=Cc E.res E.rs) (λ hp b hb=>by have hb:b∈L:=hb; rw [yK hp hK] at hb; cases hb) h
   exact At.done (TH hB hf ht hK h2 _ (.inl rfl))
  ·refine At.step (λ b cs=>step_inBlock) ?_
   exact j8 hE hf ht w0 S0 vs x L gv S ι a w eV hK h
  ·rename_i c k'
   refine At.step (λ b cs=>step_inLoop) ?_;obtain ⟨S2,ι2,h2⟩:=Y8 (E:=E) (l:=(look (Q9 c) E.D5).getD []) (λ hp b hb=>by have hb:b∈L:=hb; rw [yK hp hK] at hb; cases hb) h;obtain ⟨ι',h'⟩:=h2.canon ((look (Q9 c) E.D5).getD []);exact ht w0 S0 vs x L gv S2 ι' a w eV hK h'
  ·rename_i c k'
   split at ht
   ·exact At.step (λ b cs=>step_skip) (j8 hE hf ht w0 S0 vs x L gv S ι a w eV hK h)
   ·exact At.step (λ b cs=>step_seq) (j8 hE hf ht w0 S0 vs x L gv S ι a w eV hK h)
   ·rename_i xc c1 c2
    split at ht
    ·rename_i g hg
     have cW:=VX.Aw (D0 h hg);refine At.step (λ b cs=>step_cond cW) ?_;cases g with
     | true=>exact j8 hE hf ht w0 S0 vs x L gv S ι a w eV hK h
     | false=>exact j8 hE hf ht w0 S0 vs x L gv S ι a w eV hK h
    ·exact ht.elim
   ·exact At.step (λ b cs=>step_block) (j8 hE hf ht w0 S0 vs x L gv S ι a w eV hK h)
   ·rename_i c'
    obtain ⟨S2,ι2,h2⟩:=Y8 (E:=E) (l:=(look (Q9 c') E.D5).getD []) (λ hp b hb=>by have hb:b∈L:=hb; rw [yK hp hK] at hb; cases hb) h;obtain ⟨ι',h'⟩:=h2.canon ((look (Q9 c') E.D5).getD []);exact At.step (λ b cs=>step_loop) (ht w0 S0 vs x L gv S2 ι' a w eV hK h')
   ·split at ht
    ·rename_i k2 hx
     exact At.step (λ b cs=>step_exit hx) (j8 hE hf ht w0 S0 vs x L gv S ι a w eV hK h)
    ·exact ht.elim
   ·obtain ⟨S2,ι2,h2⟩:=Y8 (E:=E) (l:=Cc E.res E.rs) (λ hp b hb=>by have hb:b∈L:=hb; rw [yK hp hK] at hb; cases hb) h
    exact At.ret (TH hB hf ht hK h2 _ (.inr rfl))
   ·rename_i id ops draw
    split at ht
    ·obtain ⟨S,ι,h⟩:=SI (E:=E) (λ hp b hb=>by have hb:b∈L:=hb; rw [yK hp hK] at hb; cases hb) h ops
     refine At.region (wp_region_list ?_);exact X1 hB (by exact hf.nt) (λ hp b hb=>by have hb:b∈L:=hb; rw [yK hp hK] at hb; cases hb) (m:=0) (l:=ops.toList) (Q:=λ e a w=>e=.normal/\At E.P fn (λ e w'=>xA w0 S0 E.rs E.ps vs L y z e w'/\GOk E.gp gv w'.heap E.ps vs z) k' a w) (λ S' ι' s' a' w' h1 h2=>⟨rfl,j8 hE hf h2 w0 S0 vs x L gv S' ι' a' w' eV hK h1⟩) h ht
    ·skip
     obtain ⟨S,ι,h⟩:=c0q (E:=E) (λ hp b hb=>by have hb:b∈L:=hb; rw [yK hp hK] at hb; cases hb) h ops;generalize zL E ops s=s at h ht;split at ht
     ·rename_i hd
      rcases Ry (bI:=[]) rfl (by simp) ht with ⟨s',h1,h2⟩|⟨q,s',_,hA,h1,h2⟩
      ·exact At.region (b6j hB (by exact hf.nt) hd h1 (λ S' ι' a' w' h3=>⟨rfl,j8 hE hf h2 w0 S0 vs x L gv S' ι' a' w' eV hK h3⟩) h.L7)
      ·have dx:look q.d (L7 ops.toList s).fr=some .any:=by
        obtain ⟨oa,c,a1,_,a3,_,a5,a6,_⟩:=hA;exact FB a5 a6 a3 (by have:=Array.mem_of_getElem? a1; simpa using this)
       exact At.region (c0Y hB (by exact hf.nt) hd hA h1 h2 dx (λ S' ι' s2 a' w' h3 h4=>⟨rfl,j8 hE hf h4 w0 S0 vs x L gv S' ι' a' w' eV hK h3⟩) h.L7)
     ·split at ht
      ·rename_i hd
       obtain ⟨s',h1,h2⟩:=Rz (bI:=[]) rfl (by simp) ht;exact At.region (b4O hB (by exact hf.nt) hd h1 (λ S' ι' a' w' h3=>⟨rfl,j8 hE hf h2 w0 S0 vs x L gv S' ι' a' w' eV hK h3⟩) h.L7)
      ·exact ht.elim
   ·exact ht.elim
  ·exact ht.elim
theorem Tree.holds.mono {rs:List Ty} {L L':Code->List Item->St->Prop} {R:DL rs->Prop}:∀ {t:Tree rs},t.holds L R->(∀ c k s,L c k s->L' c k s)->t.holds L' R
 | .f9 _ _,h,hl=>⟨h.1,λ hp=>(h.2 hp).mono hl⟩
 | .both _ _ _,h,hl=>⟨λ hp=>(h.1 hp).mono hl,h.2.mono hl⟩
 | .cut c k s,h,hl=>hl c k s h
 | .ret _,h,_=>h
 | .stuck _,h,_=>h
theorem Reach.loop (hE:C0 E) {fn:Func} (hf:D7 E fn) {y:DL E.rs} {z:DL (F6 E.ps)} {c:Code} {k:List Item} {α:Type} (mk:α->St) (I:α->Prop) (μ:α->Nat) (n:Nat) (hu:∀ x,uniq (mk x).fr/\uniq (mk x).hp)
  (h:∀ x,I x->(mk x).H8->(exec E n (.code c::.inLoop c::k) (mk x)).holds (λ c' k' s'=>(c'=c/\k'=k/\∃ x',s'=mk x'/\I x'/\μ x'<μ x)\/Reach E fn y z (.code c'::.inLoop c'::k') s') (·=DL.app y z)) :
  ∀ x,I x->Reach E fn y z (.code c::.inLoop c::k) (mk x):=by
 have key:∀ m x,μ x=m->I x->Reach E fn y z (.code c::.inLoop c::k) (mk x):=by
  intro m
  induction m using Nat.strongRecOn with
  | _ m ih =>
   intro x hm hI w0 S0 vs x0 L gv S ι a w eV hK cu;have hx:=h x hI (cu.H8 (hu x).1 (hu x).2);refine j8 hE hf (hx.mono ?_) w0 S0 vs x0 L gv S ι a w eV hK cu;rintro c' k' s' (⟨rfl,rfl,x',rfl,h1,h2⟩|h1)
   ·exact ih (μ x') (hm▸h2) x' rfl h1
   ·exact h1
 exact λ x hI=>key (μ x) x rfl hI
end
end Go.Ex
namespace Go.Ex
section
variable {E:Env} {B:F3} {S S':Nat->Prop} {ι:Ix} {s:St} {a:Act} {w:World} {hp:List (Nat×i7)} {H H':Array Go.Obj}
theorem VX.has {v:AV} {i:Nat}:∀ {vs:List Value},VX H S ι hp v vs->v.j5 i=true->∃ e,look i hp=some e:=by
 induction v with
 | cons a b iha ihb =>
  rintro vs ⟨v,us,_,ha,hb⟩ hm;simp only [AV.j5,Bool.or_eq_true] at hm;exact hm.elim (iha ha) (ihb hb)
 | M2 l ih=>rintro vs ⟨us,_,h⟩ hm; exact ih h hm
 | D3 f l ih=>rintro vs ⟨us,_,h⟩ hm; exact ih h hm
 | bx l ih=>rintro vs ⟨_,_,u,_,_,_,_,h⟩ hm; exact ih h hm
 | rc f l ih=>rintro vs ⟨_,_,u,_,_,_,_,h⟩ hm; exact ih h hm
 | ptr j p=>rintro vs ⟨e,_,_,h1,_⟩ hm; have:=Nat.eq_of_beq_eq_true hm; subst this; exact ⟨e,h1⟩
 | at_ j p=>rintro vs ⟨e,_,_,_,h1,_⟩ hm; have:=Nat.eq_of_beq_eq_true hm; subst this; exact ⟨e,h1⟩
 | sub j p a b=>rintro vs ⟨e,_,h1,_⟩ hm; have:=Nat.eq_of_beq_eq_true hm; subst this; exact ⟨e,h1⟩
 | _=>intro vs _ hm; cases hm
structure Hr (B:F3) (S:Nat->Prop) (w:World) (ks:List PK) (vs:List Value) (x:DK ks) (L:List Nat) (i:Nat) (ι:Ix):Prop where
 hs:HS B S ι (G2 ks x i) w
 fr:∀ t v,look t (W8 ks x i)=some v->i<=t/\∃ val,vs[t - i]?=some val/\VX w.heap S ι (G2 ks x i) v [val]
 pins:∀ q∈N1 ks vs i,pinned q.1=true/\(∃ e,look q.1 (G2 ks x i)=some e)/\ι.root q.1=q.2.1/\ι.cells q.1=q.2.2
 keys:∀ k e,look k (G2 ks x i)=some e->∃ m,i<=m/\m<1000/\(k=1500000+m\/k=2000000+m)
 own:∀ k e,look k (G2 ks x i)=some e->∀ b∈l7 ι k e,b∈L
 rest:∀ k,look k (G2 ks x i)=none->ι.root k=(0,0)/\ι.cells k=[]
theorem MM (hB:B.pins=[]) (hw:B.w0=w) (eV:B.S0=S) (hS:∀ b,S b->b<w.heap.size):∀ {ks:List PK} {vs:List Value} {x:DK ks} {L:List Nat} {i:Nat},V0 w.heap S ks vs x L->L.Nodup->(∀ b∈L,¬ S b/\B.M b/\b<w.heap.size)->i+ks.length<=1000->∃ ι,Hr B S w ks vs x L i ι
 | [],vs,x,L,i,hK,_,_,_=>by
  refine ⟨⟨λ _=>(0,0),λ _=>[],λ _=>[]⟩,⟨?_,?_,?_,?_,?_,λ k _=>⟨rfl,rfl⟩⟩⟩
  ·subst hw
   subst eV;refine ⟨rfl,.refl _,rfl,Nat.le_refl _,λ _ _ _=>rfl,hS,λ _ h=>h,λ b hb=>.inl hb,?_,?_,?_,?_⟩
   ·intro i e hi; cases hi
   ·intro i e hi; cases hi
   ·intro i j ei ej hi; cases hi
   ·intro q hq; rw [hB] at hq; cases hq
  ·intro t v h; cases h
  ·intro q hq; simp [N1] at hq
  ·intro k e h; cases h
  ·intro k e h; cases h
 | k::ks,vs,x,L,i,⟨v,us,L1,L2,e1,e2,hk,hK⟩,hn,hL,hi=>by
  subst e1 e2;have ma:=List.nodup_append.1 hn;obtain ⟨ι,hb⟩:=MM (i:=i+1) hB hw eV hS hK ma.2.1 (λ b hb=>hL b (by simp [hb])) (by simp only [List.length_cons] at hi; omega);simp only [List.length_cons] at hi;have plain:∀ {v0:AV},W8 (k::ks) x i=(i,v0)::W8 ks x.2 (i+1)->G2 (k::ks) x i=G2 ks x.2 (i+1)->N1 (k::ks) (v::us) i=N1 ks us (i+1)->VX w.heap S ι (G2 ks x.2 (i+1)) v0 [v]->∃ ι,Hr B S w (k::ks) (v::us) x (L1++L2) i ι:=by
   intro v0 h1 h2 h3 h4;refine ⟨ι,by rw [h2]; exact hb.hs,?_,by rw [h3,h2]; exact hb.pins,?_,?_,by rw [h2]; exact hb.rest⟩
   ·intro t u hu
    rw [h1] at hu;simp only [look] at hu;rw [h2];cases lE:Nat.beq t i with
    | true =>
     rw [lE] at hu;have:=Nat.eq_of_beq_eq_true lE;subst this;cases hu;exact ⟨Nat.le_refl _,v,by simp,h4⟩
    | false =>
     rw [lE] at hu;obtain ⟨k1,val,k2,k3⟩:=hb.fr t u hu;refine ⟨by omega,val,?_,k3⟩;rw [show t - i=(t - (i+1))+1 from by omega];simpa using k2
   ·intro q e hq
    rw [h2] at hq;obtain ⟨m,m1,m2,m3⟩:=hb.keys q e hq;exact ⟨m,by omega,m2,m3⟩
   ·intro q e hq b eA
    rw [h2] at hq;exact List.mem_append_right _ (hb.own q e hq b eA)
  have obj:∀ {v0:AV} {d:Nat} {e:i7} {ι':Ix},W8 (k::ks) x i=(i,v0)::W8 ks x.2 (i+1)->G2 (k::ks) x i=Ex.put d e (G2 ks x.2 (i+1))->(d=1500000+i\/d=2000000+i) ->
    (∀ q∈N1 (k::ks) (v::us) i,q∈N1 ks us (i+1)\/(pinned q.1=true/\q.1=d/\ι'.root d=q.2.1/\ι'.cells d=q.2.2))->(∀ j,j≠d->F8 ι ι' j)->OB w.heap S ι' d e->(∀ b∈l7 ι' d e,b∈L1) ->
    VX w.heap S ι' (Ex.put d e (G2 ks x.2 (i+1))) v0 [v]->∃ ι,Hr B S w (k::ks) (v::us) x (L1++L2) i ι:=by
   intro v0 d e ι' h1 h2 hd h3 hs aX bR h4;have eP:look d (G2 ks x.2 (i+1))=none:=by
    cases dq:look d (G2 ks x.2 (i+1)) with
    | none=>rfl
    | some e'=>exfalso; obtain ⟨m,m1,m2,m3⟩:=hb.keys d e' dq; omega
   have hF:G5 B S ι (G2 ks x.2 (i+1)) w L1:=by
    refine ⟨ma.1,λ b eA=>?_⟩;obtain ⟨l1,l2,l3⟩:=hL b (by simp [eA]);exact ⟨l1,.inr l2,l3,λ j ej hj jl=>ma.2.2 b eA b (hb.own j ej hj b jl) rfl⟩
   have gy:∀ {u:AV} {us':List Value},VX w.heap S ι (G2 ks x.2 (i+1)) u us'->u.j5 d=false:=by
    intro u us' hu;cases hm:u.j5 d with
    | false=>rfl
    | true=>obtain ⟨e',eG⟩:=hu.has hm; rw [eP] at eG; cases eG
   refine ⟨ι',by rw [h2]; exact hb.hs.add eP hs aX bR hF,?_,?_,?_,?_,?_⟩
   ·intro t u hu
    rw [h1] at hu;simp only [look] at hu;rw [h2];cases lE:Nat.beq t i with
    | true =>
     rw [lE] at hu;have:=Nat.eq_of_beq_eq_true lE;subst this;cases hu;exact ⟨Nat.le_refl _,v,by simp,h4⟩
    | false =>
     rw [lE] at hu;obtain ⟨k1,val,k2,k3⟩:=hb.fr t u hu;refine ⟨by omega,val,?_,VX.add hs (gy k3) k3⟩;rw [show t - i=(t - (i+1))+1 from by omega];simpa using k2
   ·intro q hq
    rw [h2];rcases h3 q hq with hq|⟨q1,q2,q3,q4⟩
    ·obtain ⟨r1,⟨e',r2⟩,r3,r4⟩:=hb.pins q hq
     have bG:q.1≠d:=by intro ke; rw [ke,eP] at r2; cases r2
     obtain ⟨s1,s2,s3⟩:=hs q.1 bG;exact ⟨r1,⟨e',by rw [o7,if_neg bG]; exact r2⟩,s1.trans r3,s2.trans r4⟩
    ·exact ⟨q1,⟨e,by rw [o7,if_pos q2]⟩,by rw [q2]; exact q3,by rw [q2]; exact q4⟩
   ·intro q e' hq
    rw [h2,o7] at hq;split at hq
    ·rename_i ke; exact ⟨i,Nat.le_refl _,by omega,by omega⟩
    ·obtain ⟨m,m1,m2,m3⟩:=hb.keys q e' hq
     exact ⟨m,by omega,m2,m3⟩
   ·intro q e' hq b eA
    rw [h2,o7] at hq;split at hq
    ·rename_i ke; subst ke; cases hq; exact List.mem_append_left _ (bR b eA)
    ·rename_i ke
     rw [(hs q ke).l7] at eA;exact List.mem_append_right _ (hb.own q e' hq b eA)
   ·intro q hq
    rw [h2,o7] at hq;split at hq
    ·cases hq
    ·rename_i ke
     obtain ⟨s1,s2,s3⟩:=hs q ke;obtain ⟨r1,r2⟩:=hb.rest q hq;exact ⟨s1.trans r1,s2.trans r2⟩
  have kb:∀ d,d=1500000+i\/d=2000000+i->ι.root d=(0,0)/\ι.cells d=[]:=by
   intro d hd;refine hb.rest d ?_;cases dq:look d (G2 ks x.2 (i+1)) with
   | none=>rfl
   | some e'=>exfalso; obtain ⟨m,m1,m2,m3⟩:=hb.keys d e' dq; omega
  cases k with
  | v t=>obtain ⟨_,cs,e1,hR⟩:=hk; exact plain rfl rfl rfl ⟨cs,by rw [e1],hR⟩
  | W3=>exact plain rfl rfl rfl (by rw [hk.2]; rfl)
  | rcs f n=>exact plain rfl rfl rfl ⟨_,rfl⟩
  | el q=>exact plain rfl rfl rfl ⟨_,rfl⟩
  | rd t=>obtain ⟨_,b,off,e1,k1,k2,k3⟩:=hk; exact plain rfl rfl rfl ⟨b,off,by rw [e1],k1,k2,k3⟩
  | D3 f ts =>
   obtain ⟨_,ws,e1,hl⟩:=hk;refine plain rfl rfl rfl ⟨ws,by rw [e1],?_⟩;have:∀ {ts:List Ty} {ws:List Value} {y:DL ts},RdL w.heap S ts ws y->VX w.heap S ι (G2 ks x.2 (i+1)) (W8.rdA ts y) ws:=by
    intro ts
    induction ts with
    | nil=>intro ws y h; exact h
    | cons t ts ih =>
     rintro ws y ⟨v,us,e,⟨b,off,e1,k1,k2,k3⟩,hl⟩;exact ⟨v,us,e,⟨b,off,by rw [e1],k1,k2,k3⟩,ih hl⟩
   exact this hl
  | own t =>
   obtain ⟨cs,rfl,hR⟩:=hk;refine obj (d:=1500000+i) (e:=.own t x.1) (ι':=ι.V4 (1500000+i) cs L1) rfl rfl (.inl rfl) (λ q hq=>.inl hq) (λ j hj=>FD hj _ _) ⟨⟨L1,by simp [Ix.V4],by simpa [Ix.V4] using hR⟩,by simpa [Ix.V4] using ma.1⟩ ?_ (Af hR.length);intro b hb; simpa [l7,Ix.V4] using hb
  | rw t =>
   obtain ⟨b,off,O,rfl,hR,hf,rfl⟩:=hk;refine obj (d:=2000000+i) (e:=.var t x.1) (ι':=ι.U7 (2000000+i) (b,off) O) rfl rfl (.inr rfl) ?_ (λ j hj=>Lb hj _ _) ⟨⟨O,by simp [Ix.U7],by simpa [Ix.U7] using hR⟩,by simpa [Ix.U7] using hf,by simpa [Ix.U7] using ma.1⟩ ?_
    (Iq (s:=⟨[],G2 ks x.2 (i+1)⟩) (r:=(b,off)) (o:=O) hf.lt)
   ·intro q hq
    simp only [N1,List.mem_cons] at hq;rcases hq with rfl|hq
    ·exact .inr ⟨by simp only [pinned,Nat.ble_eq]; omega,rfl,by simp [Ix.U7],by simpa [Ix.U7] using (kb (2000000+i) (.inr rfl)).2⟩
    ·exact .inl hq
   ·intro c hc; simpa [l7,Ix.U7] using hc
  | mu t =>
   obtain ⟨cs,rfl,hR⟩:=hk;have cI:cs=[s5 (.d8 true t) cs]:=by
    have:=hR.length
    match cs,this with
    | [c],_=>rfl
   refine obj (d:=2000000+i) (e:=.own (.d8 true t) x.1) (ι':=ι.V4 (2000000+i) cs L1) rfl rfl (.inr rfl) ?_ (λ j hj=>FD hj _ _) ⟨⟨L1,by simp [Ix.V4],by simpa [Ix.V4] using hR⟩,by simpa [Ix.V4] using ma.1⟩ ?_ (Af hR.length)
   ·intro q hq
    simp only [N1,List.mem_cons] at hq;rcases hq with rfl|hq
    ·exact .inr ⟨by simp only [pinned,Nat.ble_eq]; omega,rfl,by simpa [Ix.V4] using (kb (2000000+i) (.inr rfl)).1,by simpa [Ix.V4] using cI⟩
    ·exact .inl hq
   ·intro b hb; simpa [l7,Ix.V4] using hb
theorem ME:∀ {ks:List PK} {vs:List Value} {x:DK ks} {L:List Nat},V0 H S ks vs x L->Hd ks x
 | [],_,_,_,_=>trivial
 | k::ks,vs,x,L,⟨v1,us,L1,L2,e,_,h1,h2⟩=>by
  refine ⟨?_,ME h2⟩;cases k with
  | v t=>obtain ⟨_,cs,e1,hR⟩:=h1; exact hR.H8
  | rd t=>obtain ⟨_,b,off,e1,k1,k2,k3⟩:=h1; exact k3.H8
  | own t=>obtain ⟨cs,e1,hR⟩:=h1; exact hR.H8
  | rw t=>obtain ⟨b,off,O,e1,hR,_⟩:=h1; exact hR.H8
  | mu t=>obtain ⟨cs,e1,hR⟩:=h1; exact hR.H8
  | W3=>trivial
  | rcs f n=>trivial
  | el q=>trivial
  | D3 f ts =>
   obtain ⟨_,ws,e1,hl⟩:=h1;have:∀ {ts:List Ty} {ws:List Value} {y:DL ts},RdL H S ts ws y->PK.H8.GW ts y:=by
    intro ts
    induction ts with
    | nil=>intro ws y h; trivial
    | cons t ts ih =>
     rintro ws y ⟨v,us,e,⟨b,off,e1,k1,k2,k3⟩,hl⟩;exact ⟨k3.H8,ih hl⟩
   exact this hl
theorem MD:∀ {ks:List PK} {vs:List Value} {x:DK ks} {L:List Nat},V0 H S ks vs x L->vs.length=ks.length
 | [],_,_,_,h=>by rw [h.1]; rfl
 | k::ks,vs,x,L,⟨v1,us,L1,L2,e,_,_,h2⟩=>by rw [e]; simp [MD h2]
theorem Th:∀ {ks:List PK} {x:DK ks} {i k:Nat} {e:i7},look k (G2 ks x i)=some e->∃ m,i<=m/\m<i+ks.length/\(k=1500000+m\/k=2000000+m)
 | [],_,_,_,_,h=>by cases h
 | k0::ks,x,i,k,e,h=>by
  have rest:look k (G2 ks x.2 (i+1))=some e->∃ m,i<=m/\m<i+(k0::ks).length/\(k=1500000+m\/k=2000000+m):=by
   intro h;obtain ⟨m,h1,h2,h3⟩:=Th h;exact ⟨m,by omega,by simp only [List.length_cons]; omega,h3⟩
  have put_:∀ {d:Nat} {e0:i7},(d=1500000+i\/d=2000000+i)->look k (Ex.put d e0 (G2 ks x.2 (i+1)))=some e->∃ m,i<=m/\m<i+(k0::ks).length/\(k=1500000+m\/k=2000000+m):=by
   intro d e0 hd h;rw [o7] at h;split at h
   ·rename_i hk; subst hk; exact ⟨i,Nat.le_refl _,by simp only [List.length_cons]; omega,hd⟩
   ·exact rest h
  cases k0 with
  | own t=>exact put_ (.inl rfl) h
  | rw t=>exact put_ (.inr rfl) h
  | mu t=>exact put_ (.inr rfl) h
  | _=>exact rest h
def wo (hp:List (Nat×i7)) (ι:Ix):(ks:List PK)->List Value->DK ks->Nat->Prop
 | [],_,_,_=>True
 | .rw t::ks,vs,x,i=>(look (2000000+i) hp=some (.var t x.1)/\∃ us,vs=.pointer (some ⟨(ι.root (2000000+i)).1,(ι.root (2000000+i)).2,none⟩)::us)/\wo hp ι ks (vs.drop 1) x.2 (i+1)
 | .v _::ks,vs,x,i=>wo hp ι ks (vs.drop 1) x.2 (i+1)
 | .rd _::ks,vs,x,i=>wo hp ι ks (vs.drop 1) x.2 (i+1)
 | .D3 _ _::ks,vs,x,i=>wo hp ι ks (vs.drop 1) x.2 (i+1)
 | .own _::ks,vs,x,i=>wo hp ι ks (vs.drop 1) x.2 (i+1)
 | .mu _::ks,vs,x,i=>wo hp ι ks (vs.drop 1) x.2 (i+1)
 | .W3::ks,vs,x,i=>wo hp ι ks (vs.drop 1) x.2 (i+1)
 | .rcs _ _::ks,vs,x,i=>wo hp ι ks (vs.drop 1) x.2 (i+1)
 | .el _::ks,vs,x,i=>wo hp ι ks (vs.drop 1) x.2 (i+1)
theorem xe:∀ {ks:List PK} {vs:List Value} {x:DK ks} {L:List Nat} {i:Nat},V0 H S ks vs x L->i+ks.length<=1000->(∀ k e,look k (G2 ks x i)=some e->look k hp=some e)->(∀ q∈N1 ks vs i,ι.root q.1=q.2.1)->wo hp ι ks vs x i
 | [],_,_,_,_,_,_,_,_=>trivial
 | k::ks,vs,x,L,i,⟨v,us,L1,L2,e1,_,hk,hK⟩,hi,hh,fj=>by
  subst e1;simp only [List.length_cons] at hi;have sub:∀ {d:Nat} {e0:i7},(d=1500000+i\/d=2000000+i)->(∀ k e,look k (Ex.put d e0 (G2 ks x.2 (i+1)))=some e->look k hp=some e)->∀ k e,look k (G2 ks x.2 (i+1))=some e->look k hp=some e:=by
   intro d e0 hd hh k e h;refine hh k e ?_;rw [o7,if_neg]
   ·exact h
   ·rintro rfl
    obtain ⟨m,h1,h2,h3⟩:=Th h;omega
  cases k with
  | rw t =>
   obtain ⟨b,off,O,rfl,_,_,_⟩:=hk;have hr:ι.root (2000000+i)=(b,off):=fj (2000000+i,(b,off),[]) (by simp [N1]);refine ⟨⟨hh _ _ (by simp only [G2]; rw [o7,if_pos rfl]),us,by rw [hr]⟩,xe hK (by omega) (sub (.inr rfl) hh) (λ q hq=>fj q (by simp only [N1]; exact List.mem_cons_of_mem _ hq))⟩
  | own t=>exact xe (ks:=ks) hK (by omega) (sub (.inl rfl) hh) (λ q hq=>fj q hq)
  | mu t=>exact xe (ks:=ks) hK (by omega) (sub (.inr rfl) hh) (λ q hq=>fj q (by simp only [N1]; exact List.mem_cons_of_mem _ hq))
  | v t=>exact xe (ks:=ks) hK (by omega) hh (λ q hq=>fj q hq)
  | rd t=>exact xe (ks:=ks) hK (by omega) hh (λ q hq=>fj q hq)
  | D3 f ts=>exact xe (ks:=ks) hK (by omega) hh (λ q hq=>fj q hq)
  | W3=>exact xe (ks:=ks) hK (by omega) hh (λ q hq=>fj q hq)
  | rcs f n=>exact xe (ks:=ks) hK (by omega) hh (λ q hq=>fj q hq)
  | el q=>exact xe (ks:=ks) hK (by omega) hh (λ q hq=>fj q hq)
theorem Rj {fr:List (Nat×AV)}:∀ {n j:Nat} {us:List Value},us.length=n->(∀ t val v,us[t]?=some val->look (j+t) fr=some v->VX H S ι hp v [val])->VX H S ι hp (GY fr j n) us
 | 0,j,us,hl,_=>by
  obtain rfl:=List.length_eq_zero_iff.1 hl;rfl
 | n+1,j,u::us,hl,h=>by
  refine ⟨u,us,rfl,?_,Rj (by simpa using hl) (λ t val v ht hv=>h (t+1) val v (by simpa using ht) (by rw [<- hv]; congr 1; omega))⟩;cases dq:look j fr with
  | none=>exact ⟨_,rfl⟩
  | some v=>exact h 0 u v rfl dq
theorem Nt:∀ {ks:List PK} {x:DK ks} {i:Nat} {fr:List (Nat×AV)} {pre vs:List Value} {cc:Option (Sigma Ty.den)},(∀ t v,look t fr=some v->∃ val,(pre.reverse++vs)[t]?=some val/\VX H S ι hp v [val])->i=pre.length ->
  vr H S ks cc pre vs x->vs.length=ks.length->wo hp ι ks vs x i->(∀ r,cc=some r->∃ pre',pre=.pointer (some ⟨(ι.root (2000000+(i - 1))).1,(ι.root (2000000+(i - 1))).2,none⟩)::pre'/\look (2000000+(i - 1)) hp=some (.var r.1 r.2)) ->
  ∀ t v,look t (wz ks x i fr)=some v->∃ val,(pre.reverse++vs)[t]?=some val/\VX H S ι hp v [val]
 | [],_,_,_,_,_,_,h,_,_,_,_,_=>h
 | k::ks,x,i,fr,pre,vs,cc,h,hi,hk,hl,hr,hc=>by
  cases vs with
  | nil=>cases hl
  | cons v vs =>
   have hl:vs.length=ks.length:=by simpa using hl
   have cw:pre.reverse++v::vs=(v::pre).reverse++vs:=by simp
   have next:∀ {fr':List (Nat×AV)} {cc':Option (Sigma Ty.den)},(∀ t v',look t fr'=some v'->∃ val,(pre.reverse++v::vs)[t]?=some val/\VX H S ι hp v' [val])->vr H S ks cc' (v::pre) vs x.2->wo hp ι ks vs x.2 (i+1) ->
     (∀ r,cc'=some r->v=.pointer (some ⟨(ι.root (2000000+i)).1,(ι.root (2000000+i)).2,none⟩)/\look (2000000+i) hp=some (.var r.1 r.2))->∀ t v',look t (wz ks x.2 (i+1) fr')=some v'->∃ val,(pre.reverse++v::vs)[t]?=some val/\VX H S ι hp v' [val]:=by
    intro fr' cc' h1 h2 h3 h4;rw [cw] at h1 ⊢;refine Nt h1 (by simp [hi]) h2 hl h3 (λ r hr=>?_);rw [Nat.add_sub_cancel];obtain ⟨q1,q2⟩:=h4 r hr;exact ⟨pre,by rw [q1],q2⟩
   have jQ:(pre.reverse++v::vs)[i]?=some v:=by
    rw [List.getElem?_append_right (by simp [hi])];simp [hi]
   cases k with
   | v t=>exact next h hk hr (λ r hr=>by cases hr)
   | rd t=>exact next h hk hr (λ r hr=>by cases hr)
   | D3 f ts=>exact next h hk hr (λ r hr=>by cases hr)
   | own t=>exact next h hk hr (λ r hr=>by cases hr)
   | mu t=>exact next h hk hr (λ r hr=>by cases hr)
   | W3=>exact next h hk hr (λ r hr=>by cases hr)
   | rw t =>
    obtain ⟨⟨h1,us,h2⟩,hr⟩:=hr;exact next h hk hr (λ r hr=>by cases hr; exact ⟨(List.cons.inj h2).1,h1⟩)
   | rcs f n =>
    obtain ⟨⟨us,b,off,e1,h1,h2,h3,h4⟩,hk⟩:=hk;obtain ⟨rfl,rfl⟩:=List.cons.inj e1;refine next (λ t v' ht=>?_) hk hr (λ r hr=>by cases hr)
    rw [o7] at ht;split at ht
    ·rename_i e; subst e; cases ht
     refine ⟨_,jQ,_,_,_,rfl,h1,h2,h3,_,rfl,b,off,(pre.take n).reverse,rfl,h1,h2,h3,?_⟩;refine Rj (by simp; omega) (λ t val v' ht hv=>?_);obtain ⟨val',g1,g2⟩:=h _ _ hv;have rh:t<n:=by
      have:=(List.getElem?_eq_some_iff.1 ht).1;simp at this; omega
     have:val'=val:=by
      rw [List.reverse_take,List.getElem?_drop] at ht;rw [List.getElem?_append_left (by simp; omega)] at g1;subst hi;rw [g1] at ht; cases ht; rfl
     rw [this] at g2; exact g2
    ·exact h t v' ht
   | el q =>
    obtain ⟨⟨t,y,b0,off0,pre',b,off,us,e0,e1,e2,h1,h2,h3⟩,hk⟩:=hk;obtain ⟨rfl,rfl⟩:=List.cons.inj e2;obtain ⟨pre2,g1,g2⟩:=hc _ e0;rw [e1] at g1;simp only [List.cons.injEq,Value.pointer.injEq,Option.some.injEq,Addr.mk.injEq,and_true] at g1;obtain ⟨⟨rfl,rfl⟩,rfl⟩:=g1;refine next (λ t' v' ht=>?_) hk hr (λ r hr=>by cases hr)
    rw [o7] at ht;split at ht
    ·rename_i e; subst e; cases ht
     exact ⟨_,jQ,_,b,off,g2,h1,wi h2 h3,rfl⟩
    ·exact h t' v' ht
theorem VE {E:Env} {fn:Func} {w:World} {vs:List Value} {x:DK E.ps} {L:List Nat}
  (hlen:E.ps.length<=fn.ntmps/\E.ps.length<=1000) (hS:∀ b,S b->b<w.heap.size) (hK:V0 w.heap S E.ps vs x L) (iu:vr w.heap S E.ps none [] vs x) (fM:L.Nodup) (eh:∀ b∈L,¬ S b/\b<w.heap.size) :
  ∃ ι,∀ gv,RS (F3.of w S E.ps vs L fn.ntmps gv) S ι (y8 E.ps x) { tmps:=vs.toArray++Array.replicate (fn.ntmps - vs.toArray.size) undef,defers:=[] } w:=by
 obtain ⟨ι,lH⟩:=MM (B:=⟨w,S,λ b=>b∈L,fn.ntmps,[],undef⟩) (i:=0) rfl rfl rfl hS hK fM (λ b hb=>⟨(eh b hb).1,hb,(eh b hb).2⟩) (by show 0+E.ps.length<=1000; omega);refine ⟨ι,λ gv=>?_⟩;have hl:vs.length=E.ps.length:=MD hK;have hs:=lH.hs;refine ⟨⟨hs.os,hs.tape,hs.out,hs.size,hs.frame,hs.slt,hs.s0,hs.s1,hs.ob,hs.bl,hs.dj,λ q hq=>lH.pins q hq⟩,rfl,?_,?_⟩
 ·simp only [Array.size_append,List.size_toArray,Array.size_replicate,F3.of]
  omega
 ·intro t v hv
  obtain ⟨val,k2,k3⟩:=Nt (pre:=[]) (vs:=vs) (i:=0) (λ t v ht=>by
   obtain ⟨_,val,k2,k3⟩:=lH.fr t v ht;exact ⟨val,by simpa using k2,k3⟩) rfl iu hl (xe hK (by show 0+E.ps.length<=1000; omega) (λ _ _ h=>h) (λ q hq=>(lH.pins q hq).2.2.1)) (λ r hr=>by cases hr) t v hv
  simp only [List.reverse_nil,List.nil_append] at k2;have:(vs.toArray++Array.replicate (fn.ntmps - vs.toArray.size) undef).getD t (F3.gd (F3.of w S E.ps vs L fn.ntmps gv) t)=val:=by
   have bj:=(List.getElem?_eq_some_iff.1 k2).1;simp only [Array.getD_eq_getD_getElem?];rw [Array.getElem?_append_left (by simpa using bj)];simp [k2]
  rw [this];exact k3
theorem r9.r7 (_hE:C0 E) {f:FuncId} {fn:Func} {c:Code} {rs:List Ty} {ps:List PK} {pre:DK ps->Prop} {fn':DK ps->DL rs} {out:DK ps->DL (F6 ps)} (cu:E.rs=rs) (fb:E.ps=ps) (hf:E.P.funcs[f]?=some fn) (hb:fn.body=some c) (fX:(fn.name == "runtime.NumGoroutine")=false) (_hF:D7 E fn)
  (hlen:(Nat.ble ps.length fn.ntmps && Nat.ble ps.length 1000)=true)
  (h:∀ x:DK ps,pre x->Hd ps x->Reach E fn (cu▸fn' x) (fb▸out x) [.code c] (y8 ps x)):(r9.mk ps rs pre fn' out false).Valid E.P f:=by
 subst cu;subst fb;simp only [Bool.and_eq_true,Nat.ble_eq] at hlen;refine ⟨⟨fn,hf,fX,by rw [hb]; rfl⟩,?_,λ h=>by cases h⟩;intro w S vs x L hS ec bg hK iu fM eh;refine Calls.mono (R:=λ e w'=>xA w S E.rs E.ps vs L (fn' x) (out x) e w'/\GOk E.gp undef w'.heap E.ps vs (out x)) ?_ (λ _ _ h=>h.1);refine b8C hf hb ?_;obtain ⟨ι,bP⟩:=VE hlen hS hK iu fM eh;exact h x bg (ME hK) w S vs x L undef S ι _ w ⟨ec,λ b hb=>⟨hS b hb,λ hl=>(eh b hl).1 hb⟩⟩ hK (bP undef)
end
end Go.Ex
namespace Go.Ex
def shares:List Ty->List Ty->Bool
 | [],[]=>true
 | t::ts,t'::ts'=>(decide (t'=t) || (decide (t'=t.sh) && t.W0)) && shares ts ts'
 | _,_=>false
theorem Zu {t t':Ty} (h:(decide (t'=t) || (decide (t'=t.sh) && t.W0))=true):t.den=t'.den:=by
 simp only [Bool.or_eq_true,Bool.and_eq_true,decide_eq_true_eq] at h;rcases h with rfl|⟨rfl,_⟩
 ·rfl
 ·exact (F7 t).symm
def BB:(rs rs':List Ty)->shares rs rs'=true->DL rs->DL rs'
 | [],[],_,_=>()
 | t::ts,t'::ts',h,x=>(cast (Zu (by simp only [shares,Bool.and_eq_true] at h; exact h.1)) x.1,BB ts ts' (by simp only [shares,Bool.and_eq_true] at h; exact h.2) x.2)
 | [],_::_,h,_=>by simp [shares] at h
 | _::_,[],h,_=>by simp [shares] at h
theorem RA {H:Array Go.Obj} {S:Nat->Prop}:∀ {ts rs':List Ty} (h:shares ts rs'=true) {O:List Nat} {us:List Value} {x:DL ts},M4 H S ts O us x ->
  ∃ O1 O2,O.Perm (O1++O2)/\∀ T:Nat->Prop,(∀ b,S b->T b)->(∀ b∈O2,T b)->M4 H T rs' O1 us (BB ts rs' h x)
 | [],[],_,O,us,x,hR=>⟨[],[],by rw [hR.1]; exact List.Perm.refl _,λ T _ _=>⟨rfl,hR.2⟩⟩
 | [],_::_,h,_,_,_,_=>by simp [shares] at h
 | _::_,[],h,_,_,_,_=>by simp [shares] at h
 | t::ts,t'::ts',h,O,us,x,⟨v,us',P1,P2,cs,e1,e2,e3,h1,h2⟩=>by
  have hh:=h;simp only [shares,Bool.and_eq_true] at hh;obtain ⟨O1,O2,p,k⟩:=RA hh.2 h2;have hd:=hh.1;simp only [Bool.or_eq_true,Bool.and_eq_true,decide_eq_true_eq] at hd;subst e2;rcases hd with rfl|⟨rfl,sJ⟩
  ·refine ⟨P1++O1,O2,by rw [List.append_assoc]; exact p.append_left P1,λ T hS hT=>⟨v,us',P1,O1,cs,e1,rfl,e3,?_,k T hS hT⟩⟩
   exact h1.w6 (λ _ _=>rfl) hS
  ·refine ⟨O1,P1++O2,?_,λ T hS hT=>⟨v,us',[],O1,cs,e1,rfl,by rw [e3]; exact (HU (by rw [Ty.zX]) cs).symm,?_,k T hS (λ b hb=>hT b (by simp [hb]))⟩⟩
   ·refine (p.append_left P1).trans ?_
    rw [<- List.append_assoc,<- List.append_assoc];exact List.perm_append_comm.append_right O2
   ·exact h1.vJ (λ b hb=>hT b (by simp [hb])) hS sJ
theorem Zs {ps:List PK} (h:ps.all PK.reads=true):F6 ps=[]:=by
 induction ps with
 | nil=>rfl
 | cons k ps ih =>
  simp only [List.all_cons,Bool.and_eq_true] at h;have:=ih h.2;cases k<;>first|exact this|(exfalso; simp [PK.reads] at h; done)
theorem OA {H:Array Go.Obj} {S:Nat->Prop}:∀ {ps:List PK},ps.all PK.reads=true->∀ {vs:List Value} {x:DK ps} {L:List Nat},V0 H S ps vs x L->L=[]
 | [],_,_,_,_,h=>h.2
 | k::ps,h,vs,x,L,⟨v,us,L1,L2,e1,e2,h1,h2⟩=>by
  simp only [List.all_cons,Bool.and_eq_true] at h;have qT:=OA h.2 h2;have ud:L1=[]:=by
   cases k<;>first|exact h1.1|(exfalso; simp [PK.reads] at h; done)
  rw [e2,ud,qT]; rfl
theorem r9.Valid.share {P:Program} {f:FuncId} {c:r9} (h:c.Valid P f) (fb:c.ps.all PK.reads=true) (gZ:c.rs.all Ty.K2=true) {rs':List Ty} (cu:shares c.rs rs'=true) :
  (r9.mk c.ps rs' c.pre (λ x=>BB c.rs rs' cu (c.fn x)) c.out true).Valid P f:=by
 have core:∀ (w:World) (S:Nat->Prop) (vs:List Value) (x:DK c.ps) (L:List Nat),(∀ b,S b->b<w.heap.size)->vm P w S->c.pre x->V0 w.heap S c.ps vs x L->vr w.heap S c.ps none [] vs x->L.Nodup->(∀ b∈L,¬ S b/\b<w.heap.size) ->
   Calls P f vs.toArray w (λ e w'=>∃ us O Lo S',e=.returned (wE us)/\F9 L w w'/\(∀ b,S b->S' b)/\(∀ b,S' b->S b\/((w.heap.size<=b\/b∈L)/\b<w'.heap.size)) /\
    M4 w'.heap S' rs' O us (BB c.rs rs' cu (c.fn x))/\H3 w'.heap S' c.ps vs (c.out x) Lo/\(O++Lo).Nodup/\(∀ b∈O++Lo,¬ S' b/\(w.heap.size<=b\/b∈L)/\b<w'.heap.size) /\
    M4 w'.heap (λ b=>S' b/\w.heap.size<=b) rs' O us (BB c.rs rs' cu (c.fn x))):=by
  intro w S vs x L hS ec bg hK iu fM eh;refine (h.run w S vs x L hS ec bg hK iu fM eh).mono (λ e w' hr=>?_);obtain ⟨us,O,Lo,S',e1,hp,s1,s2,h1,h2,aN,hb⟩:=hr;have hL:=OA fb hK;have mj:Lo=[]:=Y5 (Zs fb) h2;subst hL;subst mj;rw [List.append_nil] at aN hb;obtain ⟨O1,O2,p,k⟩:=RA cu (h1.K2 (S':=λ _=>False) gZ);have eB:=p.nodup_iff.1 aN;have iP:∀ b∈O2,¬ S' b/\w.heap.size<=b/\b<w'.heap.size:=λ b cX=>by
   obtain ⟨q0,q1,q2⟩:=hb b (p.mem_iff.2 (List.mem_append_right _ cX));rcases q1 with q1|q1
   ·exact ⟨q0,q1,q2⟩
   ·cases q1
  refine ⟨us,O1,[],λ b=>S' b\/b∈O2,e1,hp,λ b hb=>.inl (s1 b hb),?_,k _ (λ b hb=>hb.elim) (λ b hb=>.inr hb),?_,by rw [List.append_nil]; exact (List.nodup_append.1 eB).1,?_,k _ (λ b hb=>hb.elim) (λ b hb=>⟨.inr hb,(iP b hb).2.1⟩)⟩
  ·rintro b (cX|cX)
   ·exact s2 b cX
   ·exact .inr ⟨.inl (iP b cX).2.1,(iP b cX).2.2⟩
  ·have gZ:∀ {ks:List PK} {us:List Value} {y:DL (F6 ks)} {T:Nat->Prop},ks.all PK.reads=true->H3 w'.heap S' ks us y []->H3 w'.heap T ks us y []:=by
    intro ks
    induction ks with
    | nil=>intro us y T _ h; exact h
    | cons k ks ih =>
     intro us y T hk h;simp only [List.all_cons,Bool.and_eq_true] at hk;cases k<;>first
      | (obtain ⟨v,us',e,h⟩:=h; exact ⟨v,us',e,ih hk.2 h⟩)
      | (exfalso; simp [PK.reads] at hk; done)
   exact gZ fb h2
  ·intro b dK
   rw [List.append_nil] at dK;obtain ⟨q0,q1,q2⟩:=hb b (p.mem_iff.2 (List.mem_append_left _ dK));refine ⟨?_,q1,q2⟩;rintro (h9|h9)
   ·exact q0 h9
   ·exact (List.nodup_append.1 eB).2.2 b dK b h9 rfl
 refine ⟨h.ent,λ w S vs x L hS ec bg hK iu fM eh=>(core w S vs x L hS ec bg hK iu fM eh).mono (λ e w' ⟨us,O,Lo,S',a1,a2,a3,a4,a5,a6,a7,a8,_⟩=>⟨us,O,Lo,S',a1,a2,a3,a4,a5,a6,a7,a8⟩),λ _=>core⟩
theorem r9.Valid.conv {P:Program} {f:FuncId} {c:r9} (h:c.Valid P f) {rs':List Ty} {fn':DK c.ps->DL rs'} (hc:∀ x,c.pre x->∀ (H:Array Go.Obj) (S:Nat->Prop) (O:List Nat) (us:List Value),M4 H S c.rs O us (c.fn x)->M4 H S rs' O us (fn' x)) :
  (r9.mk c.ps rs' c.pre fn' c.out c.new).Valid P f:=by
 refine ⟨h.ent,λ w S vs x L hS ec bg hK iu fM eh=>?_,λ hn w S vs x L hS ec bg hK iu fM eh=>?_⟩
 ·refine (h.run w S vs x L hS ec bg hK iu fM eh).mono (λ e w' hr=>?_)
  obtain ⟨us,O,Lo,S',e1,hp,s1,s2,h1,h2⟩:=hr;exact ⟨us,O,Lo,S',e1,hp,s1,s2,hc x bg _ _ _ _ h1,h2⟩
 ·refine (h.fresh hn w S vs x L hS ec bg hK iu fM eh).mono (λ e w' hr=>?_)
  obtain ⟨us,O,Lo,S',e1,hp,s1,s2,h1,h2,h3,h4,h5⟩:=hr;exact ⟨us,O,Lo,S',e1,hp,s1,s2,hc x bg _ _ _ _ h1,h2,h3,h4,hc x bg _ _ _ _ h5⟩
end Go.Ex
namespace Go.Ex
abbrev OI:=TypeId×String×Array Edge
section
variable {P:Program} {fn:Func} {R:Ending->World->Prop} {k:List Item} {a:Act} {w:World} {S':Nat->Prop}
structure c89 (P:Program) (b:Nat) (ox:Op) (xv:Value) (X:Act->World->Prop):Prop where
 run:∀ a w,X a w->∀ o:Oper,o.op=ox->(execOp a.eval o).run P w=.ok (.value xv) w
 put:∀ a w d v,X a w->d≠1->d≠3->d<a.tmps.size->X (a.put (some d) v) w
 mem:∀ a w w',X a w->(∀ c,c≠b->w'.heap[c]?=w.heap[c]?)->X a w'
variable {S I T:Nat} {e:Nat->OI} {ox:Op} {t:Ty} {r:Nat} {xv:Value} {ds:List Value} {x:t.den} {b off cap:Nat} {A:Option Addr} {X:Act->World->Prop} {w0:World} {S0:Nat->Prop}
structure SpD (t:Ty) (ds:List Value) (b off cap:Nat) (w0:World) (i:Nat) (w:World):Prop where
 past:F9 [b] w0 w
 free:V1 t.isB w.heap b (off+cap*t.size)
 cells:e8 w.heap b off (i*t.size)=(List.replicate i ds).flatten
end
end Go.Ex
namespace Go.Ex
def Bz (P:Program):List (FuncId×r9)->Prop
 | []=>True
 | (f,c)::l=>c.Valid P f/\Bz P l
theorem Bz.look {P:Program}:∀ {l:List (FuncId×r9)} {f:FuncId} {c:r9},Bz P l->Ex.look f l=some c->c.Valid P f
 | [],_,_,_,h=>by cases h
 | (g,d)::l,f,c,h,hl=>by
  simp only [Ex.look] at hl;cases hb:Nat.beq f g with
  | true =>
   rw [hb] at hl;have:=Nat.eq_of_beq_eq_true hb;subst this; cases hl; exact h.1
  | false=>rw [hb] at hl; exact Bz.look h.2 hl
theorem Ow {P:Program}:∀ {l:List (TypeId×TI)} {T:TypeId} {i:TI},l.all (xr P)=true->Ex.look T l=some i->xr P (T,i)=true
 | [],_,_,_,h=>by cases h
 | (g,d)::l,T,i,h,hl=>by
  simp only [List.all_cons,Bool.and_eq_true] at h;simp only [Ex.look] at hl;cases hb:Nat.beq T g with
  | true =>
   rw [hb] at hl;have:=Nat.eq_of_beq_eq_true hb;subst this; cases hl; exact h.1
  | false=>rw [hb] at hl; exact Ow h.2 hl
def BH (P:Program) (E4:List (FuncId×r9)):List (FuncId×List (Option Nat))->Prop
 | []=>True
 | (f,pat)::l=>(∀ c,Ex.look f E4=some c->c.Kept P f pat)/\BH P E4 l
theorem BH.look {P:Program} {E4:List (FuncId×r9)}:∀ {l:List (FuncId×List (Option Nat))} {f:FuncId} {pat:List (Option Nat)},BH P E4 l->Ex.look f l=some pat->∀ c,Ex.look f E4=some c->c.Kept P f pat
 | [],_,_,_,h=>by cases h
 | (g,d)::l,f,pat,h,hl=>by
  simp only [Ex.look] at hl;cases hb:Nat.beq f g with
  | true =>
   rw [hb] at hl;have:=Nat.eq_of_beq_eq_true hb;subst this; cases hl; exact h.1
  | false=>rw [hb] at hl; exact BH.look h.2 hl
theorem C7 {E:Env} (ht:E.tt.all (xr E.P)=true) (hc:Bz E.P E.E4) (hk:BH E.P E.E4 E.keeps:=by trivial):C0 E :=
 ⟨λ _ _ h=>Ow ht h,λ _ _ h=>hc.look h,λ _ c _ h1 h2=>hk.look h2 c h1⟩
theorem i8 {rs:List Ty} {L:Code->List Item->St->Prop} {R:DL rs->Prop} {t t':Tree rs} (h:t=t') (h':t'.holds L R):t.holds L R:=h▸h'
theorem Reach.O8 {E:Env} (hE:C0 E) {fn:Func} (hf:D7 E fn) {y:DL E.rs} {z:DL (F6 E.ps)} {c:Code} {k:List Item} {α:Type} (mk:α->St) (I:α->Prop) (μ:α->Nat) (n:Nat) (hu:∀ x,uniq (mk x).fr/\uniq (mk x).hp)
  (h:∀ x,I x->(mk x).H8->(∀ x',I x'->μ x'<μ x->Reach E fn y z (.code c::.inLoop c::k) (mk x')) ->
   (exec E n (.code c::.inLoop c::k) (mk x)).holds (λ c' k' s'=>Reach E fn y z (.code c'::.inLoop c'::k') s') (·=DL.app y z)) :
  ∀ x,I x->Reach E fn y z (.code c::.inLoop c::k) (mk x):=by
 have key:∀ m x,μ x=m->I x->Reach E fn y z (.code c::.inLoop c::k) (mk x):=by
  intro m
  induction m using Nat.strongRecOn with
  | _ m ih =>
   intro x hm hI w0 S0 vs x0 L gv S ι a w eV hK cu;have hx:=h x hI (cu.H8 (hu x).1 (hu x).2) (λ x' h1 h2=>ih (μ x') (hm▸h2) x' rfl h1);exact j8 hE hf hx w0 S0 vs x0 L gv S ι a w eV hK cu
 exact λ x hI=>key (μ x) x rfl hI
def d9 (P:Program) (f:Nat):Code:=((P.funcs[f]?).bind (·.body)).getD .skip
end Go.Ex
namespace Go.Ex
open Go.ChangeShapes Go.WideShapes Go.ChangeAt Go.RowKit
section
variable {P:Program} {X:Type} {enc:TypeId×Value->X} {W:World} {sp:Nat->Bool} {held:Bool}
def Z2 {α:Type _} (f:α->Nat):List α->Nat
 | []=>0
 | x::l=>f x+Z2 f l
def Ty.flat:Ty->Bool
 | .int _|.bool|.str|.unit=>true
 | .fn _=>false
 | .hole _=>false
 | .C6 _=>false
 | .map _ _ _=>false
 | .box _ _ _=>false
 | .pair a b=>a.flat && b.flat
 | .arr _ t=>t.flat
 | .d8 o t=>!o && t.flat
def Ty.V7:(t:Ty)->t.den->Nat
 | .int _,_=>1
 | .bool,_=>1
 | .str,s=>List.length s+1
 | .unit,_=>0
 | .fn _,_=>0
 | .hole _,_=>0
 | .C6 _,_=>0
 | .map _ _ _,_=>0
 | .box _ _ _,_=>0
 | .pair a b,x=>a.V7 x.1+b.V7 x.2
 | .arr _ t,l=>Z2 t.V7 l
 | .d8 _ t,l=>Z2 t.V7 l+1
mutual
def K6 {H:Type}:DataW H->Nat
 | .lit (.string bytes)=>bytes.length+1
 | .lit _=>1
 | .nil=>1
 | .ptr d=>K6 d+1
 | .slice elems spare=>U9 elems+U9 spare+1
 | .agg parts=>U9 parts+1
 | .iface _ d=>K6 d+1
 | .map entries=>CM entries+1
 | .held _=>1
def U9 {H:Type}:List (DataW H)->Nat
 | []=>0
 | d::r=>K6 d+U9 r
def CM {H:Type}:List (Lit×DataW H)->Nat
 | []=>0
 | x::r=>KN x+CM r
def KN {H:Type}:Lit×DataW H->Nat
 | (.string bytes,d)=>bytes.length+K6 d+1
 | (_,d)=>K6 d+1
end
theorem Fu {H β:Type}:∀ (xs:List (DataW H×β)),U9 (xs.map (·.1))=Z2 (λ x=>K6 x.1) xs
 | []=>rfl
 | x::xs=>by simp only [List.map_cons,U9,Z2,Fu xs]
theorem Iu {α β:Type} {R:List Nat->List Value->α->Prop} {sz:Nat} {bk:α->Nat} {bw:β->Nat}:∀ {n:Nat} {cs:List Value} {xs:List β},xs.length=n->cs.length=n*sz->(∀ i,i<n->∃ y z,xs[i]?=some z/\R [] ((cs.drop (i*sz)).take sz) y/\bk y<=bw z) ->
  ∃ l:List α,l.length=n/\j6 R sz [] cs l/\Z2 bk l<=Z2 bw xs
 | 0,cs,[],_,h,_=>⟨[],rfl,⟨rfl,by simpa using h⟩,Nat.le_refl _⟩
 | n+1,cs,x::xs,hx,h,hr=>by
  obtain ⟨y,z,hz,hy,hb⟩:=hr 0 (by omega);have e:(n+1)*sz=n*sz+sz:=Nat.succ_mul n sz;obtain ⟨l,h1,h2,h3⟩:=Iu (R:=R) (bk:=bk) (bw:=bw) (n:=n) (cs:=cs.drop sz) (sz:=sz) (xs:=xs) (by simpa using hx) (by simp; omega) (λ i hi=>by
   obtain ⟨y,z,hz,hy,hb⟩:=hr (i+1) (by omega);refine ⟨y,z,by simpa using hz,?_,hb⟩;rw [List.drop_drop];rw [show sz+i*sz=(i+1)*sz by rw [Nat.succ_mul]; omega];exact hy)
  have hz:x=z:=by simpa using hz
  subst hz;exact ⟨y::l,by simp [h1],⟨[],[],rfl,by simpa using hy,h2⟩,by simp only [Z2]; omega⟩
 | 0,_,_::_,h,_,_=>by simp at h
 | _+1,_,[],h,_,_=>by simp at h
theorem CF {n:Nat} {T:TypeId} {t:Ty} (h:p9 P n T t=true):P.cellsOf T=t.size:=by
 obtain ⟨i,h1,h2,_⟩:=X6 h;simp [Program.cellsOf,h1,h2]
theorem b0Z:∀ (t:Ty),t.flat=true ->
  (∀ {n:Nat} {T:TypeId} {fuel:Nat} {cs:List Value} {x:DataW X×List MemPlace},p9 P n T t=true->DataW.trod enc P W 0 sp held fuel T cs=some x->∃ y:t.den,i6 W.heap (λ b=>b<W.heap.size) t [] cs y/\t.V7 y<=K6 x.1) /\
  (∀ {n:Nat} {fs:List Field} {off m:Nat} {cs:List Value} {xs:List (DataW X×List MemPlace)},n7 (p9 P n) fs off t=true->xs.length=fs.length->(∀ (i:Nat) (f:Field),fs[i]?=some f->DataW.trod enc P W 0 sp held m f.type ((cs.drop f.offset).take (P.cellsOf f.type))=xs[i]?) ->
   ∃ y:t.den,i6 W.heap (λ b=>b<W.heap.size) t [] ((cs.drop off).take t.size) y/\t.V7 y<=Z2 (λ x=>K6 x.1) xs):=by
 intro t;have strct:∀ {t:Ty},(∀ {n:Nat} {fs:List Field} {off m:Nat} {cs:List Value} {xs:List (DataW X×List MemPlace)},n7 (p9 P n) fs off t=true->xs.length=fs.length->(∀ (i:Nat) (f:Field),fs[i]?=some f->DataW.trod enc P W 0 sp held m f.type ((cs.drop f.offset).take (P.cellsOf f.type))=xs[i]?) ->
   ∃ y:t.den,i6 W.heap (λ b=>b<W.heap.size) t [] ((cs.drop off).take t.size) y/\t.V7 y<=Z2 (λ x=>K6 x.1) xs)->t.agg=true->(∀ n u,t≠.arr n u) ->
   ∀ {n:Nat} {T:TypeId} {fuel:Nat} {cs:List Value} {x:DataW X×List MemPlace},p9 P n T t=true->DataW.trod enc P W 0 sp held fuel T cs=some x->∃ y:t.den,i6 W.heap (λ b=>b<W.heap.size) t [] cs y/\t.V7 y<=K6 x.1:=by
  intro t hB dy lZ n T fuel cs x hT h;obtain ⟨fs,k',h1,h2⟩:=Ld hT dy lZ;obtain ⟨xs,m,_,rfl,hl,hlen,hf⟩:=DataW.trod_struct h1 h;obtain ⟨y,hy,hb⟩:=hB (cs:=cs) (m:=m) (xs:=xs) h2 (by simpa using hlen) (λ i f qk=>hf i f (by simpa using qk));refine ⟨y,?_,?_⟩
  ·rw [CF hT] at hl
   rw [List.drop_zero,List.take_of_length_le (by omega)] at hy;exact hy
  ·simp only [K6,Fu]; omega
 induction t with
 | int k =>
  intro _;refine ⟨?_,by intro n fs off m cs xs h; cases fs<;>simp [n7] at h⟩;intro n T fuel cs x hT h;obtain ⟨z,rfl,rfl,hw⟩:=DataW.trod_int (yD hT) h;simp only [Lit.wf,Bool.and_eq_true,decide_eq_true_eq] at hw;exact ⟨z,⟨rfl,rfl,hw⟩,by simp [Ty.V7,K6]⟩
 | bool =>
  intro _;refine ⟨?_,by intro n fs off m cs xs h; cases fs<;>simp [n7] at h⟩;intro n T fuel cs x hT h;obtain ⟨b,rfl,rfl⟩:=DataW.trod_bool (EZ hT) h;exact ⟨b,⟨rfl,rfl⟩,by simp [Ty.V7,K6]⟩
 | str =>
  intro _;refine ⟨?_,by intro n fs off m cs xs h; cases fs<;>simp [n7] at h⟩;intro n T fuel cs x hT h;obtain ⟨s,rfl,rfl,hl⟩:=DataW.trod_string (Y2 hT) h;exact ⟨s.data.toList,⟨rfl,rfl,hl⟩,by simp [Ty.V7,K6]⟩
 | unit =>
  intro _;have hB:∀ {n:Nat} {fs:List Field} {off m:Nat} {cs:List Value} {xs:List (DataW X×List MemPlace)},n7 (p9 P n) fs off .unit=true->xs.length=fs.length->(∀ (i:Nat) (f:Field),fs[i]?=some f->DataW.trod enc P W 0 sp held m f.type ((cs.drop f.offset).take (P.cellsOf f.type))=xs[i]?) ->
    ∃ y:(.unit:Ty).den,i6 W.heap (λ b=>b<W.heap.size) .unit [] ((cs.drop off).take (.unit:Ty).size) y/\(.unit:Ty).V7 y<=Z2 (λ x=>K6 x.1) xs:=λ _ _ _=>⟨(),⟨rfl,by simp [Ty.size]⟩,by simp [Ty.V7]⟩
  exact ⟨strct hB rfl (by simp),hB⟩
 | fn f=>intro h; cases h
 | hole t _=>intro h; cases h
 | C6 t _=>intro h; cases h
 | map o a b=>intro h; cases h
 | box o g t=>intro h; cases h
 | pair a b iha ihb =>
  intro ez;simp only [Ty.flat,Bool.and_eq_true] at ez;have hB:∀ {n:Nat} {fs:List Field} {off m:Nat} {cs:List Value} {xs:List (DataW X×List MemPlace)},n7 (p9 P n) fs off (.pair a b)=true->xs.length=fs.length->(∀ (i:Nat) (f:Field),fs[i]?=some f->DataW.trod enc P W 0 sp held m f.type ((cs.drop f.offset).take (P.cellsOf f.type))=xs[i]?) ->
    ∃ y:((.pair a b):Ty).den,i6 W.heap (λ b=>b<W.heap.size) (.pair a b) [] ((cs.drop off).take ((.pair a b):Ty).size) y/\((.pair a b):Ty).V7 y<=Z2 (λ x=>K6 x.1) xs:=by
   intro n fs off m cs xs hf rp hx;cases fs with
   | nil=>simp [n7] at hf
   | cons f fs =>
    cases xs with
    | nil=>simp at rp
    | cons x xs =>
    simp only [n7,Bool.and_eq_true] at hf;obtain ⟨⟨⟨⟨h1,_⟩,h3⟩,_⟩,h5⟩:=hf;have h1:f.offset=off:=Nat.eq_of_beq_eq_true h1;have iC:=hx 0 f (by simp);rw [h1,CF h3] at iC;obtain ⟨y1,oT,dK⟩:=(iha ez.1).1 h3 (iC.trans (by simp:_=some x));obtain ⟨y2,lQ,fE⟩:=(ihb ez.2).2 (cs:=cs) (m:=m) (xs:=xs) h5 (by simpa using rp) (λ i f hf=>by simpa using hx (i+1) f (by simpa using hf));refine ⟨(y1,y2),⟨[],[],rfl,?_,?_⟩,?_⟩
    ·rw [List.take_take,Nat.min_eq_left (by simp [Ty.size])]; exact oT
    ·rw [<- List.drop_drop] at lQ
     rw [List.drop_take,show (Ty.pair a b).size - a.size=b.size by simp [Ty.size]]; exact lQ
    ·simp only [Ty.V7,Z2]; omega
  exact ⟨strct hB rfl (by simp),hB⟩
 | arr n t ih =>
  intro ez;refine ⟨?_,by intro n fs off m cs xs h; cases fs<;>simp [n7] at h⟩;intro k T fuel cs x hT h;obtain ⟨e,k',h1,h2,h3⟩:=xT hT;obtain ⟨xs,m,_,rfl,hl,hlen,hf⟩:=DataW.trod_array h1 h;rw [CF hT] at hl;have hs:(Ty.arr n t).size=n*t.size:=rfl;rw [hs] at hl;obtain ⟨l,g1,g2,g3⟩:=Iu (R:=i6 W.heap (λ b=>b<W.heap.size) t) (bk:=t.V7) (bw:=λ x:DataW X×List MemPlace=>K6 x.1) hlen hl (λ i hi=>by
   have:=hf i hi;rw [CF h3] at this;have e:=List.getElem?_eq_getElem (l:=xs) (i:=i) (by omega);obtain ⟨y,hy,hb⟩:=(ih ez).1 h3 (this.trans e);exact ⟨y,_,e,hy,hb⟩)
  exact ⟨l,⟨g1,g2⟩,by simp only [Ty.V7,K6,Fu]; omega⟩
 | d8 o t ih =>
  intro ez;simp only [Ty.flat,Bool.and_eq_true,Bool.not_eq_true'] at ez;obtain ⟨rfl,ch⟩:=ez;refine ⟨?_,by intro n fs off m cs xs h; cases fs<;>simp [n7] at h⟩;intro k T fuel cs x hT h;obtain ⟨e,k',h1,h2,h3⟩:=H2 hT;have bc:=CF h3;rcases DataW.trod_slice h1 h with ⟨rfl,rfl⟩|⟨a,len,cap,elems,rest,n,_,rfl,rfl,_,rq,eg,oD,hf,_,_⟩
  ·exact ⟨([]:List t.den),.inl ⟨rfl,⟨none,0,rfl,by simp⟩,rfl⟩,by simp [Ty.V7,K6,Z2]⟩
  ·rw [bc] at hf
   by_cases h0:len=0
   ·subst h0
    exact ⟨([]:List t.den),.inl ⟨rfl,⟨some a,cap,rfl,by simp⟩,rfl⟩,by simp [Ty.V7,K6,Z2]⟩
   ·have bN:∀ i,i<len->∃ ci y z,W.cells? 0 (a.add (i*t.size)) t.size=some ci/\i6 W.heap (λ b=>b<W.heap.size) t [] ci y/\elems[i]?=some z/\t.V7 y<=K6 z.1:=by
     intro i hi;have:=hf i hi;have e:=List.getElem?_eq_getElem (l:=elems) (i:=i) (by omega);rw [e] at this;obtain ⟨ci,k1,k2⟩:=Option.bind_eq_some_iff.1 this;obtain ⟨y,hy,hb⟩:=(ih ch).1 h3 k2;exact ⟨ci,y,_,k1,hy,e,hb⟩
    obtain ⟨c0,_,_,k1,_⟩:=bN 0 (by omega);obtain ⟨_,l0,g0⟩:=World.cells?_some k1;obtain ⟨b,off,spot⟩:=a;have mR:=g0 0 (by omega);have cr:∃ v,W.cell? (Addr.mk b off spot)=some v:=by
     have:c0[0]?=some c0[0]:=List.getElem?_eq_getElem (by omega);rw [this,Nat.zero_mul] at mR;exact ⟨_,mR⟩
    obtain ⟨v0,fh⟩:=cr;obtain ⟨arr,T0,fz,hh,mB⟩:∃ arr T0 fz,W.heap[b]?=some (.cells arr T0 fz)/\spot=none:=by
     unfold World.cell? at fh;split at fh
     ·rename_i c T0 fz hh
      split at fh
      ·cases fh
      ·rename_i hs
       exact ⟨c,T0,fz,hh,by simpa using hs⟩
     ·cases fh
    subst mB;have dR:x8 W.heap b=arr.toList:=by simp only [x8,hh]
    have kx:∀ i ci,i<len->W.cells? 0 ((Addr.mk b off none).add (i*t.size)) t.size=some ci->off+i*t.size+t.size<=(x8 W.heap b).length/\ci=e8 W.heap b (off+i*t.size) t.size:=by
     intro i ci hi hc;obtain ⟨_,l1,g1⟩:=World.cells?_some hc;have hj:∀ j,j<t.size->(x8 W.heap b)[off+i*t.size+j]?=ci[j]?:=by
      intro j hj;have:=g1 j hj;rw [Addr.I2,Addr.I2] at this;simp only [World.cell?,hh] at this;rw [dR,<- this]; simp
     have hle:off+i*t.size+t.size<=(x8 W.heap b).length:=by
      have:=hj (t.size - 1) (by omega);rw [List.getElem?_eq_getElem (by omega:t.size - 1<ci.length)] at this;have:=(List.getElem?_eq_some_iff.1 this).1;omega
     refine ⟨hle,List.ext_getElem? (λ j=>?_)⟩;by_cases ry:j<t.size
     ·rw [<- hj j ry]
      simp only [e8,List.getElem?_take,if_pos ry,List.getElem?_drop]
     ·rw [List.getElem?_eq_none (by omega),List.getElem?_eq_none (by rw [LM _ _ _ hle]; omega)]
    have hlen:off+len*t.size<=(x8 W.heap b).length:=by
     obtain ⟨ci,y,_,q1,_⟩:=bN (len - 1) (by omega);have:=(kx (len - 1) ci (by omega) q1).1;have e:len*t.size=(len - 1)*t.size+t.size:=by
      rw [<- Nat.succ_mul]; congr 1; omega
     omega
    obtain ⟨l,q1,q2,q3⟩:=Iu (R:=i6 W.heap (λ b=>b<W.heap.size) t) (bk:=t.V7) (bw:=λ x:DataW X×List MemPlace=>K6 x.1) (n:=len) (sz:=t.size) (cs:=e8 W.heap b off (len*t.size)) oD (LM _ _ _ hlen) (λ i hi=>by
     obtain ⟨ci,y,z,r1,r2,r3,r4⟩:=bN i hi;have hle:i*t.size+t.size<=len*t.size:=by rw [<- Nat.succ_mul]; exact Nat.mul_le_mul_right _ hi
     rw [o6,n8 _ _ _ _ (by omega),<- (kx i ci hi r1).2];exact ⟨y,z,r3,r2,r4⟩)
    have dQ:b<W.heap.size:=(Array.getElem?_eq_some_iff.1 hh).1;subst q1;exact ⟨l,.inr ⟨b,off,cap,[],rfl,rq,⟨eg,by simp⟩,hlen,q2,rfl,rfl,dQ⟩,by simp only [Ty.V7,K6,Fu]; omega⟩
end
end Go.Ex
namespace Go.Ex
open Go.ChangeShapes Go.WideShapes Go.ChangeAt Go.RowKit
section
variable {P:Program} {X:Type} {enc:TypeId×Value->X} {W W':World} {sp:Nat->Bool} {held:Bool}
theorem b8z {k:Nat} {T:TypeId} {t:Ty} (hT:p9 P k T t=true) {r:Go.Reach} {base:Nat} {v:Value} (h:Value.okWide P W r base T v):v=s5 t v.cells.toList:=by
 obtain ⟨d,hd,dy⟩:=R6 hT;unfold Value.okWide at h;rw [hd] at h;cases t with
 | int q =>
  have hu:=yD hT;rw [hd] at hu; cases hu;simp only [Cell.okWide,hd,Cell.ok] at h;cases v<;>simp_all [s5,Ty.agg,Value.cells]
 | bool =>
  have hu:=EZ hT;rw [hd] at hu; cases hu;simp only [Cell.okWide,hd,Cell.ok] at h;cases v<;>simp_all [s5,Ty.agg,Value.cells]
 | str =>
  have hu:=Y2 hT;rw [hd] at hu; cases hu;simp only [Cell.okWide,hd,Cell.ok] at h;cases v<;>simp_all [s5,Ty.agg,Value.cells]
 | fn f =>
  obtain ⟨_,_,_,hu⟩:=Ox hT;rw [hd] at hu; cases hu;simp only [Cell.okWide,hd,Cell.ok] at h;cases v<;>simp_all [s5,Ty.agg,Value.cells]
 | map o a b =>
  obtain ⟨_,_,_,hu,_⟩:=Jw hT;rw [hd] at hu; cases hu;simp only [Cell.okWide,hd,Cell.ok] at h;cases v<;>simp_all [s5,Ty.agg,Value.cells]
 | box o g a =>
  cases g with
  | none =>
   obtain ⟨_,_,hu,_⟩:=Jv hT;rw [hd] at hu; cases hu;simp only [Cell.okWide,hd,Cell.ok] at h;cases v<;>simp_all [s5,Ty.agg,Value.cells]
  | some f =>
   obtain ⟨_,_,_,hu⟩:=QY hT;rw [hd] at hu; cases hu;simp only [Cell.okWide,hd,Cell.ok] at h;cases v<;>simp_all [s5,Ty.agg,Value.cells]
 | d8 o u =>
  obtain ⟨e,_,hu,_⟩:=H2 hT;rw [hd] at hu; cases hu;simp only [Cell.okWide,hd,Cell.ok] at h;cases v<;>simp_all [s5,Ty.agg,Value.cells]
 | hole u =>
  obtain ⟨e,hu⟩:=QZ hT;rw [hd] at hu; cases hu;simp only [Cell.okWide,hd,Cell.ok] at h;cases v<;>simp_all [s5,Ty.agg,Value.cells]
 | C6 u =>
  obtain ⟨e,hu⟩:=PJ hT;rw [hd] at hu; cases hu;simp only [Cell.okWide,hd,Cell.ok] at h;cases v<;>simp_all [s5,Ty.agg,Value.cells]
 | _ =>
  cases d<;>first|(exact (Bool.false_ne_true dy.symm).elim)|skip
  all_goals
   obtain ⟨cs,rfl,_⟩:=h;simp [s5,Ty.agg,Value.cells]
def yZ (P:Program):List TypeId->List Ty->Bool
 | [],[]=>true
 | T::ts,t::us=>p9 P 100 T t && t.flat && P.readableRec T && decide (T<P.types.size) && yZ P ts us
 | _,_=>false
def Aa:(us:List Ty)->DK (us.map .v)->Nat
 | [],_=>0
 | t::us,x=>t.V7 x.1+Aa us x.2
theorem Sd:∀ {ts:List TypeId} {us:List Ty},yZ P ts us=true->∀ {vs:List Value} {ds:List (DataW X)} {ps:List MemPlace} {base:Nat} {r:Go.Reach},DataW.TrodAll enc P W 0 sp held ts vs ds ps ->
  (∀ (j:Nat) T v,ts[j]?=some T->vs[j]?=some v->Value.okWide P W r base T v)->∃ x:DK (us.map .v),V0 W.heap (λ b=>b<W.heap.size) (us.map .v) vs x []/\ds.length=ts.length/\Aa us x<=U9 ds
 | [],[],_,vs,ds,ps,base,r,h,_=>by
  obtain ⟨rfl,rfl,rfl⟩:=trodAll_nil h;exact ⟨(),⟨rfl,rfl⟩,rfl,Nat.le_refl _⟩
 | [],_::_,h,_,_,_,_,_,_,_=>by cases h
 | _::_,[],h,_,_,_,_,_,_,_=>by cases h
 | T::ts,t::us,dn,vs,ds,ps,base,r,h,aK=>by
  simp only [yZ,Bool.and_eq_true] at dn;obtain ⟨⟨⟨⟨h1,h2⟩,_⟩,_⟩,h5⟩:=dn;obtain ⟨v,vs',d,ds',p,q,rfl,rfl,rfl,⟨fuel,hv⟩,hr⟩:=trodAll_cons h;obtain ⟨y,hy,hb⟩:=(b0Z t h2).1 h1 hv;obtain ⟨x,hx,hl,fE⟩:=Sd h5 hr (λ j T v hT hv=>aK (j+1) T v (by simpa using hT) (by simpa using hv));exact ⟨(y,x),⟨v,vs',[],[],rfl,rfl,⟨rfl,_,b8z h1 (aK 0 T v rfl rfl),hy⟩,hx⟩,by simp [hl],by simp only [Aa,U9]; exact Nat.add_le_add hb fE⟩
theorem TM (hl:laidOutB P=true) (hb:Below W.heap.size W W'):∀ {ts:List TypeId} {us:List Ty},yZ P ts us=true->∀ {vs:List Value} {ds:List (DataW X)} {ps:List MemPlace},DataW.TrodAll enc P W 0 (λ _=>true) true ts vs ds ps ->
  (∀ p∈ps,p.block<W.heap.size)->(∀ p∈ps,sp p.block=true)->DataW.TrodAll enc P W' 0 sp true ts vs ds ps
 | [],[],_,vs,ds,ps,h,_,_=>by
  obtain ⟨rfl,rfl,rfl⟩:=trodAll_nil h;rfl
 | [],_::_,h,_,_,_,_,_,_=>by cases h
 | _::_,[],h,_,_,_,_,_,_=>by cases h
 | T::ts,t::us,dn,vs,ds,ps,h,bj,fG=>by
  simp only [yZ,Bool.and_eq_true] at dn;obtain ⟨⟨⟨⟨_,_⟩,h3⟩,h4⟩,h5⟩:=dn;obtain ⟨v,vs',d,ds',p,q,rfl,rfl,rfl,hv,hr⟩:=trodAll_cons h;refine trodAll_cons_mk (WideElems.Trod_stays hl h3 (of_decide_eq_true h4) hv (λ x hx=>hb.same (bj x (by simp [hx]))) (λ x hx=>fG x (by simp [hx]))) ?_;exact TM hl hb h5 hr (λ x hx=>bj x (by simp [hx])) (λ x hx=>fG x (by simp [hx]))
def FY (us:List Ty) (pre:DK (us.map .v)->Prop):r9:={ ps:=us.map .v,rs:=[.bool],pre:=pre,fn:=λ _=>(true,()),out:=λ _=>Mo us }
where Mo:(us:List Ty)->DL (F6 (us.map .v))
 | []=>()
 | _::us=>Mo us
theorem Nv:∀ us:List Ty,(us.map PK.v).any PK.lnk=false
 | []=>rfl
 | _::us=>Nv us
theorem YB {C:Checked} {f:FuncId} {fn:Func} {s:ChangeSpec} {apart fresh handsOn again:Bool} {us:List Ty} {tb:TypeId} {pre:DK (us.map .v)->Prop}
  (hl:laidOutB C.prog=true) (dn:yZ C.prog fn.params.toList us=true) (fP:s.vars=[]) (hs:∀ ds:List (DataW X),ds.length=fn.params.toList.length->s.fn X ds={ results:=[.lit (.bool true)],args:=ds })
  (eN:fn.resultTypes=#[tb]) (om:C.prog.underlying tb=some .bool) (hv:(FY us pre).Valid C.prog f)
  {W:World} (ec:vm C.prog W (λ b=>b<W.heap.size)) {base:Nat} {args:Array Value} {ds gs:List (DataW X)} {before:List MemPlace} {rr:Go.Reach} (bg:∀ x,Aa us x<=U9 ds->pre x)
  (dH:∀ (j:Nat) t v,fn.params[j]?=some t->args[j]?=some v->Value.okWide C.prog W rr base t v) (hW:DataW.Whole enc C.prog fn.params.toList s.vars apart W args.toList ds gs before) :
  Calls C.prog f args W λ e W'=>∃ v,e=.returned v/\s.post enc C.prog fn apart fresh handsOn again W args v W':=by
 have bj:=DataW.Whole.lt hW;have rI:=hW;obtain ⟨p,q,hA,hV,rfl,hz,hn⟩:=hW;rw [fP] at hV;obtain ⟨rfl,rfl⟩:=trodVars_none hV;simp only [List.append_nil] at bj hz hn rI;obtain ⟨x,hx,hlen,lG⟩:=Sd dn hA (λ j T v hT hv=>dH j T v (by simpa using hT) (by simpa using hv));have hc:=hv.run W (λ b=>b<W.heap.size) args.toList x [] (λ _ h=>h) ec (bg x lG) hx (CG (Nv us)) List.nodup_nil (by simp);refine Calls.mono (by simpa using hc) ?_;rintro e w' ⟨us',O,Lo,S',rfl,bp,_,_,⟨v,us2,O1,O2,cs,rfl,rfl,rfl,hR,fF⟩,_,_,_⟩;have hb:RowKit.Below W.heap.size W w':=⟨bp.os,bp.tape.1,bp.out,bp.size,λ k hk=>bp.frame k hk (by simp)⟩;obtain ⟨rfl,rfl⟩:=fF;obtain ⟨_,rfl⟩:=hR;have pn:wE [s5 .bool [.bool ((FY us pre).fn x).1]]=.bool true:=rfl;rw [pn];have iT:=hs ds hlen;have aH:∀ sp:Nat->Bool,(∀ x∈p,sp x.block=true)->DataW.TrodAll enc C.prog w' 0 sp true fn.params.toList args.toList ds p:=λ sp fG=>TM hl hb dn hA bj fG;have cu:∀ (b:Nat) (sp:Nat->Bool) (hd:Bool),DataW.TrodAll enc C.prog w' b sp hd fn.resultTypes.toList ((Value.bool true).resultList fn.resultTypes.size) [.lit (.bool true)] []:=by
  intro b sp hd;rw [eN];exact trodAll_cons_mk (shut_bool om _) trodAll_mk0
 have jc:∀ sp:Nat->Bool,DataW.TrodVars enc C.prog w' sp s.vars [] []:=by intro sp; rw [fP]; rfl
 have hold:∀ x∈p,(λ b=>decide (b<W.heap.size)) x.block=true:=λ x hx=>by simpa using bj x hx
 refine ⟨_,rfl,ds,[],p,[],p,[],rI,?_,?_,?_,?_,?_⟩
 ·rw [List.append_nil,iT]; exact cu _ _ _
 ·rw [List.append_nil,iT]; exact aH _ hold
 ·rw [List.append_nil,iT]; exact jc _
 ·exact hb.frame _
 ·intro _
  refine ⟨ok_one eN rfl (okWide_bool_mk om _),.lit (.bool true)::ds,[],p,⟨[]++p,[],trodAll_append (aH _ (λ _ _=>rfl)) (cu _ _ _),jc _,by simp,?_,?_⟩,λ x hx _=>by simpa using hx⟩
  ·intro b off hp
   rw [hb.frozen (bj _ hp)];exact hz b off hp
  ·exact hn
def Na (us:List Ty):r9:=FY us (λ x=>Aa us x<=1048576)
end
end Go.Ex
