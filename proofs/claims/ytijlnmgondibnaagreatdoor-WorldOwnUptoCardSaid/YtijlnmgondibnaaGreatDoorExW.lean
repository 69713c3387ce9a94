import Derived.Test.YtijlnmgondibnaaGreatDoorExK8
import Derived.WalkKit
import Derived.ProofKit
import Derived.OpenShut
import Derived.JoinedCond
set_option linter.unusedVariables false
set_option linter.unusedSimpArgs false
set_option linter.unusedSectionVars false
namespace Go.Ex
section
variable {E:Env} {B:E3} {S S':Nat->Prop} {ι:Ix} {s:St} {a:Act} {w:World} {hp:List (Nat×i7)} {H H':Array Go.Obj}
def At (P:Program) (fn:Func) (R:Ending->World->Prop) (k:List Item) (a:Act) (w:World):Prop :=
 ∀ (b:Frame) (cs:List Frame),∃ (e:Exit) (a':Act) (w':World),bodyPost P fn R e a' w'/\Arrives P (lone (b.at a k) cs w) b [] cs e a' w'
section at_
variable {P:Program} {fn:Func} {R:Ending->World->Prop} {k k':List Item}
theorem At.step (hs:∀ (b:Frame) (cs:List Frame),step P (lone (b.at a k) cs w)=.next (lone (b.at a k') cs w)) (h:At P fn R k' a w):At P fn R k a w :=
 λ b cs=>let ⟨e,a',w',q,r⟩:=h b cs; ⟨e,a',w',q,.of_steps (.one (hs b cs)) r⟩
theorem At.region {id:Nat} {ops:Array Oper} {d:Bool} (h:(Code.region id ops d).wp P (λ e a w=>e=.normal/\At P fn R k a w) a w):At P fn R (.code (.region id ops d)::k) a w:=by
 intro b cs;obtain ⟨e,a',w',⟨rfl,h2⟩,eP⟩:=h b k cs;obtain ⟨e,a'',w'',q,r⟩:=h2 b cs;exact ⟨e,a'',w'',q,.of_steps eP r⟩
theorem At.done (h:bodyPost P fn R .normal a w):At P fn R [] a w:=λ _ _=>⟨.normal,a,w,h,Steps.refl _ _⟩
theorem At.ret (h:bodyPost P fn R .ret a w):At P fn R (.code .ret::k) a w:=λ _ _=>⟨.ret,a,w,h,_,.one step_ret⟩
theorem Li {f:FuncId} {c:Code} {args:Array Value} (hf:P.funcs[f]?=some fn) (hb:fn.body=some c)
  (h:At P fn R [.code c] { tmps:=args++Array.replicate (fn.ntmps - args.size) undef,defers:=[] } w):Calls P f args w R:=by
 intro cs
 let b:Frame:={ (default:Frame) with fn:=f,kind:=.normal }
 have ld:Frame.enter P f args .normal=b.at { tmps:=args++Array.replicate (fn.ntmps - args.size) undef,defers:=[] } [.code c]:=by
  simp [Frame.enter,Frame.at,hf,hb,b]
 obtain ⟨e,a',w',hq,eP⟩:=h b cs;rw [<- ld] at eP;cases e with
 | normal =>
  obtain ⟨hd,v,hr,hR⟩:=hq;exact ⟨.returned v,w',_,hR,Steps.trans eP (.one step_end),rfl,rfl,hd,rfl,fn,hf,hr⟩
 | ret =>
  obtain ⟨hd,v,hr,hR⟩:=hq;obtain ⟨todo,hs⟩:=eP;exact ⟨.returned v,w',_,hR,hs,rfl,rfl,hd,rfl,fn,hf,hr⟩
 | panic chain =>
  obtain ⟨hd,hR⟩:=hq;obtain ⟨todo,hs⟩:=eP;exact ⟨.panicked chain,w',_,hR,hs,rfl,rfl,hd,fn,hf⟩
 | exit id=>exact hq.elim
 | goto l=>exact hq.elim
 | outgrown=>exact ⟨.outgrown,w',b,hq,eP.resolve_left (by simp [b]),rfl,trivial⟩
end at_
theorem RS.P0 (live:List Nat) (s0:St):∀ {l:List (Nat×i7)} {s:St},RS B S ι s a w->RS B S ι (P0 live s0 l s) a w
 | [],_,h=>h
 | (i,_)::l,s,h=>by
  simp only [Ex.P0]
  split
  ·exact RS.P0 live s0 h
  ·rename_i hp
   simp only [Bool.or_eq_false_iff] at hp;exact RS.P0 live s0 (h.drop hp.1)
theorem RS.Hl (h:RS B S ι s a w) {m d:Nat} (hf:s.fresh d=true) {t:Ty} {x:t.den} {O:List Nat} {cs:List Value} (hv:a.tmps.getD m (B.gd m)=n8 t cs) (hR:i6 w.heap S t O cs x) (hF:F4 B S ι s.hp w O) :
  ∃ ι',RS B S ι' { s.w8 d (.own t x) with fr:=Ex.put m (.at_ d []) s.fr } a w :=
 ⟨_,(h.hold hf hR hF).slot (t:=m) (v:=.at_ d []) (by rw [hv]; exact Ac hR.length)⟩
def yW (ι ι':Ix) (i j:Nat):Prop:=ι'.root j=ι.root i/\ι'.cells j=ι.cells i/\ι'.own j=ι.own i
theorem yW.place {ι':Ix} {i j:Nat} (h:yW ι ι' i j) {H:Array Go.Obj} {e:i7} {p:List Step}:Place H ι' j e p=Place H ι i e p:=by
 obtain ⟨h1,h2,h3⟩:=h;cases e<;>simp only [Place,VH,VR,h1,h2]
theorem yW.loc {ι':Ix} {i j:Nat} (h:yW ι ι' i j) {H:Array Go.Obj} {e:i7} {p:List Step}:Loc H ι' j e p=Loc H ι i e p:=by
 simp only [Loc,h.place]
theorem yW.BD {ι':Ix} {i j:Nat} (h:yW ι ι' i j) {H:Array Go.Obj} {e:i7} {p:List Step} {u:Ty} {cs:List Value}:Cells H ι' j e p u cs↔Cells H ι i e p u cs:=by
 have hv:VH H ι' j e=VH H ι i e:=by obtain ⟨h1,h2,h3⟩:=h; cases e<;>simp only [VH,h2]
 simp only [Cells,h.place,hv]
theorem RS.ren (h:RS B S ι s a w) {i j:Nat} (hi:pinned i=false) {u:Ty} {x:u.den} (h1:look i s.hp=some (.own u x)) (hf:s.fresh j=true) :
  ∃ ι',RS B S ι' { fr:=mapA (AV.ren i j) s.fr,hp:=Ex.put j (.own u x) (del i s.hp) } a w:=by
 obtain ⟨f1,f2⟩:=EI hf;have bN:i≠j:=by rintro rfl; rw [f1] at h1; cases h1
 let ι':Ix:={ root:=λ k=>if k=j then ι.root i else ι.root k,cells:=λ k=>if k=j then ι.cells i else ι.cells k,own:=λ k=>if k=j then ι.own i else ι.own k }
 have lF:yW ι ι' i j:=⟨by simp [ι'],by simp [ι'],by simp [ι']⟩;have ra:∀ k,k≠j->E8 ι ι' k:=λ k hk=>⟨by simp [ι',hk],by simp [ι',hk],by simp [ι',hk]⟩;have hF:F4 B S ι (St.w9 [i] s).hp w (ι.own i):=by
  obtain ⟨⟨O,hO,hR⟩,aF⟩:=(h.hs.ob i _ h1:OB w.heap S ι i (.own u x));exact F4.w9 h.hs aF (λ b hb=>⟨i,_,by simp,h1,hb⟩)
 have aS:OB w.heap S ι' j (.own u x):=by
  obtain ⟨⟨O,hO,hR⟩,aF⟩:=(h.hs.ob i _ h1:OB w.heap S ι i (.own u x));obtain ⟨e1,e2,e3⟩:=lF;exact ⟨⟨O,by rw [e3]; exact hO,by rw [e2]; exact hR⟩,by rw [e3]; exact aF⟩
 have hd:=h.hs.drop hi;refine ⟨ι',⟨hd.add (d:=j) (e:=.own u x) (ι':=ι') (O:=ι.own i) ?_ ra aS ?_ hF,h.dfr,h.sz,?_⟩⟩
 ·rw [K3]; split<;>first|rfl|exact f1
 ·intro b hb
  have:ι'.own j=ι.own i:=lF.2.2;show b∈ι.own i;rw [<- this]; exact hb
 ·intro t v hv
  simp only [O6,Option.map_eq_some_iff] at hv;obtain ⟨v0,fb,rfl⟩:=hv;have nQ:=f2 t v0 fb;refine VX.map (λ _ _=>rfl) (λ _ h=>h) (λ q vs hq hm hv=>?_) (h.fr t v0 fb);have de:∀ k,q.j5 k=true->k≠i->look k (Ex.put j (.own u x) (del i s.hp))=look k s.hp:=by
   intro k hk gy;have mS:k≠j:=by rintro rfl; rw [hm k hk] at nQ; cases nQ
   rw [p7,if_neg mS,K3,if_neg gy]
  have df:look j (Ex.put j (i7.own u x) (del i s.hp))=some (.own u x):=by rw [p7,if_pos rfl]
  dsimp only
  split
  ·rename_i bU
   refine VX.other (λ k hk=>de k hk ?_) (λ k hk=>ra k ?_) hv
   ·rintro rfl; rw [hk] at bU; cases bU
   ·rintro rfl; rw [hm k hk] at nQ; cases nQ
  ·rename_i bU
   split
   ·rename_i k p
    have:=Nat.eq_of_beq_eq_true bU;subst this;obtain ⟨e,b,off,k1,k2,k3,k4⟩:=hv;rw [h1] at k1; cases k1;exact ⟨_,b,off,df,k2,lF.loc.trans k3,k4⟩
   ·rename_i k p
    have:=Nat.eq_of_beq_eq_true bU;subst this;obtain ⟨e,u',y,cs,k1,k2,k3,k4,k5⟩:=hv;rw [h1] at k1; cases k1;exact ⟨_,u',y,cs,df,k2,k3,lF.BD.2 k4,k5⟩
   ·rename_i k p lo cR
    have:=Nat.eq_of_beq_eq_true bU;subst this;obtain ⟨e,v,k1,k2,k3,k4,k5,k6⟩:=hv;rw [h1] at k1; cases k1;refine ⟨_,v,df,k2,k3,k4,k5,?_⟩;rcases k6 with ⟨t',l,A,cap,q1,q2,q3,q4⟩|⟨n,t',l,b,off,q1,q2,q3,q4⟩
    ·exact .inl ⟨t',l,A,cap,q1,q2,lF.BD.2 q3,q4⟩
    ·exact .inr ⟨n,t',l,b,off,q1,q2,lF.loc.trans q3,q4⟩
   ·obtain ⟨y,e⟩:=VX.one hq hv
    exact ⟨y,e⟩
theorem RS.settle (h:RS B S ι s a w) (m:Nat) (t:Ty):∃ ι',RS B S ι' (settle m t s) a w:=by
 have hg:=h.get m;unfold Ex.settle
 split
 ·rename_i hm
  rw [hm] at hg;have hv:a.tmps.getD m (B.gd m)=Value.slice none 0 0:=by
   have:[a.tmps.getD m (B.gd m)]=[Value.slice none 0 0]:=hg;simpa using this
  split
  ·rename_i u hf
   exact h.Hl hf (t:=.d0 true u) (x:=([]:List u.den)) (O:=[]) (cs:=[.slice none 0 0]) hv (.inl ⟨rfl,⟨none,0,rfl,λ _=>rfl⟩,rfl⟩) F4.nil
  ·exact ⟨ι,h⟩
 ·rename_i i hm
  split
  ·rename_i u x aS
   split
   ·exact ⟨ι,h⟩
   ·rename_i hc
    simp only [Bool.or_eq_false_iff,Bool.not_eq_false'] at hc;exact h.ren hc.1 aS hc.2
  ·exact ⟨ι,h⟩
 ·rename_i i lo hi hm
  rw [hm] at hg
  split
  ·rename_i u x g cP
   split
   ·exact ⟨ι,h⟩
   ·rename_i hc
    simp only [Bool.or_eq_false_iff,Bool.not_eq_false'] at hc;obtain ⟨O,cs,k1,k2,k3,k4⟩:=Ar h.hs cP hg;have eo:g=[i]:=by
     simp only [AV.vj] at cP;split at cP<;>cases cP;rfl
    subst eo;exact (h.drop hc.1).Hl hc.2 k1 k2 (F4.w9 h.hs k3 k4)
  ·exact ⟨ι,h⟩
 ·rename_i u x hm
  rw [hm] at hg
  split
  ·rename_i hc
   simp only [Bool.and_eq_true] at hc;obtain ⟨cs,e,hR⟩:=hg;exact h.Hl hc.2 (by simpa using e) hR F4.nil
  ·exact ⟨ι,h⟩
 ·exact ⟨ι,h⟩
theorem RS.X2:∀ {l:List (Nat×Option Ty)} {ι:Ix} {s:St},RS B S ι s a w->∃ ι',RS B S ι' (X2 l s) a w
 | [],ι,s,h=>⟨ι,h⟩
 | (_,none)::l,ι,s,h=>RS.X2 (l:=l) h
 | (m,some t)::l,ι,s,h=>by
  obtain ⟨ι',h'⟩:=h.settle m t;exact RS.X2 (l:=l) h'
theorem RS.canon (h:RS B S ι s a w) (x:List (Nat×Option Ty)):∃ ι',RS B S ι' (canon x s) a w:=by
 have h1:RS B S ι (Ex.P0 (x.map (·.1)) s s.hp s) a w:=RS.P0 (x.map (·.1)) s h;obtain ⟨ι',h2⟩:=RS.X2 (l:=x) h1;have h3:=RS.P0 (x.map (·.1)) (Ex.X2 x (Ex.P0 (x.map (·.1)) s s.hp s)) (l:=(Ex.X2 x (Ex.P0 (x.map (·.1)) s s.hp s)).hp) h2;refine ⟨ι',h3.hs,h3.dfr,h3.sz,?_⟩;intro t v hv;simp only [Ex.canon] at hv;generalize hs:Ex.P0 (x.map (·.1)) (Ex.X2 x (Ex.P0 (x.map (·.1)) s s.hp s)) (Ex.X2 x (Ex.P0 (x.map (·.1)) s s.hp s)).hp (Ex.X2 x (Ex.P0 (x.map (·.1)) s s.hp s))=s1 at hv h3;have:v=s1.get t:=by
  generalize x.map (·.1)=ts at hv;clear h3 hs;revert hv
  induction ts with
  | nil=>intro hv; cases hv
  | cons t' l ih =>
   intro hv;simp only [List.map_cons,look] at hv;cases hb:Nat.beq t t' with
   | true =>
    rw [hb] at hv;have:=Nat.eq_of_beq_eq_true hb;subst this;cases hv; rfl
   | false=>rw [hb] at hv; exact ih hv
 rw [this];have:=h3.get t;simp only [Ex.canon,hs];exact this
theorem KH (hE:D0 E B) (h:RS B S ι s a w):∀ {rs:List ResultVar} {l:AV},xY E s rs=some l ->
  ∃ us,(rs.mapM λ r=>(match r with
   | .tmp t=>pure (a.tmps.getD t undef)
   | .cell c t=>do loadVar t (<- asAddr (a.tmps.getD c undef)):Sem Value)).run E.P w=.ok us w/\VX w.heap S ι s.hp l us
 | [],l,hl=>by
  simp only [xY,Option.some.injEq] at hl;subst hl;exact ⟨[],rfl,rfl⟩
 | .tmp t::rs,l,hl=>by
  simp only [xY] at hl;split at hl
  ·rename_i v hv
   cases hl;obtain ⟨us,h1,h2⟩:=KH hE h hv;exact ⟨a.tmps.getD t undef::us,by simp only [List.mapM_cons,Sem.run_bind,Sem.run_pure,Result.andThen,h1],_,us,rfl,h.ev (.tmp t),h2⟩
  ·cases hl
 | .cell c T::rs,l,hl=>by
  simp only [xY] at hl;split at hl
  ·rename_i i p hc
   have hv:=h.ev (.tmp c);rw [hc] at hv;obtain ⟨e,b,off,k1,k2,k3,k4⟩:=hv;have k4:a.tmps.getD c undef=.pointer (some ⟨b,off,none⟩):=by
    have k5:[a.tmps.getD c undef]=[.pointer (some ⟨b,off,none⟩)]:=k4;exact List.head_eq_of_cons_eq k5
   split at hl
   ·rename_i u y cO
    have hg:=H8 k1 cO;split at hl
    ·rename_i bz
     split at hl
     ·rename_i v hv
      obtain ⟨us,h1,h2⟩:=KH hE h hv;obtain ⟨O2,m1,mn,m2,m3,m4,m5⟩:=M7 (K2 k3) (h.hs.ob i _ k1) h.hs.slt k2 hg k3;have sN:(do loadVar T (<- asAddr (a.tmps.getD c undef)):Sem Value).run E.P w=.ok (n8 u (d9 w.heap b off u.size)) w:=by
       rw [k4]; simp [asAddr,AI (D4 hE bz) m2]
      refine ⟨n8 u (d9 w.heap b off u.size)::us,?_,?_⟩
      ·simp only [List.mapM_cons]
       rw [Sem.run_bind,sN];simp only [Result.andThen,Sem.run_bind,Sem.run_pure,h1]
      ·split at hl
       ·rename_i hs
        cases hl;have:=m2.N5 hs;subst this;exact ⟨_,us,rfl,⟨_,rfl,m2⟩,h2⟩
       ·cases hl
        obtain ⟨r3,r4⟩:=C6 k3;exact ⟨_,us,rfl,⟨_,u,y,_,k1,k2,hg,⟨b,off,r3,by rw [l6 (G0 r4)]⟩,rfl⟩,h2⟩
     ·cases hl
    ·cases hl
   ·cases hl
  ·cases hl
theorem b7Q (hE:D0 E B) (h:RS B S ι s a w) {fn:Func} (du:fn.results.toList=E.res) {l:AV} (hl:xY E s E.res=some l) :
  ∃ us,(results fn a.tmps).run E.P w=.ok (wJ us) w/\VX w.heap S ι s.hp l us:=by
 obtain ⟨us,h1,h2⟩:=KH hE h hl;refine ⟨us,?_,h2⟩;rw [<- du] at h1;have:(fn.results.mapM λ r=>(match r with
   | .tmp t=>pure (a.tmps.getD t undef)
   | .cell c t=>do loadVar t (<- asAddr (a.tmps.getD c undef)):Sem Value)).run E.P w=.ok us.toArray w:=by
  rw [Array.mapM_eq_mapM_toList,Sem.run_map,h1]; rfl
 simp only [results];rw [Sem.run_bind];refine (congrArg (λ r:Result (Array Value)=>r.andThen λ vs w'=>Sem.run E.P (pure (if h:vs.size=1 then vs[0] else Value.tuple vs)) w') this).trans ?_;simp only [Result.andThen,Sem.run_pure]
 match us with
 | []=>rfl
 | [v]=>rfl
 | v::v2::l=>rfl
theorem c0v (h:HS B S ι s.hp w) {t:Ty} {used eZ:List Nat} {av:AV} {x:t.den} {v:Value} (hr:Ia s t used av=some (x,eZ)) (hv:VX w.heap S ι s.hp av [v]) :
  ∃ O cs,v=n8 t cs/\i6 w.heap S t O cs x/\O.Nodup/\(∀ b∈O,∃ i e,i∈eZ/\i∉used/\pinned i=false/\look i s.hp=some e/\b∈l7 ι i e)/\∀ i∈used,i∈eZ:=by
 unfold Ia at hr;split at hr
 ·rename_i i
  split at hr
  ·cases hr
  ·rename_i hc
   simp only [Bool.or_eq_false_iff] at hc;obtain ⟨dK,ik⟩:=hc;have kL:i∉used:=by intro hm; simp [hm] at dK
   obtain ⟨e,u,y,cs,h1,h2,h3,h4,h5⟩:=hv;have key:∀ {e0:i7},s.obj i=some e0->(hu:e0.ty=t)->∀ {x},x=W6 hu e0.x->∃ O cs,v=n8 t cs/\i6 w.heap S t O cs x/\O.Nodup/\(∀ b∈O,∃ j e,j∈i::used/\j∉used/\pinned j=false/\look j s.hp=some e/\b∈l7 ι j e)/\∀ j∈used,j∈i::used:=by
    rintro e0 aS rfl x rfl;obtain rfl:=wP h1 aS;rw [C2] at h3; cases h3;obtain ⟨O2,m1,m2,m3⟩:=G4 h h1 h2 C2 h4;exact ⟨O2,cs,by simpa using h5,m3,m2,λ b hb=>⟨i,_,by simp,kL,ik,h1,I2 (m1 b hb)⟩,λ j hj=>by simp [hj]⟩
   split at hr
   ·rename_i u' x' aS
    split at hr
    ·rename_i hu; cases hr; exact key (e0:=.var u' x') aS hu rfl
    ·cases hr
   ·rename_i u' x' aS
    split at hr
    ·rename_i hu; cases hr; exact key (e0:=.own u' x') aS hu rfl
    ·cases hr
   ·cases hr
 ·rename_i i lo hi
  split at hr
  ·cases hr
  ·rename_i hc
   simp only [Bool.or_eq_false_iff] at hc;obtain ⟨dK,ik⟩:=hc;have kL:i∉used:=by intro hm; simp [hm] at dK
   split at hr
   ·rename_i u x' g cP
    split at hr
    ·rename_i hu
     cases hr;subst hu;obtain ⟨O,cs,k1,k2,k3,k4⟩:=Ar h cP hv;have eo:g=[i]:=by
      simp only [AV.vj] at cP;split at cP<;>cases cP;rfl
     subst eo;refine ⟨O,cs,k1,k2,k3,λ b hb=>?_,λ j hj=>by simp [hj]⟩;obtain ⟨j,e,j1,j2,j3⟩:=k4 b hb;simp only [List.mem_cons,List.not_mem_nil,or_false] at j1;subst j1;exact ⟨j,e,by simp,kL,ik,j2,j3⟩
    ·cases hr
   ·cases hr
 ·rename_i i
  split at hr
  ·cases hr
  ·rename_i hc
   simp only [Bool.or_eq_false_iff] at hc;obtain ⟨dK,ik⟩:=hc;have kL:i∉used:=by intro hm; simp [hm] at dK
   split at hr
   ·rename_i u y aS
    split at hr
    ·rename_i hu
     subst hu;cases hr;obtain ⟨e,b,off,h1,h2,h3,h4⟩:=hv;obtain rfl:=wP h1 aS;obtain ⟨⟨O,hO,hR⟩,hf,aF⟩:=h.ob i _ h1;have hl:(ι.root i).1=b/\(ι.root i).2=off:=by
      have:=(C6 h3).1;simp only [Place,y8,VR,Option.some.injEq,Prod.mk.injEq] at this;exact this
     obtain ⟨rfl,rfl⟩:=hl;refine ⟨(ι.root i).1::O,[.pointer (some ⟨(ι.root i).1,(ι.root i).2,none⟩)],by simpa [n8,Ty.agg] using h4,.inr ⟨_,_,_,O,rfl,rfl,hf.u5,hR,rfl,hf⟩,((hO.cons _).nodup_iff).2 aF,λ c hc=>⟨i,_,by simp,kL,ik,h1,?_⟩,λ j hj=>by simp [hj]⟩;simp only [l7];exact ((hO.cons _).mem_iff).1 hc
    ·cases hr
   ·cases hr
 ·rename_i f i
  split at hr
  ·cases hr
  ·rename_i hc
   simp only [Bool.or_eq_false_iff] at hc;obtain ⟨dK,ik⟩:=hc;have kL:i∉used:=by intro hm; simp [hm] at dK
   split at hr
   ·rename_i u y aS
    split at hr
    ·rename_i hu
     subst hu;cases hr;obtain ⟨us,fa,v0,us0,rfl,⟨e,b,off,h1,h2,h3,h4⟩,lD⟩:=hv;have lD:us0=[]:=lD;subst lD;have h4:v0=.pointer (some ⟨b,off,none⟩):=by simpa using h4
     subst h4;obtain rfl:=wP h1 aS;obtain ⟨⟨O,hO,hR⟩,hf,aF⟩:=h.ob i _ h1;have hl:(ι.root i).1=b/\(ι.root i).2=off:=by
      have:=(C6 h3).1;simp only [Place,y8,VR,Option.some.injEq,Prod.mk.injEq] at this;exact this
     obtain ⟨rfl,rfl⟩:=hl;refine ⟨(ι.root i).1::O,[xd (some f) ⟨(ι.root i).1,(ι.root i).2,none⟩],by simpa [n8,Ty.agg,xd] using fa,.inr ⟨_,_,_,O,rfl,rfl,hf.u5,hR,rfl,hf⟩,((hO.cons _).nodup_iff).2 aF,λ c hc=>⟨i,_,by simp,kL,ik,h1,?_⟩,λ j hj=>by simp [hj]⟩;simp only [l7];exact ((hO.cons _).mem_iff).1 hc
    ·cases hr
   ·cases hr
 ·split at hr
  ·cases hr
   have hv:v=Value.pointer none:=by
    have:[v]=[Value.pointer none]:=hv;simpa using this
   subst hv;exact ⟨[],[.pointer none],by simp [n8,Ty.agg],.inl ⟨rfl,rfl,rfl⟩,List.nodup_nil,by simp,λ _ h=>h⟩
  ·cases hr
 ·split at hr
  ·rename_i x' hx
   cases hr;obtain ⟨cs,e,hR⟩:=HK hx hv;exact ⟨[],cs,e,hR,List.nodup_nil,by simp,λ _ h=>h⟩
  ·cases hr
theorem Tc (h:HS B S ι s.hp w):∀ {rs:List Ty} {used:List Nat} {l:AV} {y:DL rs} {us:List Value},AS s rs used l=some y->VX w.heap S ι s.hp l us ->
  ∃ O,K8 w.heap S rs O us y/\O.Nodup/\∀ b∈O,∃ i e,i∉used/\pinned i=false/\look i s.hp=some e/\b∈l7 ι i e
 | [],used,l,y,us,hr,hv=>by
  cases l<;>simp only [AS] at hr<;>first|cases hr|skip
  exact ⟨[],⟨rfl,hv⟩,List.nodup_nil,by simp⟩
 | t::ts,used,l,y,us,hr,hv=>by
  cases l<;>simp only [AS] at hr<;>first|cases hr|skip
  rename_i av bv;obtain ⟨v,us',rfl,ha,hb⟩:=hv;split at hr
  ·rename_i x eZ h1
   split at hr
   ·rename_i y' h2
    cases hr;obtain ⟨O1,cs,k1,k2,k3,k4,k5⟩:=c0v h h1 ha;obtain ⟨O2,m1,m2,m3⟩:=Tc h h2 hb;refine ⟨O1++O2,⟨v,us',O1,O2,cs,rfl,rfl,k1,k2,m1⟩,List.nodup_append.2 ⟨k3,m2,?_⟩,?_⟩
    ·rintro c hc d hd rfl
     obtain ⟨i,e,i1,_,_,i2,i3⟩:=k4 c hc;obtain ⟨j,e',j1,_,j2,j3⟩:=m3 c hd;exact h.dj i j e e' i2 j2 (by rintro rfl; exact j1 i1) c i3 j3
    ·intro c hc
     rcases List.mem_append.1 hc with hc|hc
     ·obtain ⟨i,e,_,i1,i4,i2,i3⟩:=k4 c hc
      exact ⟨i,e,i1,i4,i2,i3⟩
     ·obtain ⟨j,e',j1,j4,j2,j3⟩:=m3 c hc
      exact ⟨j,e',λ hj=>j1 (k5 j hj),j4,j2,j3⟩
   ·cases hr
  ·cases hr
def M4:(ks:List PK)->List Value->Nat->List (Nat×(Nat×Nat)×List Value)
 | .rw _::ks,v::vs,i=>(match v with
  | .pointer (some a)=>(2000000+i,(a.block,a.off),[])
  | _=>(2000000+i,(0,0),[]))::M4 ks vs (i+1)
 | .mu _::ks,v::vs,i=>(2000000+i,(0,0),[v])::M4 ks vs (i+1)
 | _::ks,_::vs,i=>M4 ks vs (i+1)
 | _,_,_=>[]
theorem Fg (h:HS B S ι s.hp w) {H0:Array Go.Obj} {S0:Nat->Prop}:∀ {ks:List PK} {vs:List Value} {x:DK ks} {L0:List Nat} {j:Nat} {z:DL (E6 ks)},U6 H0 S0 ks vs x L0->(∀ q∈M4 ks vs j,q∈B.pins)->vw s ks j=some z ->
  ∃ Lo,G3 w.heap S ks vs z Lo/\Lo.Nodup/\∀ b∈Lo,∃ i e,2000000+j<=i/\look i s.hp=some e/\b∈l7 ι i e
 | [],vs,x,L0,j,z,hK,_,hz=>⟨[],⟨hK.1,rfl⟩,List.nodup_nil,by simp⟩
 | k::ks,vs,x,L0,j,z,⟨v,us,L1,L2,e1,e2,hk,hK⟩,hp,hz=>by
  subst e1 e2;have plain:∀ {z':DL (E6 ks)},(∀ q∈M4 ks us (j+1),q∈B.pins)->vw s ks (j+1)=some z'->∃ Lo,G3 w.heap S ks us z' Lo/\Lo.Nodup/\∀ b∈Lo,∃ i e,2000000+j<=i/\look i s.hp=some e/\b∈l7 ι i e:=by
   intro z' hp hz;obtain ⟨Lo,k1,k2,k3⟩:=Fg h hK hp hz;exact ⟨Lo,k1,k2,λ b hb=>by obtain ⟨i,e,i1,i2,i3⟩:=k3 b hb; exact ⟨i,e,by omega,i2,i3⟩⟩
  have join:∀ {L1 Lo:List Nat} {e0:i7},look (2000000+j) s.hp=some e0->L1.Nodup->(∀ b∈L1,b∈l7 ι (2000000+j) e0)->Lo.Nodup->(∀ b∈Lo,∃ i e,2000000+(j+1)<=i/\look i s.hp=some e/\b∈l7 ι i e) ->
    (L1++Lo).Nodup/\∀ b∈L1++Lo,∃ i e,2000000+j<=i/\look i s.hp=some e/\b∈l7 ι i e:=by
   intro L1 Lo e0 h1 n1 m1 n2 m2;refine ⟨List.nodup_append.2 ⟨n1,n2,?_⟩,?_⟩
   ·rintro c hc d hd rfl
    obtain ⟨i,e,i1,i2,i3⟩:=m2 c hd;exact h.dj (2000000+j) i e0 e h1 i2 (by omega) c (m1 c hc) i3
   ·intro b hb
    rcases List.mem_append.1 hb with hb|hb
    ·exact ⟨_,e0,Nat.le_refl _,h1,m1 b hb⟩
    ·obtain ⟨i,e,i1,i2,i3⟩:=m2 b hb; exact ⟨i,e,by omega,i2,i3⟩
  cases k with
  | v t=>obtain ⟨Lo,k1,k2⟩:=plain hp hz; exact ⟨Lo,⟨v,us,rfl,k1⟩,k2⟩
  | rd t=>obtain ⟨Lo,k1,k2⟩:=plain hp hz; exact ⟨Lo,⟨v,us,rfl,k1⟩,k2⟩
  | C5 f ts=>obtain ⟨Lo,k1,k2⟩:=plain hp hz; exact ⟨Lo,⟨v,us,rfl,k1⟩,k2⟩
  | V7=>obtain ⟨Lo,k1,k2⟩:=plain hp hz; exact ⟨Lo,⟨v,us,rfl,k1⟩,k2⟩
  | rcs f n=>obtain ⟨Lo,k1,k2⟩:=plain hp hz; exact ⟨Lo,⟨v,us,rfl,k1⟩,k2⟩
  | el q=>obtain ⟨Lo,k1,k2⟩:=plain hp hz; exact ⟨Lo,⟨v,us,rfl,k1⟩,k2⟩
  | own t=>obtain ⟨Lo,k1,k2⟩:=plain hp hz; exact ⟨Lo,⟨v,us,rfl,k1⟩,k2⟩
  | rw t =>
   obtain ⟨b0,off0,O0,rfl,_,_,_⟩:=hk;simp only [vw] at hz;split at hz
   ·rename_i u x' y' aS il
    split at hz
    ·rename_i hu
     cases hz;subst hu;have aS:look (2000000+j) s.hp=some (.var u x'):=aS;obtain ⟨Lo,k1,k2,k3⟩:=Fg h hK (λ q hq=>hp q (by simp only [M4]; exact List.mem_cons_of_mem _ hq)) il;obtain ⟨_,_,p3,p4⟩:=h.pin (2000000+j,(b0,off0),[]) (hp _ (by simp [M4]));have p3:ι.root (2000000+j)=(b0,off0):=p3;obtain ⟨⟨O,hO,hR⟩,dI,aF⟩:=(h.ob _ _ aS:OB w.heap S ι (2000000+j) (.var u x'));rw [p3] at hR dI aF;have ew:(b0::O).Nodup:=List.nodup_cons.2 ⟨λ hb=>(List.nodup_cons.1 aF).1 (hO.mem_iff.1 hb),hO.nodup_iff.2 (List.nodup_cons.1 aF).2⟩;obtain ⟨j1,j2⟩:=join aS ew (λ b hb=>by
      rcases List.mem_cons.1 hb with rfl|hb
      ·simp [l7,p3]
      ·simp [l7,hO.mem_iff.1 hb]) k2 k3
     exact ⟨(b0::O)++Lo,⟨b0,off0,O,us,Lo,rfl,hR,dI,rfl,k1⟩,j1,j2⟩
    ·cases hz
   ·cases hz
  | mu t =>
   obtain ⟨cs0,rfl,fC⟩:=hk;simp only [vw] at hz;split at hz
   ·rename_i u x' y' aS il
    split at hz
    ·rename_i hu
     cases hz;subst hu;have aS:look (2000000+j) s.hp=some (.own (.d0 true t) x'):=aS;obtain ⟨Lo,k1,k2,k3⟩:=Fg h hK (λ q hq=>hp q (by simp only [M4]; exact List.mem_cons_of_mem _ hq)) il;obtain ⟨_,_,p3,p4⟩:=h.pin (2000000+j,(0,0),[n8 (.d0 true t) cs0]) (hp _ (by simp [M4]));have p4:ι.cells (2000000+j)=[n8 (.d0 true t) cs0]:=p4;obtain ⟨⟨O,hO,hR⟩,aF⟩:=(h.ob _ _ aS:OB w.heap S ι (2000000+j) (.own (.d0 true t) x'));rw [p4] at hR;obtain ⟨j1,j2⟩:=join aS (hO.nodup_iff.2 aF) (λ b hb=>hO.mem_iff.1 hb) k2 k3;exact ⟨O++Lo,⟨[n8 (.d0 true t) cs0],O,us,Lo,rfl,rfl,hR,rfl,k1⟩,j1,j2⟩
    ·cases hz
   ·cases hz
end
end Go.Ex
namespace Go.Ex
def zO {α:Type} (p:α->Prop) (l:List α):Prop:=∀ x∈l,p x
def H3:(t:Ty)->t.den->Prop
 | .int k,n=>r9 k n
 | .bool,_=>True
 | .str,s=>List.length s<=maxLen
 | .unit,_=>True
 | .fn _,_=>True
 | .hole _,_=>True
 | .B8 t,x=>List.length x.2.1<=maxLen/\zO (H3 t) x.2.1
 | .map _ k v,x=>match x with
  | none=>True
  | some l=>zO (λ p=>H3 k p.1/\H3 v p.2) l
 | .box _ _ t,x=>match x with
  | none=>True
  | some y=>H3 t y
 | .pair a b,x=>H3 a x.1/\H3 b x.2
 | .arr n t,l=>List.length l=n/\zO (H3 t) l
 | .d0 _ t,l=>List.length l<=maxLen/\zO (H3 t) l
def AV.H3:AV->Prop
 | .val t x=>Ex.H3 t x
 | .O5 t x=>Ex.H3 t x
 | _=>True
def Hr:List (Nat×AV)->Prop
 | []=>True
 | (_,v)::l=>v.H3/\Hr l
def Bp:List (Nat×i7)->Prop
 | []=>True
 | (_,.var t x)::l=>Ex.H3 t x/\Bp l
 | (_,.own t x)::l=>Ex.H3 t x/\Bp l
 | (_,.K5)::l=>Bp l
def St.H3 (s:St):Prop:=Hr s.fr/\Bp s.hp
def PK.H3:(k:PK)->k.den->Prop
 | .v t,x=>Ex.H3 t x
 | .rd t,x=>Ex.H3 t x
 | .C5 _ ts,x=>Hf ts x
 | .own t,x=>Ex.H3 t x
 | .rw t,x=>Ex.H3 t x
 | .mu t,x=>Ex.H3 (.d0 true t) x
 | .V7,_=>True
 | .rcs _ _,_=>True
 | .el _,_=>True
where Hf:(ts:List Ty)->DL ts->Prop
 | [],_=>True
 | t::ts,x=>Ex.H3 t x.1/\Hf ts x.2
def Hj:(ks:List PK)->DK ks->Prop
 | [],_=>True
 | k::ks,x=>k.H3 x.1/\Hj ks x.2
section
variable {E:Env} {B:E3} {S S':Nat->Prop} {ι:Ix} {s:St} {a:Act} {w:World} {hp:List (Nat×i7)} {H H':Array Go.Obj}
theorem j6.H3 {t:Ty} (hr:∀ {O:List Nat} {cs:List Value} {x:t.den},i6 H S t O cs x->Ex.H3 t x):∀ {l:List t.den} {O:List Nat} {cs:List Value},j6 (i6 H S t) t.size O cs l->zO (Ex.H3 t) l
 | [],_,_,_=>by intro x hx; cases hx
 | x::l,_,_,⟨O1,O2,_,h1,h2⟩=>by
  intro y hy;rcases List.mem_cons.1 hy with rfl|hy
  ·exact hr h1
  ·exact j6.H3 hr h2 y hy
theorem vg.H3 {t u:Ty} (hr:∀ {cs:List Value} {x:t.den},i6 H S t [] cs x->Ex.H3 t x) (kG:∀ {cs:List Value} {x:u.den},i6 H S u [] cs x->Ex.H3 u x):∀ {es:List MapEntry} {l:List (t.den×u.den)},vg (i6 H S t []) (i6 H S u []) t u es l->zO (λ p=>Ex.H3 t p.1/\Ex.H3 u p.2) l
 | [],l,h=>by rw [show l=[] from h]; intro x hx; cases hx
 | e::es,l,⟨x,y,l',cs,ds,e1,_,h1,_,h2,h3⟩=>by
  rw [e1]; intro p hp;rcases List.mem_cons.1 hp with rfl|hp
  ·exact ⟨hr h1,kG h2⟩
  ·exact vg.H3 hr kG h3 p hp
theorem i6.H3:∀ {t:Ty} {O:List Nat} {cs:List Value} {x:t.den},i6 H S t O cs x->Ex.H3 t x:=by
 intro t
 induction t with
 | int k=>intro O cs x h; exact h.2.2
 | bool=>intro O cs x h; trivial
 | str=>intro O cs x h; exact h.2.2
 | fn f=>intro O cs x _; exact trivial
 | hole t _=>intro O cs x _; exact trivial
 | B8 t ih =>
  rintro O cs ⟨n,l,m⟩ h
  match n,h with
  | 0,h =>
   rcases h with ⟨_,_,h3⟩|⟨b,off,cap,O',c1,c2,c3,c4,c5,c6⟩
   ·subst h3; exact ⟨Nat.zero_le _,by intro x hx; cases hx⟩
   ·exact ⟨Nat.le_trans c2 c3.1,j6.H3 (λ h=>ih h) c5⟩
  | 1,h =>
   rcases h with ⟨_,_,h3⟩|⟨b,off,cap,O',c1,c2,c3,c4,c5,c6⟩
   ·subst h3; exact ⟨Nat.zero_le _,by intro x hx; cases hx⟩
   ·exact ⟨Nat.le_trans c2 c3.1,j6.H3 (λ h=>ih h) c5⟩
  | n+2,⟨b,off,O',c1,c2,c3,c4,c5⟩ =>
   have hr:=j6.H3 (λ h=>ih h) c4;exact ⟨by have:=c2.1; show List.length l<=maxLen; omega,λ x hx=>hr x (List.mem_append.2 (.inl hx))⟩
 | map o k v ihk ihv =>
  rintro O cs x (⟨rfl,_⟩|⟨l,b,es,ck,rfl,_,_,h4,_⟩)
  ·trivial
  ·exact vg.H3 (λ h=>ihk h) (λ h=>ihv h) h4
 | box o g t ih =>
  rintro O cs x (⟨rfl,_⟩|⟨y,b,off,O',rfl,_,_,h3,_⟩)
  ·trivial
  ·exact ih h3
 | unit=>intro O cs x h; trivial
 | pair a c iha ihc=>rintro O cs x ⟨O1,O2,_,h1,h2⟩; exact ⟨iha h1,ihc h2⟩
 | arr n t ih=>rintro O cs x ⟨h1,h2⟩; exact ⟨h1,j6.H3 (λ h=>ih h) h2⟩
 | d0 o t ih =>
  rintro O cs x h;rcases h with ⟨_,_,h3⟩|⟨b,off,cap,O',c1,c2,c3,c4,c5,c6⟩
  ·subst h3; exact ⟨Nat.zero_le _,by intro x hx; cases hx⟩
  ·exact ⟨Nat.le_trans c2 c3.1,j6.H3 (λ h=>ih h) c5⟩
theorem VX.H3 {v:AV} {vs:List Value} (h:VX H S ι hp v vs):v.H3:=by
 cases v<;>try trivial
 ·obtain ⟨cs,_,h⟩:=h; exact h.H3
 ·obtain ⟨b,off,_,_,_,h⟩:=h; exact h.H3
theorem RS.H3 (h:RS B S ι s a w) (h1:uniq s.fr) (h2:uniq s.hp):s.H3:=by
 have look_tail:∀ {α:Type} {n m:Nat} {x:α} {l:List (Nat×α)} {y:α},look m l=none->look n l=some y->look n ((m,x)::l)=some y:=by
  intro α n m x l y h1 h2;simp only [look];cases hb:Nat.beq n m with
  | true =>
   have:=Nat.eq_of_beq_eq_true hb;subst this;rw [h1] at h2; cases h2
  | false=>exact h2
 have fr:∀ l:List (Nat×AV),uniq l->(∀ t v,look t l=some v->v.H3)->Hr l:=by
  intro l
  induction l with
  | nil=>intro _ _; trivial
  | cons q l ih =>
   obtain ⟨n,v⟩:=q;rintro ⟨k0,k2⟩ k3;have k1:=ES k0;exact ⟨k3 n v (by simp [look]),ih k2 (λ t v hv=>k3 t v (look_tail k1 hv))⟩
 have pg:∀ l:List (Nat×i7),uniq l->(∀ t e,look t l=some e->Ex.H3 e.ty e.x)->Bp l:=by
  intro l
  induction l with
  | nil=>intro _ _; trivial
  | cons q l ih =>
   obtain ⟨n,e⟩:=q;rintro ⟨k0,k2⟩ k3;have k1:=ES k0;have h0:=k3 n e (by simp [look]);have h3:=ih k2 (λ t e he=>k3 t e (look_tail k1 he));cases e<;>first|exact ⟨h0,h3⟩|exact h3
 refine ⟨fr _ h1 (λ t v hv=>(h.fr t v hv).H3),pg _ h2 (λ i e he=>?_)⟩;have:=h.hs.ob i e he;cases e with
 | var t x=>obtain ⟨⟨O,_,hR⟩,_⟩:=this; exact hR.H3
 | own t x=>obtain ⟨⟨O,_,hR⟩,_⟩:=this; exact hR.H3
 | K5=>trivial
def E3.of (w:World) (S:Nat->Prop) (ps:List PK) (vs:List Value) (L:List Nat) (n:Nat) (gv:Value:=undef):E3:=⟨w,S,λ b=>b∈L,n,M4 ps vs 0,gv⟩
def GOk (gp:Option (List Step)) (gv:Value) (H:Array Go.Obj):(ps:List PK)->List Value->DL (E6 ps)->Prop
 | .rw t::_,vs,z=>(match gp,vs with
  | some p,.pointer (some ⟨b,off,none⟩)::_=>x7 t z.1 p/\∃ b' aq,y7 H t p b off=some (b',aq)/\gv=.pointer (some ⟨b',aq,none⟩)
  | _,_=>True)
 | _,_,_=>True
def UY (P:Program) (w0:World) (S0:Nat->Prop) (L:List Nat):Prop:=vn P w0 S0/\∀ b,S0 b->b<w0.heap.size/\¬ b∈L
def Reach (E:Env) (fn:Func) (y:DL E.rs) (z:DL (E6 E.ps)) (k:List Item) (s:St):Prop :=
 ∀ (w0:World) (S0:Nat->Prop) (vs:List Value) (x:DK E.ps) (L:List Nat) (gv:Value) (S:Nat->Prop) (ι:Ix) (a:Act) (w:World),UY E.P w0 S0 L->U6 w0.heap S0 E.ps vs x L ->
  RS (E3.of w0 S0 E.ps vs L fn.ntmps gv) S ι s a w->At E.P fn (λ e w'=>xo w0 S0 E.rs E.ps vs L y z e w'/\GOk E.gp gv w'.heap E.ps vs z) k a w
structure C0 (E:Env) (fn:Func):Prop where
 nt:fn.ntmps=E.nt
 res:fn.results.toList=E.res
theorem Ow:∀ {a b:List Ty} {x x':DL a} {y y':DL b},DL.app x y=DL.app x' y'->x=x'/\y=y'
 | [],_,_,_,_,_,h=>⟨rfl,h⟩
 | _::_,_,x,x',_,_,h=>by
  have h1:=congrArg Prod.fst h;have h2:=congrArg Prod.snd h;obtain ⟨h3,h4⟩:=Ow h2;exact ⟨Prod.ext h1 h3,h4⟩
theorem TN {fn:Func} {w0:World} {S0:Nat->Prop} {vs:List Value} {x:DK E.ps} {L:List Nat} {gv:Value} (hE:D0 E (E3.of w0 S0 E.ps vs L fn.ntmps gv)) (hf:C0 E fn) {y:DL E.rs} {z:DL (E6 E.ps)} {L':Code->List Item->St->Prop} (ht:(finish E s).holds L' (·=DL.app y z)) (hK:U6 w0.heap S0 E.ps vs x L)
  (h:RS (E3.of w0 S0 E.ps vs L fn.ntmps gv) S ι s a w) (hG:vw s E.ps 0=some z->GOk E.gp gv w.heap E.ps vs z) (e:Exit) (he:e=.normal\/e=.ret) :
  bodyPost E.P fn (λ e w'=>xo w0 S0 E.rs E.ps vs L y z e w'/\GOk E.gp gv w'.heap E.ps vs z) e a w:=by
 unfold finish at ht;split at ht
 ·exact ht.elim
 ·rename_i l hl
  split at ht
  ·rename_i y' z' hy hz
   have ht:DL.app y' z'=DL.app y z:=ht;obtain ⟨rfl,rfl⟩:=Ow ht;obtain ⟨us,h1,h2⟩:=b7Q hE h hf.res hl;obtain ⟨O,k1,k2,k3⟩:=Tc h.hs hy h2;obtain ⟨Lo,m1,m2,m3⟩:=Fg h.hs hK (λ q hq=>hq) hz;have hR:xo w0 S0 E.rs E.ps vs L y' z' (.returned (wJ us)) w:=by
    refine ⟨us,O,Lo,S,rfl,⟨h.hs.os,h.hs.tape,h.hs.out,h.hs.size,λ c hc hL=>h.hs.frame c hc hL⟩,h.hs.s0,λ b hb=>?_,k1,m1,List.nodup_append.2 ⟨k2,m2,?_⟩,λ b hb=>?_⟩
    ·rcases h.hs.s1 b hb with h1|h1
     ·exact .inl h1
     ·exact .inr ⟨h1,h.hs.slt b hb⟩
    ·rintro c hc d hd rfl
     obtain ⟨i,e,i0,ip,i1,i2⟩:=k3 c hc;obtain ⟨j,e',j0,j1,j2⟩:=m3 c hd;refine h.hs.dj i j e e' i1 j1 ?_ c i2 j2;rintro rfl;have:pinned i=true:=by simp only [pinned,Nat.ble_eq]; omega
     rw [ip] at this; cases this
    ·have:∃ i e,look i s.hp=some e/\b∈l7 ι i e:=by
      rcases List.mem_append.1 hb with hb|hb
      ·obtain ⟨i,e,_,_,n2,n3⟩:=k3 b hb; exact ⟨i,e,n2,n3⟩
      ·obtain ⟨i,e,_,n2,n3⟩:=m3 b hb; exact ⟨i,e,n2,n3⟩
     obtain ⟨i,e,n2,n3⟩:=this;exact h.hs.bl i e n2 b n3
   rcases he with rfl|rfl
   ·exact ⟨h.dfr,_,h1,hR,hG hz⟩
   ·exact ⟨h.dfr,_,h1,hR,hG hz⟩
  ·exact ht.elim
theorem YT {gv:Value} {H:Array Go.Obj}:∀ {ps:List PK} {vs:List Value} {z:DL (E6 ps)},GOk none gv H ps vs z
 | [],_,_=>trivial
 | k::_,_,_=>by cases k<;>trivial
theorem gok {H0:Array Go.Obj} {S0:Nat->Prop} {gv:Value} {p:List Step}:∀ {ps:List PK} {vs:List Value} {x:DK ps} {L:List Nat} {z:DL (E6 ps)},U6 H0 S0 ps vs x L->vw s ps 0=some z->(∀ q∈M4 ps vs 0,ι.root q.1=q.2.1)->VX H S ι s.hp (.ptr 2000000 p) [gv]->GOk (some p) gv H ps vs z
 | [],_,_,_,_,_,_,_,_=>trivial
 | k::ps,vs,x,L,z,⟨v,us,L1,L2,e1,_,hk,_⟩,hz,hp,hv=>by
  cases k with
  | rw t =>
   obtain ⟨b,off,O,rfl,_,_,_⟩:=hk;subst e1;have hr:ι.root 2000000=(b,off):=hp (2000000,(b,off),[]) (by simp [M4]);obtain ⟨e,b',aq,k1,k2,k3,k4⟩:=hv;unfold vw at hz;split at hz
   ·rename_i u x0 y0 ho hy
    have ho:look 2000000 s.hp=some (.var u x0):=ho;rw [k1] at ho; cases ho;split at hz
    ·rename_i hu
     subst hu;cases hz;obtain ⟨p1,_⟩:=C6 k3;have p1:y7 H u p (ι.root 2000000).1 (ι.root 2000000).2=some (b',aq):=p1;rw [hr] at p1;exact ⟨k2,b',aq,p1,by simpa using k4⟩
    ·cases hz
   ·cases hz
  | _=>trivial
theorem Uo {fn:Func} {w0:World} {S0:Nat->Prop} {vs:List Value} {x:DK E.ps} {L:List Nat} {gv:Value} (hE:D0 E (E3.of w0 S0 E.ps vs L fn.ntmps gv)) (hf:C0 E fn) {y:DL E.rs} {z:DL (E6 E.ps)} {L':Code->List Item->St->Prop} (ht:(Iy E s).holds L' (·=DL.app y z)) (hK:U6 w0.heap S0 E.ps vs x L)
  (h:RS (E3.of w0 S0 E.ps vs L fn.ntmps gv) S ι s a w) (e:Exit) (he:e=.normal\/e=.ret) :
  bodyPost E.P fn (λ e w'=>xo w0 S0 E.rs E.ps vs L y z e w'/\GOk E.gp gv w'.heap E.ps vs z) e a w:=by
 unfold Iy at ht;split at ht
 ·rename_i dP
  exact TN hE hf ht hK h (λ _=>by rw [dP]; exact YT) e he
 ·rename_i p dP
  split at ht
  ·rename_i i q hl
   obtain ⟨⟨rfl,rfl,mB⟩,ht⟩:=ht;have ht:=ht ⟨rfl,rfl,mB⟩;refine TN hE hf ht hK h (λ hz=>?_) e he;rw [dP];refine gok (S:=S) (ι:=ι) hK hz (λ q hq=>(h.hs.pin q hq).2.2.1) ?_;have hv:=h.fr I7 _ hl;have aV:¬ I7<a.tmps.size:=by rw [h.sz]; show ¬ I7<fn.ntmps; rw [hf.nt]; omega
   have:a.tmps.getD I7 (E3.gd (E3.of w0 S0 E.ps vs L fn.ntmps gv) I7)=gv:=by
    rw [Array.getD_eq_getD_getElem?,Array.getElem?_eq_none (by omega)];rfl
   rw [this] at hv;exact hv
  ·exact ht.elim
theorem j8 {rs:List Ty} {L:Code->List Item->St->Prop} {R:DL rs->Prop} {b:Bool} {t e:Tree rs}:(cond b t e).holds L R↔(b=true->t.holds L R)/\(b=false->e.holds L R):=by
 cases b<;>simp
theorem yC:∀ {ks:List PK} {H:Array Go.Obj} {S:Nat->Prop} {vs:List Value} {x:DK ks} {L:List Nat},ks.any PK.l5=false->U6 H S ks vs x L->L=[]
 | [],_,_,_,_,_,_,h=>h.2
 | k::ks,_,_,_,_,_,hp,⟨v,us,L1,L2,_,e,h1,h2⟩=>by
  rw [List.any_cons,Bool.or_eq_false_iff] at hp;have e2:=yC hp.2 h2;have e1:L1=[]:=by
   cases k<;>first|(exfalso; simp [PK.l5] at hp; done)|exact h1.1|exact h1
  rw [e,e1,e2]; rfl
theorem j7 (hE:w7 E) {fn:Func} (hf:C0 E fn) {y:DL E.rs} {z:DL (E6 E.ps)}:∀ {n:Nat} {k:List Item} {s:St},(exec E n k s).holds (λ c k s=>Reach E fn y z (.code c::.inLoop c::k) s) (·=DL.app y z)->Reach E fn y z k s
 | 0,k,s,ht=>ht.elim
 | n+1,k,s,ht=>by
  intro w0 S0 vs x L gv S ι a w dz hK h;have hB:D0 E (E3.of w0 S0 E.ps vs L fn.ntmps gv):=⟨hE,dz⟩;unfold exec at ht;split at ht
  ·obtain ⟨S2,ι2,h2⟩:=Y2 (E:=E) (l:=Cf E.res E.rs) (λ hp b hb=>by have hb:b∈L:=hb; rw [yC hp hK] at hb; cases hb) h
   exact At.done (Uo hB hf ht hK h2 _ (.inl rfl))
  ·refine At.step (λ b cs=>step_inBlock) ?_
   exact j7 hE hf ht w0 S0 vs x L gv S ι a w dz hK h
  ·rename_i c k'
   refine At.step (λ b cs=>step_inLoop) ?_;obtain ⟨S2,ι2,h2⟩:=Y2 (E:=E) (l:=(look (P8 c) E.B9).getD []) (λ hp b hb=>by have hb:b∈L:=hb; rw [yC hp hK] at hb; cases hb) h;obtain ⟨ι',h'⟩:=h2.canon ((look (P8 c) E.B9).getD []);exact ht w0 S0 vs x L gv S2 ι' a w dz hK h'
  ·rename_i c k'
   split at ht
   ·exact At.step (λ b cs=>step_skip) (j7 hE hf ht w0 S0 vs x L gv S ι a w dz hK h)
   ·exact At.step (λ b cs=>step_seq) (j7 hE hf ht w0 S0 vs x L gv S ι a w dz hK h)
   ·rename_i xc c1 c2
    split at ht
    ·rename_i g hg
     have cP:=VX.Aq (C4 h hg);refine At.step (λ b cs=>step_cond cP) ?_;cases g with
     | true=>exact j7 hE hf ht w0 S0 vs x L gv S ι a w dz hK h
     | false=>exact j7 hE hf ht w0 S0 vs x L gv S ι a w dz hK h
    ·exact ht.elim
   ·exact At.step (λ b cs=>step_block) (j7 hE hf ht w0 S0 vs x L gv S ι a w dz hK h)
   ·rename_i c'
    obtain ⟨S2,ι2,h2⟩:=Y2 (E:=E) (l:=(look (P8 c') E.B9).getD []) (λ hp b hb=>by have hb:b∈L:=hb; rw [yC hp hK] at hb; cases hb) h;obtain ⟨ι',h'⟩:=h2.canon ((look (P8 c') E.B9).getD []);exact At.step (λ b cs=>step_loop) (ht w0 S0 vs x L gv S2 ι' a w dz hK h')
   ·split at ht
    ·rename_i k2 hx
     exact At.step (λ b cs=>step_exit hx) (j7 hE hf ht w0 S0 vs x L gv S ι a w dz hK h)
    ·exact ht.elim
   ·obtain ⟨S2,ι2,h2⟩:=Y2 (E:=E) (l:=Cf E.res E.rs) (λ hp b hb=>by have hb:b∈L:=hb; rw [yC hp hK] at hb; cases hb) h
    exact At.ret (Uo hB hf ht hK h2 _ (.inr rfl))
   ·rename_i id ops draw
    split at ht
    ·obtain ⟨S,ι,h⟩:=Ta (E:=E) (λ hp b hb=>by have hb:b∈L:=hb; rw [yC hp hK] at hb; cases hb) h ops
     refine At.region (wp_region_list ?_);exact W5 hB (by exact hf.nt) (λ hp b hb=>by have hb:b∈L:=hb; rw [yC hp hK] at hb; cases hb) (m:=0) (l:=ops.toList) (Q:=λ e a w=>e=.normal/\At E.P fn (λ e w'=>xo w0 S0 E.rs E.ps vs L y z e w'/\GOk E.gp gv w'.heap E.ps vs z) k' a w) (λ S' ι' s' a' w' h1 h2=>⟨rfl,j7 hE hf h2 w0 S0 vs x L gv S' ι' a' w' dz hK h1⟩) h ht
    ·skip
     obtain ⟨S,ι,h⟩:=c0A (E:=E) (λ hp b hb=>by have hb:b∈L:=hb; rw [yC hp hK] at hb; cases hb) h ops;generalize zM E ops s=s at h ht;split at ht
     ·rename_i hd
      rcases Rk (bE:=[]) rfl (by simp) ht with ⟨s',h1,h2⟩|⟨q,s',_,hA,h1,h2⟩
      ·exact At.region (b5Z hB (by exact hf.nt) hd h1 (λ S' ι' a' w' h3=>⟨rfl,j7 hE hf h2 w0 S0 vs x L gv S' ι' a' w' dz hK h3⟩) h.K1)
      ·have dm:look q.d (K1 ops.toList s).fr=some .any:=by
        obtain ⟨oa,c,a1,_,a3,_,a5,a6,_⟩:=hA;exact Fx a5 a6 a3 (by have:=Array.mem_of_getElem? a1; simpa using this)
       exact At.region (c08 hB (by exact hf.nt) hd hA h1 h2 dm (λ S' ι' s2 a' w' h3 h4=>⟨rfl,j7 hE hf h4 w0 S0 vs x L gv S' ι' a' w' dz hK h3⟩) h.K1)
     ·split at ht
      ·rename_i hd
       obtain ⟨s',h1,h2⟩:=Rl (bE:=[]) rfl (by simp) ht;exact At.region (b4y hB (by exact hf.nt) hd h1 (λ S' ι' a' w' h3=>⟨rfl,j7 hE hf h2 w0 S0 vs x L gv S' ι' a' w' dz hK h3⟩) h.K1)
      ·exact ht.elim
   ·exact ht.elim
  ·exact ht.elim
theorem Tree.holds.mono {rs:List Ty} {L L':Code->List Item->St->Prop} {R:DL rs->Prop}:∀ {t:Tree rs},t.holds L R->(∀ c k s,L c k s->L' c k s)->t.holds L' R
 | .f7 _ _,h,hl=>⟨h.1,λ hp=>(h.2 hp).mono hl⟩
 | .both _ _ _,h,hl=>⟨λ hp=>(h.1 hp).mono hl,h.2.mono hl⟩
 | .cut c k s,h,hl=>hl c k s h
 | .ret _,h,_=>h
 | .stuck _,h,_=>h
theorem Reach.loop (hE:w7 E) {fn:Func} (hf:C0 E fn) {y:DL E.rs} {z:DL (E6 E.ps)} {c:Code} {k:List Item} {α:Type} (mk:α->St) (I:α->Prop) (μ:α->Nat) (n:Nat) (hu:∀ x,uniq (mk x).fr/\uniq (mk x).hp)
  (h:∀ x,I x->(mk x).H3->(exec E n (.code c::.inLoop c::k) (mk x)).holds (λ c' k' s'=>(c'=c/\k'=k/\∃ x',s'=mk x'/\I x'/\μ x'<μ x)\/Reach E fn y z (.code c'::.inLoop c'::k') s') (·=DL.app y z)) :
  ∀ x,I x->Reach E fn y z (.code c::.inLoop c::k) (mk x):=by
 have key:∀ m x,μ x=m->I x->Reach E fn y z (.code c::.inLoop c::k) (mk x):=by
  intro m
  induction m using Nat.strongRecOn with
  | _ m ih =>
   intro x hm hI w0 S0 vs x0 L gv S ι a w dz hK cn;have hx:=h x hI (cn.H3 (hu x).1 (hu x).2);refine j7 hE hf (hx.mono ?_) w0 S0 vs x0 L gv S ι a w dz hK cn;rintro c' k' s' (⟨rfl,rfl,x',rfl,h1,h2⟩|h1)
   ·exact ih (μ x') (hm▸h2) x' rfl h1
   ·exact h1
 exact λ x hI=>key (μ x) x rfl hI
end
end Go.Ex
namespace Go.Ex
section
variable {E:Env} {B:E3} {S S':Nat->Prop} {ι:Ix} {s:St} {a:Act} {w:World} {hp:List (Nat×i7)} {H H':Array Go.Obj}
theorem VX.has {v:AV} {i:Nat}:∀ {vs:List Value},VX H S ι hp v vs->v.j5 i=true->∃ e,look i hp=some e:=by
 induction v with
 | cons a b iha ihb =>
  rintro vs ⟨v,us,_,ha,hb⟩ hm;simp only [AV.j5,Bool.or_eq_true] at hm;exact hm.elim (iha ha) (ihb hb)
 | K4 l ih=>rintro vs ⟨us,_,h⟩ hm; exact ih h hm
 | C5 f l ih=>rintro vs ⟨us,_,h⟩ hm; exact ih h hm
 | bx l ih=>rintro vs ⟨_,_,u,_,_,_,_,h⟩ hm; exact ih h hm
 | rc f l ih=>rintro vs ⟨_,_,u,_,_,_,_,h⟩ hm; exact ih h hm
 | ptr j p=>rintro vs ⟨e,_,_,h1,_⟩ hm; have:=Nat.eq_of_beq_eq_true hm; subst this; exact ⟨e,h1⟩
 | at_ j p=>rintro vs ⟨e,_,_,_,h1,_⟩ hm; have:=Nat.eq_of_beq_eq_true hm; subst this; exact ⟨e,h1⟩
 | sub j p a b=>rintro vs ⟨e,_,h1,_⟩ hm; have:=Nat.eq_of_beq_eq_true hm; subst this; exact ⟨e,h1⟩
 | _=>intro vs _ hm; cases hm
structure HE (B:E3) (S:Nat->Prop) (w:World) (ks:List PK) (vs:List Value) (x:DK ks) (L:List Nat) (i:Nat) (ι:Ix):Prop where
 hs:HS B S ι (F2 ks x i) w
 fr:∀ t v,look t (W2 ks x i)=some v->i<=t/\∃ val,vs[t - i]?=some val/\VX w.heap S ι (F2 ks x i) v [val]
 pins:∀ q∈M4 ks vs i,pinned q.1=true/\(∃ e,look q.1 (F2 ks x i)=some e)/\ι.root q.1=q.2.1/\ι.cells q.1=q.2.2
 keys:∀ k e,look k (F2 ks x i)=some e->∃ m,i<=m/\m<1000/\(k=1500000+m\/k=2000000+m)
 own:∀ k e,look k (F2 ks x i)=some e->∀ b∈l7 ι k e,b∈L
 rest:∀ k,look k (F2 ks x i)=none->ι.root k=(0,0)/\ι.cells k=[]
theorem MP (hB:B.pins=[]) (hw:B.w0=w) (dz:B.S0=S) (hS:∀ b,S b->b<w.heap.size):∀ {ks:List PK} {vs:List Value} {x:DK ks} {L:List Nat} {i:Nat},U6 w.heap S ks vs x L->L.Nodup->(∀ b∈L,¬ S b/\B.M b/\b<w.heap.size)->i+ks.length<=1000->∃ ι,HE B S w ks vs x L i ι
 | [],vs,x,L,i,hK,_,_,_=>by
  refine ⟨⟨λ _=>(0,0),λ _=>[],λ _=>[]⟩,⟨?_,?_,?_,?_,?_,λ k _=>⟨rfl,rfl⟩⟩⟩
  ·subst hw
   subst dz;refine ⟨rfl,.refl _,rfl,Nat.le_refl _,λ _ _ _=>rfl,hS,λ _ h=>h,λ b hb=>.inl hb,?_,?_,?_,?_⟩
   ·intro i e hi; cases hi
   ·intro i e hi; cases hi
   ·intro i j ei ej hi; cases hi
   ·intro q hq; rw [hB] at hq; cases hq
  ·intro t v h; cases h
  ·intro q hq; simp [M4] at hq
  ·intro k e h; cases h
  ·intro k e h; cases h
 | k::ks,vs,x,L,i,⟨v,us,L1,L2,e1,e2,hk,hK⟩,hn,hL,hi=>by
  subst e1 e2;have lL:=List.nodup_append.1 hn;obtain ⟨ι,hb⟩:=MP (i:=i+1) hB hw dz hS hK lL.2.1 (λ b hb=>hL b (by simp [hb])) (by simp only [List.length_cons] at hi; omega);simp only [List.length_cons] at hi;have plain:∀ {v0:AV},W2 (k::ks) x i=(i,v0)::W2 ks x.2 (i+1)->F2 (k::ks) x i=F2 ks x.2 (i+1)->M4 (k::ks) (v::us) i=M4 ks us (i+1)->VX w.heap S ι (F2 ks x.2 (i+1)) v0 [v]->∃ ι,HE B S w (k::ks) (v::us) x (L1++L2) i ι:=by
   intro v0 h1 h2 h3 h4;refine ⟨ι,by rw [h2]; exact hb.hs,?_,by rw [h3,h2]; exact hb.pins,?_,?_,by rw [h2]; exact hb.rest⟩
   ·intro t u hu
    rw [h1] at hu;simp only [look] at hu;rw [h2];cases lk:Nat.beq t i with
    | true =>
     rw [lk] at hu;have:=Nat.eq_of_beq_eq_true lk;subst this;cases hu;exact ⟨Nat.le_refl _,v,by simp,h4⟩
    | false =>
     rw [lk] at hu;obtain ⟨k1,val,k2,k3⟩:=hb.fr t u hu;refine ⟨by omega,val,?_,k3⟩;rw [show t - i=(t - (i+1))+1 from by omega];simpa using k2
   ·intro q e hq
    rw [h2] at hq;obtain ⟨m,m1,m2,m3⟩:=hb.keys q e hq;exact ⟨m,by omega,m2,m3⟩
   ·intro q e hq b eu
    rw [h2] at hq;exact List.mem_append_right _ (hb.own q e hq b eu)
  have obj:∀ {v0:AV} {d:Nat} {e:i7} {ι':Ix},W2 (k::ks) x i=(i,v0)::W2 ks x.2 (i+1)->F2 (k::ks) x i=Ex.put d e (F2 ks x.2 (i+1))->(d=1500000+i\/d=2000000+i) ->
    (∀ q∈M4 (k::ks) (v::us) i,q∈M4 ks us (i+1)\/(pinned q.1=true/\q.1=d/\ι'.root d=q.2.1/\ι'.cells d=q.2.2))->(∀ j,j≠d->E8 ι ι' j)->OB w.heap S ι' d e->(∀ b∈l7 ι' d e,b∈L1) ->
    VX w.heap S ι' (Ex.put d e (F2 ks x.2 (i+1))) v0 [v]->∃ ι,HE B S w (k::ks) (v::us) x (L1++L2) i ι:=by
   intro v0 d e ι' h1 h2 hd h3 hs aS bM h4;have eK:look d (F2 ks x.2 (i+1))=none:=by
    cases de:look d (F2 ks x.2 (i+1)) with
    | none=>rfl
    | some e'=>exfalso; obtain ⟨m,m1,m2,m3⟩:=hb.keys d e' de; omega
   have hF:F4 B S ι (F2 ks x.2 (i+1)) w L1:=by
    refine ⟨lL.1,λ b eu=>?_⟩;obtain ⟨l1,l2,l3⟩:=hL b (by simp [eu]);exact ⟨l1,.inr l2,l3,λ j ej hj iZ=>lL.2.2 b eu b (hb.own j ej hj b iZ) rfl⟩
   have fY:∀ {u:AV} {us':List Value},VX w.heap S ι (F2 ks x.2 (i+1)) u us'->u.j5 d=false:=by
    intro u us' hu;cases hm:u.j5 d with
    | false=>rfl
    | true=>obtain ⟨e',eC⟩:=hu.has hm; rw [eK] at eC; cases eC
   refine ⟨ι',by rw [h2]; exact hb.hs.add eK hs aS bM hF,?_,?_,?_,?_,?_⟩
   ·intro t u hu
    rw [h1] at hu;simp only [look] at hu;rw [h2];cases lk:Nat.beq t i with
    | true =>
     rw [lk] at hu;have:=Nat.eq_of_beq_eq_true lk;subst this;cases hu;exact ⟨Nat.le_refl _,v,by simp,h4⟩
    | false =>
     rw [lk] at hu;obtain ⟨k1,val,k2,k3⟩:=hb.fr t u hu;refine ⟨by omega,val,?_,VX.add hs (fY k3) k3⟩;rw [show t - i=(t - (i+1))+1 from by omega];simpa using k2
   ·intro q hq
    rw [h2];rcases h3 q hq with hq|⟨q1,q2,q3,q4⟩
    ·obtain ⟨r1,⟨e',r2⟩,r3,r4⟩:=hb.pins q hq
     have bC:q.1≠d:=by intro jQ; rw [jQ,eK] at r2; cases r2
     obtain ⟨s1,s2,s3⟩:=hs q.1 bC;exact ⟨r1,⟨e',by rw [p7,if_neg bC]; exact r2⟩,s1.trans r3,s2.trans r4⟩
    ·exact ⟨q1,⟨e,by rw [p7,if_pos q2]⟩,by rw [q2]; exact q3,by rw [q2]; exact q4⟩
   ·intro q e' hq
    rw [h2,p7] at hq;split at hq
    ·rename_i jQ; exact ⟨i,Nat.le_refl _,by omega,by omega⟩
    ·obtain ⟨m,m1,m2,m3⟩:=hb.keys q e' hq
     exact ⟨m,by omega,m2,m3⟩
   ·intro q e' hq b eu
    rw [h2,p7] at hq;split at hq
    ·rename_i jQ; subst jQ; cases hq; exact List.mem_append_left _ (bM b eu)
    ·rename_i jQ
     rw [(hs q jQ).l7] at eu;exact List.mem_append_right _ (hb.own q e' hq b eu)
   ·intro q hq
    rw [h2,p7] at hq;split at hq
    ·cases hq
    ·rename_i jQ
     obtain ⟨s1,s2,s3⟩:=hs q jQ;obtain ⟨r1,r2⟩:=hb.rest q hq;exact ⟨s1.trans r1,s2.trans r2⟩
  have jO:∀ d,d=1500000+i\/d=2000000+i->ι.root d=(0,0)/\ι.cells d=[]:=by
   intro d hd;refine hb.rest d ?_;cases de:look d (F2 ks x.2 (i+1)) with
   | none=>rfl
   | some e'=>exfalso; obtain ⟨m,m1,m2,m3⟩:=hb.keys d e' de; omega
  cases k with
  | v t=>obtain ⟨_,cs,e1,hR⟩:=hk; exact plain rfl rfl rfl ⟨cs,by rw [e1],hR⟩
  | V7=>exact plain rfl rfl rfl (by rw [hk.2]; rfl)
  | rcs f n=>exact plain rfl rfl rfl ⟨_,rfl⟩
  | el q=>exact plain rfl rfl rfl ⟨_,rfl⟩
  | rd t=>obtain ⟨_,b,off,e1,k1,k2,k3⟩:=hk; exact plain rfl rfl rfl ⟨b,off,by rw [e1],k1,k2,k3⟩
  | C5 f ts =>
   obtain ⟨_,ws,e1,hl⟩:=hk;refine plain rfl rfl rfl ⟨ws,by rw [e1],?_⟩;have:∀ {ts:List Ty} {ws:List Value} {y:DL ts},RdL w.heap S ts ws y->VX w.heap S ι (F2 ks x.2 (i+1)) (W2.rdA ts y) ws:=by
    intro ts
    induction ts with
    | nil=>intro ws y h; exact h
    | cons t ts ih =>
     rintro ws y ⟨v,us,e,⟨b,off,e1,k1,k2,k3⟩,hl⟩;exact ⟨v,us,e,⟨b,off,by rw [e1],k1,k2,k3⟩,ih hl⟩
   exact this hl
  | own t =>
   obtain ⟨cs,rfl,hR⟩:=hk;refine obj (d:=1500000+i) (e:=.own t x.1) (ι':=ι.U9 (1500000+i) cs L1) rfl rfl (.inl rfl) (λ q hq=>.inl hq) (λ j hj=>Fz hj _ _) ⟨⟨L1,by simp [Ix.U9],by simpa [Ix.U9] using hR⟩,by simpa [Ix.U9] using lL.1⟩ ?_ (Ac hR.length);intro b hb; simpa [l7,Ix.U9] using hb
  | rw t =>
   obtain ⟨b,off,O,rfl,hR,hf,rfl⟩:=hk;refine obj (d:=2000000+i) (e:=.var t x.1) (ι':=ι.U3 (2000000+i) (b,off) O) rfl rfl (.inr rfl) ?_ (λ j hj=>a49 hj _ _) ⟨⟨O,by simp [Ix.U3],by simpa [Ix.U3] using hR⟩,by simpa [Ix.U3] using hf,by simpa [Ix.U3] using lL.1⟩ ?_
    (IW (s:=⟨[],F2 ks x.2 (i+1)⟩) (r:=(b,off)) (o:=O) hf.lt)
   ·intro q hq
    simp only [M4,List.mem_cons] at hq;rcases hq with rfl|hq
    ·exact .inr ⟨by simp only [pinned,Nat.ble_eq]; omega,rfl,by simp [Ix.U3],by simpa [Ix.U3] using (jO (2000000+i) (.inr rfl)).2⟩
    ·exact .inl hq
   ·intro c hc; simpa [l7,Ix.U3] using hc
  | mu t =>
   obtain ⟨cs,rfl,hR⟩:=hk;have hcs:cs=[n8 (.d0 true t) cs]:=by
    have:=hR.length
    match cs,this with
    | [c],_=>rfl
   refine obj (d:=2000000+i) (e:=.own (.d0 true t) x.1) (ι':=ι.U9 (2000000+i) cs L1) rfl rfl (.inr rfl) ?_ (λ j hj=>Fz hj _ _) ⟨⟨L1,by simp [Ix.U9],by simpa [Ix.U9] using hR⟩,by simpa [Ix.U9] using lL.1⟩ ?_ (Ac hR.length)
   ·intro q hq
    simp only [M4,List.mem_cons] at hq;rcases hq with rfl|hq
    ·exact .inr ⟨by simp only [pinned,Nat.ble_eq]; omega,rfl,by simpa [Ix.U9] using (jO (2000000+i) (.inr rfl)).1,by simpa [Ix.U9] using hcs⟩
    ·exact .inl hq
   ·intro b hb; simpa [l7,Ix.U9] using hb
theorem Nk:∀ {ks:List PK} {vs:List Value} {x:DK ks} {L:List Nat},U6 H S ks vs x L->Hj ks x
 | [],_,_,_,_=>trivial
 | k::ks,vs,x,L,⟨v1,us,L1,L2,e,_,h1,h2⟩=>by
  refine ⟨?_,Nk h2⟩;cases k with
  | v t=>obtain ⟨_,cs,e1,hR⟩:=h1; exact hR.H3
  | rd t=>obtain ⟨_,b,off,e1,k1,k2,k3⟩:=h1; exact k3.H3
  | own t=>obtain ⟨cs,e1,hR⟩:=h1; exact hR.H3
  | rw t=>obtain ⟨b,off,O,e1,hR,_⟩:=h1; exact hR.H3
  | mu t=>obtain ⟨cs,e1,hR⟩:=h1; exact hR.H3
  | V7=>trivial
  | rcs f n=>trivial
  | el q=>trivial
  | C5 f ts =>
   obtain ⟨_,ws,e1,hl⟩:=h1;have:∀ {ts:List Ty} {ws:List Value} {y:DL ts},RdL H S ts ws y->PK.H3.Hf ts y:=by
    intro ts
    induction ts with
    | nil=>intro ws y h; trivial
    | cons t ts ih =>
     rintro ws y ⟨v,us,e,⟨b,off,e1,k1,k2,k3⟩,hl⟩;exact ⟨k3.H3,ih hl⟩
   exact this hl
theorem Nj:∀ {ks:List PK} {vs:List Value} {x:DK ks} {L:List Nat},U6 H S ks vs x L->vs.length=ks.length
 | [],_,_,_,h=>by rw [h.1]; rfl
 | k::ks,vs,x,L,⟨v1,us,L1,L2,e,_,_,h2⟩=>by rw [e]; simp [Nj h2]
theorem To:∀ {ks:List PK} {x:DK ks} {i k:Nat} {e:i7},look k (F2 ks x i)=some e->∃ m,i<=m/\m<i+ks.length/\(k=1500000+m\/k=2000000+m)
 | [],_,_,_,_,h=>by cases h
 | k0::ks,x,i,k,e,h=>by
  have rest:look k (F2 ks x.2 (i+1))=some e->∃ m,i<=m/\m<i+(k0::ks).length/\(k=1500000+m\/k=2000000+m):=by
   intro h;obtain ⟨m,h1,h2,h3⟩:=To h;exact ⟨m,by omega,by simp only [List.length_cons]; omega,h3⟩
  have put_:∀ {d:Nat} {e0:i7},(d=1500000+i\/d=2000000+i)->look k (Ex.put d e0 (F2 ks x.2 (i+1)))=some e->∃ m,i<=m/\m<i+(k0::ks).length/\(k=1500000+m\/k=2000000+m):=by
   intro d e0 hd h;rw [p7] at h;split at h
   ·rename_i hk; subst hk; exact ⟨i,Nat.le_refl _,by simp only [List.length_cons]; omega,hd⟩
   ·exact rest h
  cases k0 with
  | own t=>exact put_ (.inl rfl) h
  | rw t=>exact put_ (.inr rfl) h
  | mu t=>exact put_ (.inr rfl) h
  | _=>exact rest h
def wq (hp:List (Nat×i7)) (ι:Ix):(ks:List PK)->List Value->DK ks->Nat->Prop
 | [],_,_,_=>True
 | .rw t::ks,vs,x,i=>(look (2000000+i) hp=some (.var t x.1)/\∃ us,vs=.pointer (some ⟨(ι.root (2000000+i)).1,(ι.root (2000000+i)).2,none⟩)::us)/\wq hp ι ks (vs.drop 1) x.2 (i+1)
 | .v _::ks,vs,x,i=>wq hp ι ks (vs.drop 1) x.2 (i+1)
 | .rd _::ks,vs,x,i=>wq hp ι ks (vs.drop 1) x.2 (i+1)
 | .C5 _ _::ks,vs,x,i=>wq hp ι ks (vs.drop 1) x.2 (i+1)
 | .own _::ks,vs,x,i=>wq hp ι ks (vs.drop 1) x.2 (i+1)
 | .mu _::ks,vs,x,i=>wq hp ι ks (vs.drop 1) x.2 (i+1)
 | .V7::ks,vs,x,i=>wq hp ι ks (vs.drop 1) x.2 (i+1)
 | .rcs _ _::ks,vs,x,i=>wq hp ι ks (vs.drop 1) x.2 (i+1)
 | .el _::ks,vs,x,i=>wq hp ι ks (vs.drop 1) x.2 (i+1)
theorem xl:∀ {ks:List PK} {vs:List Value} {x:DK ks} {L:List Nat} {i:Nat},U6 H S ks vs x L->i+ks.length<=1000->(∀ k e,look k (F2 ks x i)=some e->look k hp=some e)->(∀ q∈M4 ks vs i,ι.root q.1=q.2.1)->wq hp ι ks vs x i
 | [],_,_,_,_,_,_,_,_=>trivial
 | k::ks,vs,x,L,i,⟨v,us,L1,L2,e1,_,hk,hK⟩,hi,hh,fy=>by
  subst e1;simp only [List.length_cons] at hi;have sub:∀ {d:Nat} {e0:i7},(d=1500000+i\/d=2000000+i)->(∀ k e,look k (Ex.put d e0 (F2 ks x.2 (i+1)))=some e->look k hp=some e)->∀ k e,look k (F2 ks x.2 (i+1))=some e->look k hp=some e:=by
   intro d e0 hd hh k e h;refine hh k e ?_;rw [p7,if_neg]
   ·exact h
   ·rintro rfl
    obtain ⟨m,h1,h2,h3⟩:=To h;omega
  cases k with
  | rw t =>
   obtain ⟨b,off,O,rfl,_,_,_⟩:=hk;have hr:ι.root (2000000+i)=(b,off):=fy (2000000+i,(b,off),[]) (by simp [M4]);refine ⟨⟨hh _ _ (by simp only [F2]; rw [p7,if_pos rfl]),us,by rw [hr]⟩,xl hK (by omega) (sub (.inr rfl) hh) (λ q hq=>fy q (by simp only [M4]; exact List.mem_cons_of_mem _ hq))⟩
  | own t=>exact xl (ks:=ks) hK (by omega) (sub (.inl rfl) hh) (λ q hq=>fy q hq)
  | mu t=>exact xl (ks:=ks) hK (by omega) (sub (.inr rfl) hh) (λ q hq=>fy q (by simp only [M4]; exact List.mem_cons_of_mem _ hq))
  | v t=>exact xl (ks:=ks) hK (by omega) hh (λ q hq=>fy q hq)
  | rd t=>exact xl (ks:=ks) hK (by omega) hh (λ q hq=>fy q hq)
  | C5 f ts=>exact xl (ks:=ks) hK (by omega) hh (λ q hq=>fy q hq)
  | V7=>exact xl (ks:=ks) hK (by omega) hh (λ q hq=>fy q hq)
  | rcs f n=>exact xl (ks:=ks) hK (by omega) hh (λ q hq=>fy q hq)
  | el q=>exact xl (ks:=ks) hK (by omega) hh (λ q hq=>fy q hq)
theorem QY {fr:List (Nat×AV)}:∀ {n j:Nat} {us:List Value},us.length=n->(∀ t val v,us[t]?=some val->look (j+t) fr=some v->VX H S ι hp v [val])->VX H S ι hp (Hq fr j n) us
 | 0,j,us,hl,_=>by
  obtain rfl:=List.length_eq_zero_iff.1 hl;rfl
 | n+1,j,u::us,hl,h=>by
  refine ⟨u,us,rfl,?_,QY (by simpa using hl) (λ t val v ht hv=>h (t+1) val v (by simpa using ht) (by rw [<- hv]; congr 1; omega))⟩;cases de:look j fr with
  | none=>exact ⟨_,rfl⟩
  | some v=>exact h 0 u v rfl de
theorem NL:∀ {ks:List PK} {x:DK ks} {i:Nat} {fr:List (Nat×AV)} {pre vs:List Value} {cc:Option (Sigma Ty.den)},(∀ t v,look t fr=some v->∃ val,(pre.reverse++vs)[t]?=some val/\VX H S ι hp v [val])->i=pre.length ->
  vx H S ks cc pre vs x->vs.length=ks.length->wq hp ι ks vs x i->(∀ r,cc=some r->∃ pre',pre=.pointer (some ⟨(ι.root (2000000+(i - 1))).1,(ι.root (2000000+(i - 1))).2,none⟩)::pre'/\look (2000000+(i - 1)) hp=some (.var r.1 r.2)) ->
  ∀ t v,look t (wA ks x i fr)=some v->∃ val,(pre.reverse++vs)[t]?=some val/\VX H S ι hp v [val]
 | [],_,_,_,_,_,_,h,_,_,_,_,_=>h
 | k::ks,x,i,fr,pre,vs,cc,h,hi,hk,hl,hr,hc=>by
  cases vs with
  | nil=>cases hl
  | cons v vs =>
   have hl:vs.length=ks.length:=by simpa using hl
   have cp:pre.reverse++v::vs=(v::pre).reverse++vs:=by simp
   have next:∀ {fr':List (Nat×AV)} {cc':Option (Sigma Ty.den)},(∀ t v',look t fr'=some v'->∃ val,(pre.reverse++v::vs)[t]?=some val/\VX H S ι hp v' [val])->vx H S ks cc' (v::pre) vs x.2->wq hp ι ks vs x.2 (i+1) ->
     (∀ r,cc'=some r->v=.pointer (some ⟨(ι.root (2000000+i)).1,(ι.root (2000000+i)).2,none⟩)/\look (2000000+i) hp=some (.var r.1 r.2))->∀ t v',look t (wA ks x.2 (i+1) fr')=some v'->∃ val,(pre.reverse++v::vs)[t]?=some val/\VX H S ι hp v' [val]:=by
    intro fr' cc' h1 h2 h3 h4;rw [cp] at h1 ⊢;refine NL h1 (by simp [hi]) h2 hl h3 (λ r hr=>?_);rw [Nat.add_sub_cancel];obtain ⟨q1,q2⟩:=h4 r hr;exact ⟨pre,by rw [q1],q2⟩
   have jE:(pre.reverse++v::vs)[i]?=some v:=by
    rw [List.getElem?_append_right (by simp [hi])];simp [hi]
   cases k with
   | v t=>exact next h hk hr (λ r hr=>by cases hr)
   | rd t=>exact next h hk hr (λ r hr=>by cases hr)
   | C5 f ts=>exact next h hk hr (λ r hr=>by cases hr)
   | own t=>exact next h hk hr (λ r hr=>by cases hr)
   | mu t=>exact next h hk hr (λ r hr=>by cases hr)
   | V7=>exact next h hk hr (λ r hr=>by cases hr)
   | rw t =>
    obtain ⟨⟨h1,us,h2⟩,hr⟩:=hr;exact next h hk hr (λ r hr=>by cases hr; exact ⟨(List.cons.inj h2).1,h1⟩)
   | rcs f n =>
    obtain ⟨⟨us,b,off,e1,h1,h2,h3,h4⟩,hk⟩:=hk;obtain ⟨rfl,rfl⟩:=List.cons.inj e1;refine next (λ t v' ht=>?_) hk hr (λ r hr=>by cases hr)
    rw [p7] at ht;split at ht
    ·rename_i e; subst e; cases ht
     refine ⟨_,jE,_,_,_,rfl,h1,h2,h3,_,rfl,b,off,(pre.take n).reverse,rfl,h1,h2,h3,?_⟩;refine QY (by simp; omega) (λ t val v' ht hv=>?_);obtain ⟨val',g1,g2⟩:=h _ _ hv;have qY:t<n:=by
      have:=(List.getElem?_eq_some_iff.1 ht).1;simp at this; omega
     have:val'=val:=by
      rw [List.reverse_take,List.getElem?_drop] at ht;rw [List.getElem?_append_left (by simp; omega)] at g1;subst hi;rw [g1] at ht; cases ht; rfl
     rw [this] at g2; exact g2
    ·exact h t v' ht
   | el q =>
    obtain ⟨⟨t,y,b0,off0,pre',b,off,us,e0,e1,e2,h1,h2,h3⟩,hk⟩:=hk;obtain ⟨rfl,rfl⟩:=List.cons.inj e2;obtain ⟨pre2,g1,g2⟩:=hc _ e0;rw [e1] at g1;simp only [List.cons.injEq,Value.pointer.injEq,Option.some.injEq,Addr.mk.injEq,and_true] at g1;obtain ⟨⟨rfl,rfl⟩,rfl⟩:=g1;refine next (λ t' v' ht=>?_) hk hr (λ r hr=>by cases hr)
    rw [p7] at ht;split at ht
    ·rename_i e; subst e; cases ht
     exact ⟨_,jE,_,b,off,g2,h1,wh h2 h3,rfl⟩
    ·exact h t' v' ht
theorem Wm {E:Env} {fn:Func} {w:World} {vs:List Value} {x:DK E.ps} {L:List Nat}
  (hlen:E.ps.length<=fn.ntmps/\E.ps.length<=1000) (hS:∀ b,S b->b<w.heap.size) (hK:U6 w.heap S E.ps vs x L) (hY:vx w.heap S E.ps none [] vs x) (fE:L.Nodup) (dZ:∀ b∈L,¬ S b/\b<w.heap.size) :
  ∃ ι,∀ gv,RS (E3.of w S E.ps vs L fn.ntmps gv) S ι (s8 E.ps x) { tmps:=vs.toArray++Array.replicate (fn.ntmps - vs.toArray.size) undef,defers:=[] } w:=by
 obtain ⟨ι,ln⟩:=MP (B:=⟨w,S,λ b=>b∈L,fn.ntmps,[],undef⟩) (i:=0) rfl rfl rfl hS hK fE (λ b hb=>⟨(dZ b hb).1,hb,(dZ b hb).2⟩) (by show 0+E.ps.length<=1000; omega);refine ⟨ι,λ gv=>?_⟩;have hl:vs.length=E.ps.length:=Nj hK;have hs:=ln.hs;refine ⟨⟨hs.os,hs.tape,hs.out,hs.size,hs.frame,hs.slt,hs.s0,hs.s1,hs.ob,hs.bl,hs.dj,λ q hq=>ln.pins q hq⟩,rfl,?_,?_⟩
 ·simp only [Array.size_append,List.size_toArray,Array.size_replicate,E3.of]
  omega
 ·intro t v hv
  obtain ⟨val,k2,k3⟩:=NL (pre:=[]) (vs:=vs) (i:=0) (λ t v ht=>by
   obtain ⟨_,val,k2,k3⟩:=ln.fr t v ht;exact ⟨val,by simpa using k2,k3⟩) rfl hY hl (xl hK (by show 0+E.ps.length<=1000; omega) (λ _ _ h=>h) (λ q hq=>(ln.pins q hq).2.2.1)) (λ r hr=>by cases hr) t v hv
  simp only [List.reverse_nil,List.nil_append] at k2;have:(vs.toArray++Array.replicate (fn.ntmps - vs.toArray.size) undef).getD t (E3.gd (E3.of w S E.ps vs L fn.ntmps gv) t)=val:=by
   have bc:=(List.getElem?_eq_some_iff.1 k2).1;simp only [Array.getD_eq_getD_getElem?];rw [Array.getElem?_append_left (by simpa using bc)];simp [k2]
  rw [this];exact k3
theorem p9.n9 (_hE:w7 E) {f:FuncId} {fn:Func} {c:Code} {rs:List Ty} {ps:List PK} {pre:DK ps->Prop} {fn':DK ps->DL rs} {out:DK ps->DL (E6 ps)} (cn:E.rs=rs) (eW:E.ps=ps) (hf:E.P.funcs[f]?=some fn) (hb:fn.body=some c) (dW:(fn.name == "runtime.NumGoroutine")=false) (_hF:C0 E fn)
  (hlen:(Nat.ble ps.length fn.ntmps && Nat.ble ps.length 1000)=true)
  (h:∀ x:DK ps,pre x->Hj ps x->Reach E fn (cn▸fn' x) (eW▸out x) [.code c] (s8 ps x)):(p9.mk ps rs pre fn' out false).Valid E.P f:=by
 subst cn;subst eW;simp only [Bool.and_eq_true,Nat.ble_eq] at hlen;refine ⟨⟨fn,hf,dW,by rw [hb]; rfl⟩,?_,λ h=>by cases h⟩;intro w S vs x L hS dJ aZ hK hY fE dZ;refine Calls.mono (R:=λ e w'=>xo w S E.rs E.ps vs L (fn' x) (out x) e w'/\GOk E.gp undef w'.heap E.ps vs (out x)) ?_ (λ _ _ h=>h.1);refine Li hf hb ?_;obtain ⟨ι,bK⟩:=Wm hlen hS hK hY fE dZ;exact h x aZ (Nk hK) w S vs x L undef S ι _ w ⟨dJ,λ b hb=>⟨hS b hb,λ hl=>(dZ b hl).1 hb⟩⟩ hK (bK undef)
end
end Go.Ex
namespace Go.Ex
def shares:List Ty->List Ty->Bool
 | [],[]=>true
 | t::ts,t'::ts'=>(decide (t'=t) || (decide (t'=t.sh) && t.V3)) && shares ts ts'
 | _,_=>false
theorem ZU {t t':Ty} (h:(decide (t'=t) || (decide (t'=t.sh) && t.V3))=true):t.den=t'.den:=by
 simp only [Bool.or_eq_true,Bool.and_eq_true,decide_eq_true_eq] at h;rcases h with rfl|⟨rfl,_⟩
 ·rfl
 ·exact (E7 t).symm
def BA:(rs rs':List Ty)->shares rs rs'=true->DL rs->DL rs'
 | [],[],_,_=>()
 | t::ts,t'::ts',h,x=>(cast (ZU (by simp only [shares,Bool.and_eq_true] at h; exact h.1)) x.1,BA ts ts' (by simp only [shares,Bool.and_eq_true] at h; exact h.2) x.2)
 | [],_::_,h,_=>by simp [shares] at h
 | _::_,[],h,_=>by simp [shares] at h
theorem Rm {H:Array Go.Obj} {S:Nat->Prop}:∀ {ts rs':List Ty} (h:shares ts rs'=true) {O:List Nat} {us:List Value} {x:DL ts},K8 H S ts O us x ->
  ∃ O1 O2,O.Perm (O1++O2)/\∀ T:Nat->Prop,(∀ b,S b->T b)->(∀ b∈O2,T b)->K8 H T rs' O1 us (BA ts rs' h x)
 | [],[],_,O,us,x,hR=>⟨[],[],by rw [hR.1]; exact List.Perm.refl _,λ T _ _=>⟨rfl,hR.2⟩⟩
 | [],_::_,h,_,_,_,_=>by simp [shares] at h
 | _::_,[],h,_,_,_,_=>by simp [shares] at h
 | t::ts,t'::ts',h,O,us,x,⟨v,us',P1,P2,cs,e1,e2,e3,h1,h2⟩=>by
  have hh:=h;simp only [shares,Bool.and_eq_true] at hh;obtain ⟨O1,O2,p,k⟩:=Rm hh.2 h2;have hd:=hh.1;simp only [Bool.or_eq_true,Bool.and_eq_true,decide_eq_true_eq] at hd;subst e2;rcases hd with rfl|⟨rfl,sD⟩
  ·refine ⟨P1++O1,O2,by rw [List.append_assoc]; exact p.append_left P1,λ T hS hT=>⟨v,us',P1,O1,cs,e1,rfl,e3,?_,k T hS hT⟩⟩
   exact h1.s4 (λ _ _=>rfl) hS
  ·refine ⟨O1,P1++O2,?_,λ T hS hT=>⟨v,us',[],O1,cs,e1,rfl,by rw [e3]; exact (Ib (by rw [Ty.zS]) cs).symm,?_,k T hS (λ b hb=>hT b (by simp [hb]))⟩⟩
   ·refine (p.append_left P1).trans ?_
    rw [<- List.append_assoc,<- List.append_assoc];exact List.perm_append_comm.append_right O2
   ·exact h1.vN (λ b hb=>hT b (by simp [hb])) hS sD
theorem ZS {ps:List PK} (h:ps.all PK.reads=true):E6 ps=[]:=by
 induction ps with
 | nil=>rfl
 | cons k ps ih =>
  simp only [List.all_cons,Bool.and_eq_true] at h;have:=ih h.2;cases k<;>first|exact this|(exfalso; simp [PK.reads] at h; done)
theorem OZ {H:Array Go.Obj} {S:Nat->Prop}:∀ {ps:List PK},ps.all PK.reads=true->∀ {vs:List Value} {x:DK ps} {L:List Nat},U6 H S ps vs x L->L=[]
 | [],_,_,_,_,h=>h.2
 | k::ps,h,vs,x,L,⟨v,us,L1,L2,e1,e2,h1,h2⟩=>by
  simp only [List.all_cons,Bool.and_eq_true] at h;have qM:=OZ h.2 h2;have tZ:L1=[]:=by
   cases k<;>first|exact h1.1|(exfalso; simp [PK.reads] at h; done)
  rw [e2,tZ,qM]; rfl
theorem p9.Valid.share {P:Program} {f:FuncId} {c:p9} (h:c.Valid P f) (eW:c.ps.all PK.reads=true) (gL:c.rs.all Ty.J5=true) {rs':List Ty} (cn:shares c.rs rs'=true) :
  (p9.mk c.ps rs' c.pre (λ x=>BA c.rs rs' cn (c.fn x)) c.out true).Valid P f:=by
 have core:∀ (w:World) (S:Nat->Prop) (vs:List Value) (x:DK c.ps) (L:List Nat),(∀ b,S b->b<w.heap.size)->vn P w S->c.pre x->U6 w.heap S c.ps vs x L->vx w.heap S c.ps none [] vs x->L.Nodup->(∀ b∈L,¬ S b/\b<w.heap.size) ->
   Calls P f vs.toArray w (λ e w'=>∃ us O Lo S',e=.returned (wJ us)/\C9 L w w'/\(∀ b,S b->S' b)/\(∀ b,S' b->S b\/((w.heap.size<=b\/b∈L)/\b<w'.heap.size)) /\
    K8 w'.heap S' rs' O us (BA c.rs rs' cn (c.fn x))/\G3 w'.heap S' c.ps vs (c.out x) Lo/\(O++Lo).Nodup/\(∀ b∈O++Lo,¬ S' b/\(w.heap.size<=b\/b∈L)/\b<w'.heap.size) /\
    K8 w'.heap (λ b=>S' b/\w.heap.size<=b) rs' O us (BA c.rs rs' cn (c.fn x))):=by
  intro w S vs x L hS dJ aZ hK hY fE dZ;refine (h.run w S vs x L hS dJ aZ hK hY fE dZ).mono (λ e w' hr=>?_);obtain ⟨us,O,Lo,S',e1,hp,s1,s2,h1,h2,aF,hb⟩:=hr;have hL:=OZ eW hK;have lT:Lo=[]:=X7 (ZS eW) h2;subst hL;subst lT;rw [List.append_nil] at aF hb;obtain ⟨O1,O2,p,k⟩:=Rm cn (h1.J5 (S':=λ _=>False) gL);have ew:=p.nodup_iff.1 aF;have iE:∀ b∈O2,¬ S' b/\w.heap.size<=b/\b<w'.heap.size:=λ b cQ=>by
   obtain ⟨q0,q1,q2⟩:=hb b (p.mem_iff.2 (List.mem_append_right _ cQ));rcases q1 with q1|q1
   ·exact ⟨q0,q1,q2⟩
   ·cases q1
  refine ⟨us,O1,[],λ b=>S' b\/b∈O2,e1,hp,λ b hb=>.inl (s1 b hb),?_,k _ (λ b hb=>hb.elim) (λ b hb=>.inr hb),?_,by rw [List.append_nil]; exact (List.nodup_append.1 ew).1,?_,k _ (λ b hb=>hb.elim) (λ b hb=>⟨.inr hb,(iE b hb).2.1⟩)⟩
  ·rintro b (cQ|cQ)
   ·exact s2 b cQ
   ·exact .inr ⟨.inl (iE b cQ).2.1,(iE b cQ).2.2⟩
  ·have gL:∀ {ks:List PK} {us:List Value} {y:DL (E6 ks)} {T:Nat->Prop},ks.all PK.reads=true->G3 w'.heap S' ks us y []->G3 w'.heap T ks us y []:=by
    intro ks
    induction ks with
    | nil=>intro us y T _ h; exact h
    | cons k ks ih =>
     intro us y T hk h;simp only [List.all_cons,Bool.and_eq_true] at hk;cases k<;>first
      | (obtain ⟨v,us',e,h⟩:=h; exact ⟨v,us',e,ih hk.2 h⟩)
      | (exfalso; simp [PK.reads] at hk; done)
   exact gL eW h2
  ·intro b dy
   rw [List.append_nil] at dy;obtain ⟨q0,q1,q2⟩:=hb b (p.mem_iff.2 (List.mem_append_left _ dy));refine ⟨?_,q1,q2⟩;rintro (h9|h9)
   ·exact q0 h9
   ·exact (List.nodup_append.1 ew).2.2 b dy b h9 rfl
 refine ⟨h.ent,λ w S vs x L hS dJ aZ hK hY fE dZ=>(core w S vs x L hS dJ aZ hK hY fE dZ).mono (λ e w' ⟨us,O,Lo,S',a1,a2,a3,a4,a5,a6,a7,a8,_⟩=>⟨us,O,Lo,S',a1,a2,a3,a4,a5,a6,a7,a8⟩),λ _=>core⟩
theorem p9.Valid.conv {P:Program} {f:FuncId} {c:p9} (h:c.Valid P f) {rs':List Ty} {fn':DK c.ps->DL rs'} (hc:∀ x,c.pre x->∀ (H:Array Go.Obj) (S:Nat->Prop) (O:List Nat) (us:List Value),K8 H S c.rs O us (c.fn x)->K8 H S rs' O us (fn' x)) :
  (p9.mk c.ps rs' c.pre fn' c.out c.new).Valid P f:=by
 refine ⟨h.ent,λ w S vs x L hS dJ aZ hK hY fE dZ=>?_,λ hn w S vs x L hS dJ aZ hK hY fE dZ=>?_⟩
 ·refine (h.run w S vs x L hS dJ aZ hK hY fE dZ).mono (λ e w' hr=>?_)
  obtain ⟨us,O,Lo,S',e1,hp,s1,s2,h1,h2⟩:=hr;exact ⟨us,O,Lo,S',e1,hp,s1,s2,hc x aZ _ _ _ _ h1,h2⟩
 ·refine (h.fresh hn w S vs x L hS dJ aZ hK hY fE dZ).mono (λ e w' hr=>?_)
  obtain ⟨us,O,Lo,S',e1,hp,s1,s2,h1,h2,h3,h4,h5⟩:=hr;exact ⟨us,O,Lo,S',e1,hp,s1,s2,hc x aZ _ _ _ _ h1,h2,h3,h4,hc x aZ _ _ _ _ h5⟩
end Go.Ex
namespace Go.Ex
abbrev OI:=TypeId×String×Array Edge
def Z3 (x:OI) (d:Option Tmp) (op:Op):Oper:={ dst:=d,op:=op,type:=x.1,pos:=x.2.1,after:=x.2.2,guard:=none }
def xO (S I T r:Nat) (e:Nat->OI) (ox:Op):Code :=
 .seq (.region r #[Z3 (e 12) (some 12) (.binOp .lss I (.tmp 11) (.tmp 10) I)] false)
 (.seq (.cond (.tmp 12) .skip (.exit 0))
  (.seq (.block 1 (.seq (.region (r+1) #[Z3 (e 13) (some 13) (.move (.tmp 11)),Z3 (e 4) (some 4) (.assign (.tmp 13))] false)
   (.region (r+2) #[Z3 (e 14) (some 14) (.move (.tmp 0)),Z3 (e 15) (some 15) (.move (.tmp 4)),Z3 (e 16) (some 16) ox,Z3 (e 17) (some 17) (.indexAddr S (.tmp 14) (.tmp 15)),Z3 (e 19) none (.store T (.tmp 17) (.tmp 16))] false)))
  (.region (r+3) #[Z3 (e 18) (some 18) (.binOp .add I (.tmp 11) (.const (.int .i64 1)) I),Z3 (e 20) (some 11) (.move (.tmp 18))] false)))
def BB (S I T r:Nat) (e:Nat->OI) (ox:Op):Code :=
 .seq (.region r #[Z3 (e 5) (some 5) (.move (.tmp 0)),Z3 (e 6) (some 6) (.move (.tmp 0)),Z3 (e 7) (some 7) (.call { callee:=.builtin .cap,args:=#[.tmp 6],argTypes:=#[S] }),Z3 (e 8) (some 8) (.slice S (.tmp 5) none (some (.tmp 7)) none),Z3 (e 0) (some 0) (.assign (.tmp 8))] false)
 (.seq (.region (r+1) #[Z3 (e 9) (some 9) (.move (.tmp 0)),Z3 (e 10) (some 10) (.call { callee:=.builtin .len,args:=#[.tmp 9],argTypes:=#[S] }),Z3 (e 11) (some 11) (.move (.const (.int .i64 0)))] false)
 (.block 0 (.loop (xO S I T (r+2) e ox))))
def yQ:Code->List Oper
 | .seq a b=>yQ a++yQ b
 | .cond _ a b=>yQ a++yQ b
 | .block _ c=>yQ c
 | .loop c=>yQ c
 | .region _ ops _=>ops.toList
 | _=>[]
def Mb (c:Code) (l:List Nat) (n:Nat):OI :=
 match (l.zip (yQ c)).find? (λ q=>Nat.beq q.1 n) with
 | some (_,o)=>(o.type,o.pos,o.after)
 | none=>(0,"",#[])
section
variable {P:Program} {fn:Func} {R:Ending->World->Prop} {k:List Item} {a:Act} {w:World} {S':Nat->Prop}
theorem S4 {ops:Array Oper} {Q:Exit->Act->World->Prop} {o:Oper} {rest:List Oper} (hg:o.guard=none) {v:Value} {w':World} (hr:(execOp a.eval o).run P w=.ok (.value v) w') (h:wpList P ops Q rest (a.put o.dst v) w'):wpList P ops Q (o::rest) a w:=by
 unfold wpList;simp only [Region.wanted,hg,if_true];refine .inl ?_;unfold Oper.wp;rw [hr];exact h
theorem Yc {ops:Array Oper} {Q:Exit->Act->World->Prop} {o:Oper} {rest:List Oper} (hg:o.guard=none) {w':World} (hr:(execOp a.eval o).run P w=.ok .skip w') (h:wpList P ops Q rest (a.put o.dst undef) w'):wpList P ops Q (o::rest) a w:=by
 unfold wpList;simp only [Region.wanted,hg,if_true];refine .inl ?_;unfold Oper.wp;rw [hr];exact h
theorem w6 {d t:Nat} {v:Value} (hd:d<a.tmps.size):(a.put (some d) v).eval (.tmp t)=if t=d then v else a.eval (.tmp t):=by
 simp only [Act.put,Act.eval];rw [Array.getD_eq_getD_getElem?,Array.getD_eq_getD_getElem?,Array.getElem?_setIfInBounds];by_cases e:d=t
 ·subst e; rw [if_pos rfl,if_pos rfl,if_pos hd]; rfl
 ·rw [if_neg e,if_neg (λ h=>e h.symm)]
theorem B0 {d:Nat} {v:Value}:(a.put (some d) v).tmps.size=a.tmps.size:=by simp [Act.put]
theorem yB {o:Oper} {x:OI} {d:Option Tmp} {y:Operand} (ho:o=Z3 x d (.move y)):(execOp a.eval o).run P w=.ok (.value (a.eval y)) w:=by subst ho; simp [execOp,Z3]
theorem RQ {o:Oper} {x:OI} {d:Option Tmp} {y:Operand} (ho:o=Z3 x d (.assign y)):(execOp a.eval o).run P w=.ok (.value (a.eval y)) w:=by subst ho; simp [execOp,Z3]
structure LV (P:Program) (b:Nat) (ox:Op) (xv:Value) (X:Act->World->Prop):Prop where
 run:∀ a w,X a w->∀ o:Oper,o.op=ox->(execOp a.eval o).run P w=.ok (.value xv) w
 put:∀ a w d v,X a w->d≠1->d≠3->d<a.tmps.size->X (a.put (some d) v) w
 mem:∀ a w w',X a w->(∀ c,c≠b->w'.heap[c]?=w.heap[c]?)->X a w'
variable {S I T:Nat} {e:Nat->OI} {ox:Op} {t:Ty} {r:Nat} {xv:Value} {ds:List Value} {x:t.den} {b off cap:Nat} {A:Option Addr} {X:Act->World->Prop} {w0:World} {S0:Nat->Prop}
structure SpD (t:Ty) (ds:List Value) (b off cap:Nat) (w0:World) (i:Nat) (w:World):Prop where
 past:C9 [b] w0 w
 free:T8 t.isB w.heap b (off+cap*t.size)
 cells:d9 w.heap b off (i*t.size)=(List.replicate i ds).flatten
theorem Na (hS:o6 P 100 S (.d0 true t)=true) (hI:P.underlying I=some (.int .i64)) (hT:o6 P 100 T t=true) (hX:LV P b ox xv X) (fg:xv=n8 t ds) (hx:i6 w0.heap S0 t [] ds x) (dz:∀ c,S0 c->c<w0.heap.size) (iM:¬ S0 b) (hb:b<w0.heap.size)
  (bZ:(cap:Int)<=9223372036854775807)
  (hk:∀ a w,a.tmps.size=19->a.defers=[]->SpD t ds b off cap w0 cap w->At P fn R k a w):∀ (m i:Nat),i+m=cap->∀ (a:Act) (w:World),a.tmps.size=19->a.defers=[]->a.eval (.tmp 0)=.slice (some ⟨b,off,none⟩) cap cap->a.eval (.tmp 10)=.int .i64 cap->a.eval (.tmp 11)=.int .i64 i->X a w->SpD t ds b off cap w0 i w ->
  At P fn R (.code (xO S I T r e ox)::.inLoop (xO S I T r e ox)::.inBlock 0::k) a w
 | m,i,uM,a,w,aV,jB,h0,fW,gk,rE,hD=>by
  unfold xO;refine At.step (λ _ _=>step_seq) (At.region (wp_region_list ?_));refine S4 rfl (v:=.bool (decide ((i:Int)<(cap:Int)))) (w':=w) ?_ ?_
  ·rw [N0 (op:=.lss) (T:=I) (T':=I) (x:=.tmp 11) (y:=.tmp 10) rfl (by rw [gk,fW]; simp [eqGuard]) (r:=.ok (.bool (decide ((i:Int)<(cap:Int)))) w) (by rw [gk,fW]; simp only [binOp,Sem.run_bind,s5 hI,Result.andThen_ok]; rfl)]
   rfl
  refine ⟨rfl,?_⟩;refine At.step (λ _ _=>step_seq) ?_;have lj:(a.put (some 12) (.bool (decide ((i:Int)<(cap:Int))))).eval (.tmp 12)=.bool (decide ((i:Int)<(cap:Int))):=by rw [w6 (by omega),if_pos rfl]
  refine At.step (λ _ _=>step_cond lj) ?_;by_cases rp:(i:Int)<(cap:Int)
  ·rw [decide_eq_true rp,if_pos rfl]
   dsimp only [Z3];have qC:=hX.put _ _ 12 (.bool true) rE (by decide) (by decide) (by omega);have gT:(a.put (some 12) (.bool true)).tmps.size=19:=by rw [B0,aV]
   have g0:(a.put (some 12) (.bool true)).eval (.tmp 0)=.slice (some ⟨b,off,none⟩) cap cap:=by rw [w6 (by omega),if_neg (by decide),h0]
   have g10:(a.put (some 12) (.bool true)).eval (.tmp 10)=.int .i64 cap:=by rw [w6 (by omega),if_neg (by decide),fW]
   have g11:(a.put (some 12) (.bool true)).eval (.tmp 11)=.int .i64 i:=by rw [w6 (by omega),if_neg (by decide),gk]
   have gdf:(a.put (some 12) (.bool true)).defers=[]:=jB;generalize a.put (some 12) (.bool true)=a1 at *
   refine At.step (λ _ _=>step_skip) (At.step (λ _ _=>step_seq) (At.step (λ _ _=>step_block) (At.step (λ _ _=>step_seq) (At.region (wp_region_list ?_)))));refine S4 rfl (yB rfl) ?_;refine S4 rfl (RQ rfl) ?_;refine ⟨rfl,At.region (wp_region_list ?_)⟩;have oJ:(a1.put (some 13) (a1.eval (.tmp 11))).eval (.tmp 13)=.int .i64 i:=by rw [w6 (by omega),if_pos rfl,g11]
   dsimp only;rw [oJ];have qB:=hX.put _ _ 4 (.int .i64 i) (hX.put _ _ 13 (a1.eval (.tmp 11)) qC (by decide) (by decide) (by omega)) (by decide) (by decide) (by rw [B0]; omega);have gS:((a1.put (some 13) (a1.eval (.tmp 11))).put (some 4) (.int .i64 i)).tmps.size=19:=by rw [B0,B0,gT]
   have f0:((a1.put (some 13) (a1.eval (.tmp 11))).put (some 4) (.int .i64 i)).eval (.tmp 0)=.slice (some ⟨b,off,none⟩) cap cap:=by rw [w6 (by rw [B0]; omega),if_neg (by decide),w6 (by omega),if_neg (by decide),g0]
   have f10:((a1.put (some 13) (a1.eval (.tmp 11))).put (some 4) (.int .i64 i)).eval (.tmp 10)=.int .i64 cap:=by rw [w6 (by rw [B0]; omega),if_neg (by decide),w6 (by omega),if_neg (by decide),g10]
   have f11:((a1.put (some 13) (a1.eval (.tmp 11))).put (some 4) (.int .i64 i)).eval (.tmp 11)=.int .i64 i:=by rw [w6 (by rw [B0]; omega),if_neg (by decide),w6 (by omega),if_neg (by decide),g11]
   have f4:((a1.put (some 13) (a1.eval (.tmp 11))).put (some 4) (.int .i64 i)).eval (.tmp 4)=.int .i64 i:=by rw [w6 (by rw [B0]; omega),if_pos rfl]
   have fdf:((a1.put (some 13) (a1.eval (.tmp 11))).put (some 4) (.int .i64 i)).defers=[]:=gdf;generalize (a1.put (some 13) (a1.eval (.tmp 11))).put (some 4) (.int .i64 i)=a2 at *
   refine S4 rfl (yB (x:=e 14) (d:=some 14) rfl) ?_;rw [f0];refine S4 rfl (yB (x:=e 15) (d:=some 15) rfl) ?_;have q4:(a2.put (some 14) (.slice (some ⟨b,off,none⟩) cap cap)).eval (.tmp 4)=.int .i64 i:=by rw [w6 (by omega),if_neg (by decide),f4]
   simp only [q4];have nB:=hX.put _ _ 15 (.int .i64 i) (hX.put _ _ 14 (.slice (some ⟨b,off,none⟩) cap cap) qB (by decide) (by decide) (by omega)) (by decide) (by decide) (by rw [B0]; omega);have kD:((a2.put (some 14) (.slice (some ⟨b,off,none⟩) cap cap)).put (some 15) (.int .i64 i)).tmps.size=19:=by rw [B0,B0,gS]
   refine S4 rfl (v:=xv) (w':=w) (hX.run _ _ nB _ rfl) ?_;have qz:=hX.put _ _ 16 xv nB (by decide) (by decide) (by omega);have UA:(((a2.put (some 14) (.slice (some ⟨b,off,none⟩) cap cap)).put (some 15) (.int .i64 i)).put (some 16) xv).eval (.tmp 14)=.slice (some ⟨b,off,none⟩) cap cap:=by
    rw [w6 (by omega),if_neg (by decide),w6 (by rw [B0]; omega),if_neg (by decide),w6 (by omega),if_pos rfl]
   have Uz:(((a2.put (some 14) (.slice (some ⟨b,off,none⟩) cap cap)).put (some 15) (.int .i64 i)).put (some 16) xv).eval (.tmp 15)=.int .i64 i:=by
    rw [w6 (by omega),if_neg (by decide),w6 (by rw [B0]; omega),if_pos rfl]
   have u16:(((a2.put (some 14) (.slice (some ⟨b,off,none⟩) cap cap)).put (some 15) (.int .i64 i)).put (some 16) xv).eval (.tmp 16)=xv:=by
    rw [w6 (by omega),if_pos rfl]
   have UC:(((a2.put (some 14) (.slice (some ⟨b,off,none⟩) cap cap)).put (some 15) (.int .i64 i)).put (some 16) xv).eval (.tmp 10)=.int .i64 cap:=by
    rw [w6 (by omega),if_neg (by decide),w6 (by rw [B0]; omega),if_neg (by decide),w6 (by omega),if_neg (by decide),f10]
   have UB:(((a2.put (some 14) (.slice (some ⟨b,off,none⟩) cap cap)).put (some 15) (.int .i64 i)).put (some 16) xv).eval (.tmp 11)=.int .i64 i:=by
    rw [w6 (by omega),if_neg (by decide),w6 (by rw [B0]; omega),if_neg (by decide),w6 (by omega),if_neg (by decide),f11]
   have u0:(((a2.put (some 14) (.slice (some ⟨b,off,none⟩) cap cap)).put (some 15) (.int .i64 i)).put (some 16) xv).eval (.tmp 0)=.slice (some ⟨b,off,none⟩) cap cap:=by
    rw [w6 (by omega),if_neg (by decide),w6 (by rw [B0]; omega),if_neg (by decide),w6 (by omega),if_neg (by decide),f0]
   have oQ:(((a2.put (some 14) (.slice (some ⟨b,off,none⟩) cap cap)).put (some 15) (.int .i64 i)).put (some 16) xv).tmps.size=19:=by rw [B0,kD]
   have udf:(((a2.put (some 14) (.slice (some ⟨b,off,none⟩) cap cap)).put (some 15) (.int .i64 i)).put (some 16) xv).defers=[]:=fdf;generalize ((a2.put (some 14) (.slice (some ⟨b,off,none⟩) cap cap)).put (some 15) (.int .i64 i)).put (some 16) xv=a3 at *
   refine S4 rfl (v:=.pointer (some ⟨b,off+i*t.size,none⟩)) (w':=w) ?_ ?_
   ·have:=S7 (w:=w) hS b off cap cap (kd:=.i64) (n:=(i:Int)) ⟨by omega,by omega⟩
    rw [Int.toNat_natCast] at this;simp only [execOp,UA,Uz,Sem.run_bind,this,Result.andThen_ok,Sem.run_pure]
   have hmul:i*t.size+t.size<=cap*t.size:=by rw [<- Nat.succ_mul]; exact Nat.mul_le_mul_right _ (by omega)
   have rQ:i6 w.heap S0 t [] ds x:=hx.s4 (λ c hc=>hD.past.frame c (hc.elim (λ h=>by cases h) (dz c)) (by rintro h; rw [List.mem_singleton] at h; subst h; exact hc.elim (λ h=>by cases h) iM)) (λ _ h=>h);have dI:N2 w.heap b (off+i*t.size+t.size):=by
    obtain ⟨arr,T9,nX,hn⟩:=hD.free.free;exact ⟨arr,T9,nX,by omega⟩
   have oR:(storeVar T ⟨b,off+i*t.size,none⟩ xv).run P w=.ok () (w.setRow b (over (u5 w.heap b) (off+i*t.size) ds).toArray):=by
    rw [fg]; exact Fp hT rfl dI rQ
   have vu:(a3.put (some 17) (.pointer (some ⟨b,off+i*t.size,none⟩))).eval (.tmp 17)=.pointer (some ⟨b,off+i*t.size,none⟩):=by rw [w6 (by omega),if_pos rfl]
   have wG:(a3.put (some 17) (.pointer (some ⟨b,off+i*t.size,none⟩))).eval (.tmp 16)=xv:=by rw [w6 (by omega),if_neg (by decide),u16]
   refine Yc rfl (w':=w.setRow b (over (u5 w.heap b) (off+i*t.size) ds).toArray) ?_ ?_
   ·simp only [execOp,vu,wG,Instr.storeAt,Instr.sureAddr,Sem.run_bind,Sem.run_pure,Result.andThen_ok,oR]
   have oh:ds.length=t.size:=hx.length;obtain ⟨eN,hcs⟩:=CC (w:=w) (b:=b) (off:=off+i*t.size) (cs:=ds) (by rw [oh]; exact dI);have lQ:b<w.heap.size:=Nat.lt_of_lt_of_le hb hD.past.size;have uh:SpD t ds b off cap w0 (i+1) (w.setRow b (over (u5 w.heap b) (off+i*t.size) ds).toArray):=by
    refine ⟨hD.past.trans (O':=[b]) ⟨rfl,.of rfl rfl,rfl,by rw [setRow_size]; exact Nat.le_refl _,λ c _ cv=>setRow_other (by simpa using cv)⟩ (λ c hc=>.inl hc),eN.Dx hD.free,?_⟩;have dv:=hcs;rw [oh] at dv;rw [Nat.succ_mul,Ft,eN.cells lQ (λ _=>.inl (Nat.le_refl _)),hD.cells,dv,List.replicate_succ',List.flatten_append];simp
   have qy:=hX.mem _ _ (w.setRow b (over (u5 w.heap b) (off+i*t.size) ds).toArray) (hX.put _ _ 17 (.pointer (some ⟨b,off+i*t.size,none⟩)) qz (by decide) (by decide) (by omega)) (λ c hc=>setRow_other hc);have Uy:(a3.put (some 17) (.pointer (some ⟨b,off+i*t.size,none⟩))).eval (.tmp 0)=.slice (some ⟨b,off,none⟩) cap cap:=by rw [w6 (by omega),if_neg (by decide),u0]
   have Ux:(a3.put (some 17) (.pointer (some ⟨b,off+i*t.size,none⟩))).eval (.tmp 10)=.int .i64 cap:=by rw [w6 (by omega),if_neg (by decide),UC]
   have LP:(a3.put (some 17) (.pointer (some ⟨b,off+i*t.size,none⟩))).eval (.tmp 11)=.int .i64 i:=by rw [w6 (by omega),if_neg (by decide),UB]
   have oP:(a3.put (some 17) (.pointer (some ⟨b,off+i*t.size,none⟩))).tmps.size=19:=by rw [B0,oQ]
   have wdf:(a3.put (some 17) (.pointer (some ⟨b,off+i*t.size,none⟩))).defers=[]:=udf;generalize w.setRow b (over (u5 w.heap b) (off+i*t.size) ds).toArray=w2 at *
   show _=_/\At P fn R _ (a3.put (some 17) (.pointer (some ⟨b,off+i*t.size,none⟩))) w2;generalize a3.put (some 17) (.pointer (some ⟨b,off+i*t.size,none⟩))=a4 at *
   refine ⟨rfl,At.step (λ _ _=>step_inBlock) (At.region (wp_region_list ?_))⟩;have lX:IntKind.i64.wrap ((i:Int)+1)=((i+1:Nat):Int):=by
    rw [show (i:Int)+1=((i+1:Nat):Int) by omega];exact Q9 (by unfold r9; simp [IntKind.min,IntKind.max,IntKind.signed,IntKind.bits]; omega)
   refine S4 rfl (v:=.int .i64 ((i+1:Nat):Int)) (w':=w2) ?_ ?_
   ·rw [N0 (op:=.add) (T:=I) (T':=I) (x:=.tmp 11) (y:=.const (.int .i64 1)) rfl (by rw [LP]; simp [eqGuard,Act.eval]) (r:=.ok (.int .i64 ((i+1:Nat):Int)) w2) (by rw [LP]; simp only [Act.eval]; rw [<- lX]; simp only [binOp,Sem.run_bind,s5 hI,Result.andThen_ok]; rfl)]
    rfl
   refine S4 rfl (yB (x:=e 20) (d:=some 11) rfl) ?_;have Uv:(a4.put (some 18) (.int .i64 ((i+1:Nat):Int))).eval (.tmp 18)=.int .i64 ((i+1:Nat):Int):=by rw [w6 (by omega),if_pos rfl]
   simp only [Z3,Uv];refine ⟨rfl,At.step (λ _ _=>step_inLoop) ?_⟩;obtain ⟨m,rfl⟩:∃ m',m=m'+1:=⟨m - 1,by omega⟩;refine Na hS hI hT hX fg hx dz iM hb bZ hk m (i+1) (by omega) _ w2 (by rw [B0,B0,oP]) wdf ?_ ?_ ?_ ?_ uh
   ·rw [w6 (by rw [B0]; omega),if_neg (by decide),w6 (by omega),if_neg (by decide),Uy]
   ·rw [w6 (by rw [B0]; omega),if_neg (by decide),w6 (by omega),if_neg (by decide),Ux]
   ·rw [w6 (by rw [B0]; omega),if_pos rfl]
   ·exact hX.put _ _ 11 _ (hX.put _ _ 18 _ qy (by decide) (by decide) (by omega)) (by decide) (by decide) (by rw [B0]; omega)
  ·rw [decide_eq_false rp,if_neg (by decide)]
   obtain rfl:i=cap:=by omega
   refine At.step (λ _ _=>step_exit (k':=k) rfl) ?_;exact hk _ _ (by show (a.put (some 12) _).tmps.size=19; rw [B0,aV]) jB hD
termination_by m=>m
theorem WS (hI:P.underlying I=some (.int .i64)) (aV:a.tmps.size=19) (jB:a.defers=[]) (fW:a.eval (.tmp 10)=.int .i64 0) (gk:a.eval (.tmp 11)=.int .i64 0)
  (hk:∀ a,a.tmps.size=19->a.defers=[]->At P fn R k a w):At P fn R (.code (xO S I T r e ox)::.inLoop (xO S I T r e ox)::.inBlock 0::k) a w:=by
 unfold xO;refine At.step (λ _ _=>step_seq) (At.region (wp_region_list ?_));refine S4 rfl (v:=.bool false) (w':=w) ?_ ?_
 ·rw [N0 (op:=.lss) (T:=I) (T':=I) (x:=.tmp 11) (y:=.tmp 10) rfl (by rw [gk,fW]; simp [eqGuard]) (r:=.ok (.bool false) w) (by rw [gk,fW]; simp only [binOp,Sem.run_bind,s5 hI,Result.andThen_ok]; rfl)]
  rfl
 refine ⟨rfl,At.step (λ _ _=>step_seq) ?_⟩;have lj:(a.put (some 12) (.bool false)).eval (.tmp 12)=.bool false:=by rw [w6 (by omega),if_pos rfl]
 refine At.step (λ _ _=>step_cond lj) ?_;refine At.step (λ _ _=>step_exit (k':=k) rfl) ?_;exact hk _ (by show (a.put (some 12) _).tmps.size=19; rw [B0,aV]) jB
theorem MZ {len:Nat} (hS:o6 P 100 S (.d0 true t)=true) (bZ:(cap:Int)<=9223372036854775807) (aV:a.tmps.size=19) (jB:a.defers=[]) (h0:a.eval (.tmp 0)=.slice A len cap) (hlen:len<=cap)
  (hk:∀ a':Act,a'.tmps.size=19->a'.defers=[]->a'.eval (.tmp 0)=.slice A cap cap->a'.eval (.tmp 10)=.int .i64 cap->a'.eval (.tmp 11)=.int .i64 0->(∀ s:Nat,s≠0->s<4->a'.eval (.tmp s)=a.eval (.tmp s)) ->
   At P fn R (.code (xO S I T (r+2) e ox)::.inLoop (xO S I T (r+2) e ox)::.inBlock 0::k) a' w):At P fn R (.code (BB S I T r e ox)::k) a w:=by
 unfold BB;refine At.step (λ _ _=>step_seq) (At.region (wp_region_list ?_));obtain ⟨et,k2,e1,e2,e3⟩:=F7 hS;refine S4 rfl (yB rfl) ?_;refine S4 rfl (yB rfl) ?_;rw [h0];dsimp only [Z3];have p0:(a.put (some 5) (.slice A len cap)).eval (.tmp 0)=.slice A len cap:=by rw [w6 (by omega),if_neg (by decide),h0]
 rw [p0];have q6:((a.put (some 5) (.slice A len cap)).put (some 6) (.slice A len cap)).eval (.tmp 6)=.slice A len cap:=by rw [w6 (by rw [B0]; omega),if_pos rfl]
 have q5:((a.put (some 5) (.slice A len cap)).put (some 6) (.slice A len cap)).eval (.tmp 5)=.slice A len cap:=by rw [w6 (by rw [B0]; omega),if_neg (by decide),w6 (by omega),if_pos rfl]
 have gS:((a.put (some 5) (.slice A len cap)).put (some 6) (.slice A len cap)).tmps.size=19:=by rw [B0,B0,aV]
 have hold:∀ s:Nat,s<4->((a.put (some 5) (.slice A len cap)).put (some 6) (.slice A len cap)).eval (.tmp s)=a.eval (.tmp s):=λ s hs=>by rw [w6 (by rw [B0]; omega),if_neg (by omega),w6 (by omega),if_neg (by omega)]
 have pY:((a.put (some 5) (.slice A len cap)).put (some 6) (.slice A len cap)).defers=[]:=jB;generalize (a.put (some 5) (.slice A len cap)).put (some 6) (.slice A len cap)=a1 at *
 refine S4 rfl (v:=.int .i64 cap) (w':=w) ?_ ?_
 ·simp [execOp,resolve,invoke,builtin,q6,Builtin.cap_,s5 e1,goInt]
 have v7:(a1.put (some 7) (.int .i64 cap)).eval (.tmp 7)=.int .i64 cap:=by rw [w6 (by omega),if_pos rfl]
 have v5:(a1.put (some 7) (.int .i64 cap)).eval (.tmp 5)=.slice A len cap:=by rw [w6 (by omega),if_neg (by decide),q5]
 have jL:=Fi (w:=w) (a:=a1.put (some 7) (.int .i64 cap)) hS (A:=A) (len:=len) (cap:=cap) (lo:=none) (hi:=some (.tmp 7)) (x:=0) (y:=(cap:Int)) rfl ⟨.i64,v7⟩ (Int.le_refl _) (by omega) (Int.le_refl _);have hA:(if cap=Int.toNat 0 then A else A.map (·.add (Int.toNat 0*t.size)))=A:=by
  split
  ·rfl
  ·cases A with
   | none=>rfl
   | some A=>simp only [Int.toNat_zero,Nat.zero_mul,Option.map_some]; rfl
 rw [hA] at jL;simp only [Int.toNat_natCast,Int.toNat_zero,Nat.sub_zero,Option.map_none] at jL;refine S4 rfl (v:=.slice A cap cap) (w':=w) ?_ ?_
 ·simp only [execOp,v5,Option.map_none,Sem.run_bind,jL,Result.andThen_ok,Sem.run_pure]
 refine S4 rfl (RQ (x:=e 0) (d:=some 0) rfl) ?_;have v8:((a1.put (some 7) (.int .i64 cap)).put (some 8) (.slice A cap cap)).eval (.tmp 8)=.slice A cap cap:=by rw [w6 (by rw [B0]; omega),if_pos rfl]
 dsimp only [Z3];rw [v8];have y0:(((a1.put (some 7) (.int .i64 cap)).put (some 8) (.slice A cap cap)).put (some 0) (.slice A cap cap)).eval (.tmp 0)=.slice A cap cap:=by rw [w6 (by rw [B0,B0]; omega),if_pos rfl]
 have kD:(((a1.put (some 7) (.int .i64 cap)).put (some 8) (.slice A cap cap)).put (some 0) (.slice A cap cap)).tmps.size=19:=by rw [B0,B0,B0,gS]
 have mv:∀ s:Nat,s≠0->s<4->(((a1.put (some 7) (.int .i64 cap)).put (some 8) (.slice A cap cap)).put (some 0) (.slice A cap cap)).eval (.tmp s)=a.eval (.tmp s):=λ s h1 hs=>by
  rw [w6 (by rw [B0,B0]; omega),if_neg h1,w6 (by rw [B0]; omega),if_neg (by omega),w6 (by omega),if_neg (by omega),hold s hs]
 have pX:(((a1.put (some 7) (.int .i64 cap)).put (some 8) (.slice A cap cap)).put (some 0) (.slice A cap cap)).defers=[]:=pY;generalize ((a1.put (some 7) (.int .i64 cap)).put (some 8) (.slice A cap cap)).put (some 0) (.slice A cap cap)=a2 at *
 refine ⟨rfl,At.step (λ _ _=>step_seq) (At.region (wp_region_list ?_))⟩;refine S4 rfl (yB (x:=e 9) (d:=some 9) rfl) ?_;rw [y0];have z9:(a2.put (some 9) (.slice A cap cap)).eval (.tmp 9)=.slice A cap cap:=by rw [w6 (by omega),if_pos rfl]
 refine S4 rfl (v:=.int .i64 cap) (w':=w) ?_ ?_
 ·have:=IA (w:=w) (ty:=(e 10).1) hS (v:=.slice A cap cap) (n:=cap) (.inl ⟨true,t,A,0,cap,rfl,rfl,rfl⟩)
  simp [execOp,resolve,invoke,builtin,z9,this]
 refine S4 rfl (yB (x:=e 11) (d:=some 11) rfl) ?_;dsimp only;refine ⟨rfl,At.step (λ _ _=>step_block) (At.step (λ _ _=>step_loop) ?_)⟩;refine hk _ ?_ pX ?_ ?_ ?_ ?_
 ·rw [B0,B0,B0,kD]
 ·rw [w6 (by rw [B0,B0]; omega),if_neg (by decide),w6 (by rw [B0]; omega),if_neg (by decide),w6 (by omega),if_neg (by decide),y0]
 ·rw [w6 (by rw [B0,B0]; omega),if_neg (by decide),w6 (by rw [B0]; omega),if_pos rfl]
 ·rw [w6 (by rw [B0,B0]; omega),if_pos rfl]; rfl
 ·intro s h1 hs
  rw [w6 (by rw [B0,B0]; omega),if_neg (by omega),w6 (by rw [B0]; omega),if_neg (by omega),w6 (by omega),if_neg (by omega),mv s h1 hs]
theorem Qh {H:Array Go.Obj} (h:i6 H S0 t [] ds x):∀ n:Nat,j6 (i6 H S0 t) t.size [] (List.replicate n ds).flatten (List.replicate n x)
 | 0=>⟨rfl,rfl⟩
 | n+1=>⟨[],[],rfl,by rw [List.replicate_succ,List.flatten_cons,List.take_left' h.length]; exact h,by rw [List.replicate_succ,List.flatten_cons,List.drop_left' h.length]; exact Qh h n⟩
def DR (t:Ty):p9:={ ps:=[.mu t,.v t],rs:=[],pre:=λ _=>True,fn:=λ _=>(),out:=λ x=>(List.replicate (List.length (α:=t.den) x.1) x.2.1,()) }
theorem SL (hS:o6 P 100 S (.d0 true t)=true) (hI:P.underlying I=some (.int .i64)) (hT:o6 P 100 T t=true) (du:fn.results=#[]) {w w1:World} {L:List Nat} {cs:List Value} {l:List t.den} (hR:i6 w.heap S0 (.d0 true t) L cs l) (hx:i6 w.heap S0 t [] ds x)
  (dz:∀ c,S0 c->c<w.heap.size) (aF:L.Nodup) (hL:∀ b∈L,¬ S0 b/\b<w.heap.size) (gK:C9 [] w w1) (aV:a.tmps.size=19) (jB:a.defers=[]) (h0:a.eval (.tmp 0)=n8 (.d0 true t) cs)
  (hX:∀ b,b∈L->LV P b ox (n8 t ds) X) (rE:X a w1) (tK:∀ a':Act,(∀ s:Nat,s≠0->s<4->a'.eval (.tmp s)=a.eval (.tmp s))->X a' w1) :
  At P fn (xo w S0 [] [.mu t,.v t] [n8 (.d0 true t) cs,n8 t ds] L () (List.replicate l.length x,())) [.code (BB S I T r e ox)] a w1:=by
 have jP:∀ tm w',(results fn tm).run P w'=.ok (.tuple #[]) w':=λ tm w'=>by simp [results,du,Sem.run]
 rcases hR with ⟨rfl,⟨A,c,rfl,hc⟩,hl⟩|⟨b,off,cap,O',rfl,hl,dQ,km,uR,rfl,eL⟩
 ·have hl:l=[]:=hl
  subst hl;obtain rfl:=hc rfl;refine MZ hS (cap:=0) (by decide) aV jB h0 (Nat.le_refl _) (λ a' g1 g2 g3 g4 g5 g6=>?_);refine WS hI g1 g2 g4 g5 (λ a2 g7 g8=>At.done ⟨g8,.tuple #[],jP _ _,?_⟩);refine ⟨[],[],[],S0,rfl,gK,λ _ h=>h,λ _ h=>.inl h,⟨rfl,rfl⟩,⟨[.slice A 0 0],[],[n8 t ds],[],rfl,rfl,.inl ⟨rfl,⟨A,0,rfl,λ _=>rfl⟩,rfl⟩,rfl,_,_,rfl,rfl,rfl⟩,List.nodup_nil,by simp⟩
 ·obtain ⟨iM,lQ⟩:=hL b (by simp)
  have nm:b<w1.heap.size:=Nat.lt_of_lt_of_le lQ gK.size;have bZ:(cap:Int)<=9223372036854775807:=by have:=dQ.1; unfold maxLen at this; omega
  have hl:l.length<=cap:=hl;have je:i6 w1.heap S0 t [] ds x:=hx.s4 (λ c hc=>gK.frame c (hc.elim (λ h=>by cases h) (dz c)) (by simp)) (λ _ h=>h);have dy:w1.heap[b]?=w.heap[b]?:=gK.frame b lQ (by simp);have kZ:T8 t.isB w1.heap b (off+cap*t.size):=by
   obtain ⟨arr,T9,⟨fz,q1,q2⟩,q3⟩:=eL;exact ⟨arr,T9,⟨fz,dy.trans q1,q2⟩,q3⟩
  refine MZ hS bZ aV jB h0 hl (λ a' g1 g2 g3 g4 g5 g6=>?_);refine Na (w0:=w1) (S0:=S0) (b:=b) (off:=off) (cap:=cap) (x:=x) (ds:=ds) (X:=X) hS hI hT (hX b (by simp)) rfl je (λ c hc=>Nat.lt_of_lt_of_le (dz c hc) gK.size) iM nm bZ (λ a2 w2 g7 g8 hD=>At.done ⟨g8,.tuple #[],jP _ _,?_⟩) cap 0 (by omega) a' w1 g1 g2 g3 g4 g5 (tK a' g6) ⟨⟨rfl,.refl _,rfl,Nat.le_refl _,λ _ _ _=>rfl⟩,kZ,by simp [d9]⟩;have oH:i6 w2.heap S0 t [] ds x:=je.s4 (λ c hc=>hD.past.frame c (hc.elim (λ h=>by cases h) (λ h=>Nat.lt_of_lt_of_le (dz c h) gK.size)) (by rw [List.mem_singleton]; rintro rfl; exact hc.elim (λ h=>by cases h) iM)) (λ _ h=>h);have hle:l.length*t.size<=cap*t.size:=Nat.mul_le_mul_right _ hl;have cr:d9 w2.heap b off (l.length*t.size)=(List.replicate l.length ds).flatten:=by
   have h9:=congrArg (List.take (l.length*t.size)) hD.cells;rw [n7 _ _ _ _ hle] at h9;rw [h9,show cap=l.length+(cap - l.length) by omega,<- List.replicate_append_replicate,List.flatten_append,List.take_left'];simp [hx.length]
  have hz:i6 w2.heap S0 (.d0 true t) [b] [.slice (some ⟨b,off,none⟩) l.length cap] (List.replicate l.length x):=by
   refine .inr ⟨b,off,cap,[],by rw [List.length_replicate],by rw [List.length_replicate]; exact hl,dQ,?_,?_,rfl,hD.free⟩
   ·rw [List.length_replicate]
    have:=hD.free.free.u5;omega
   ·rw [List.length_replicate,cr]
    exact Qh oH _
  refine ⟨[],[],[b],S0,rfl,?_,λ _ h=>h,λ _ h=>.inl h,⟨rfl,rfl⟩,⟨_,[b],[n8 t ds],[],rfl,rfl,hz,rfl,_,_,rfl,rfl,rfl⟩,by simp,λ c hc=>?_⟩
  ·exact (gK.mono (O':=b::O') (by simp)).trans (hD.past.mono (O':=b::O') (by simp)) (λ c hc=>.inl hc)
  ·have hc:c=b:=by simpa using hc
   subst hc;exact ⟨iM,.inr (by simp),Nat.lt_of_lt_of_le nm hD.past.size⟩
theorem LX {u v:Value} {xs:Array Value}:({ tmps:=#[u,v]++xs,defers:=[] }:Act).eval (.tmp 0)=u:=by
 show (#[u,v]++xs).getD 0 undef=u;rw [Array.getD_eq_getD_getElem?,Array.getElem?_append_left (by simp)]; rfl
theorem Ge {u v:Value} {xs:Array Value}:({ tmps:=#[u,v]++xs,defers:=[] }:Act).eval (.tmp 1)=v:=by
 show (#[u,v]++xs).getD 1 undef=v;rw [Array.getD_eq_getD_getElem?,Array.getElem?_append_left (by simp)]; rfl
theorem b7M {f:FuncId} (hS:o6 P 100 S (.d0 true t)=true) (hI:P.underlying I=some (.int .i64)) (hT:o6 P 100 T t=true) (hf:P.funcs[f]?=some fn) (hb:fn.body=some (BB S I T 0 e (.move (.tmp 1)))) (dW:(fn.name == "runtime.NumGoroutine")=false) (mB:fn.ntmps=19) (du:fn.results=#[]):(DR t).Valid P f:=by
 refine ⟨⟨fn,hf,dW,by rw [hb]; rfl⟩,?_,λ h=>by cases h⟩;rintro w S0 vs ⟨l,x,_⟩ L dz - - ⟨v,us,L1,L2,rfl,rfl,⟨cs,rfl,hR⟩,⟨v2,us2,L3,L4,rfl,rfl,⟨rfl,ds,rfl,hx⟩,rfl,rfl⟩⟩ - aF hL;simp only [List.append_nil] at aF hL ⊢;refine Li hf hb ?_;have aV:((#[n8 (.d0 true t) cs,n8 t ds]:Array Value)++Array.replicate (fn.ntmps - #[n8 (.d0 true t) cs,n8 t ds].size) undef).size=19:=by rw [mB]; simp
 refine SL (X:=λ a _=>a.eval (.tmp 1)=n8 t ds) hS hI hT du hR hx dz aF hL ⟨rfl,.refl _,rfl,Nat.le_refl _,λ _ _ _=>rfl⟩ aV rfl ?_ (λ b _=>⟨λ a w h o ho=>by simp [execOp,ho,h],λ a w d v h h1 _ hd=>by rw [w6 hd,if_neg (λ h=>h1 h.symm)]; exact h,λ a w w' h _=>h⟩) ?_ (λ a' h=>?_)
 ·exact LX
 ·exact Ge
 ·rw [h 1 (by decide) (by decide)]; exact Ge
theorem b5f {f:FuncId} (hS:o6 P 100 S (.d0 true t)=true) (hI:P.underlying I=some (.int .i64)) (hT:o6 P 100 T t=true) (hf:P.funcs[f]?=some fn) (hb:fn.body=some (.seq (.region 0 #[Z3 (e 3) (some 3) (.box T (.tmp 1))] false) (BB S I T 1 e (.load T (.tmp 3))))) (dW:(fn.name == "runtime.NumGoroutine")=false) (mB:fn.ntmps=19) (du:fn.results=#[]):(DR t).Valid P f:=by
 refine ⟨⟨fn,hf,dW,by rw [hb]; rfl⟩,?_,λ h=>by cases h⟩;rintro w S0 vs ⟨l,x,_⟩ L dz - - ⟨v,us,L1,L2,rfl,rfl,⟨cs,rfl,hR⟩,⟨v2,us2,L3,L4,rfl,rfl,⟨rfl,ds,rfl,hx⟩,rfl,rfl⟩⟩ - aF hL;simp only [List.append_nil] at aF hL ⊢;refine Li hf hb ?_;have aV:({ tmps:=(#[n8 (.d0 true t) cs,n8 t ds]:Array Value)++Array.replicate (fn.ntmps - #[n8 (.d0 true t) cs,n8 t ds].size) undef,defers:=[] }:Act).tmps.size=19:=by rw [mB]; simp
 have e0:({ tmps:=(#[n8 (.d0 true t) cs,n8 t ds]:Array Value)++Array.replicate (fn.ntmps - #[n8 (.d0 true t) cs,n8 t ds].size) undef,defers:=[] }:Act).eval (.tmp 0)=n8 (.d0 true t) cs:=LX;have e1:({ tmps:=(#[n8 (.d0 true t) cs,n8 t ds]:Array Value)++Array.replicate (fn.ntmps - #[n8 (.d0 true t) cs,n8 t ds].size) undef,defers:=[] }:Act).eval (.tmp 1)=n8 t ds:=Ge;have edf:({ tmps:=(#[n8 (.d0 true t) cs,n8 t ds]:Array Value)++Array.replicate (fn.ntmps - #[n8 (.d0 true t) cs,n8 t ds].size) undef,defers:=[] }:Act).defers=[]:=rfl;generalize ({ tmps:=(#[n8 (.d0 true t) cs,n8 t ds]:Array Value)++Array.replicate (fn.ntmps - #[n8 (.d0 true t) cs,n8 t ds].size) undef,defers:=[] }:Act)=a0 at *
 refine At.step (λ _ _=>step_seq) (At.region (wp_region_list ?_));have bY:(n8 t ds).cells=ds.toArray:=hx.cells;have aO:(execOp a0.eval (Z3 (e 3) (some 3) (.box T (.tmp 1)))).run P w=.ok (.value (.pointer (some ⟨w.heap.size,0,none⟩))) (F1 w (.cells ds.toArray T)):=by
  simp [execOp,Z3,Instr.box,e1,newVar,newRow,newObj,Sem.run,F1,bY]
 refine S4 rfl aO ⟨rfl,?_⟩;have gK:C9 [] w (F1 w (.cells ds.toArray T)):=C9.push _;have dd:(F1 w (.cells ds.toArray T)).heap[w.heap.size]?=some (.cells ds.toArray T):=by show (w.heap.push (.cells ds.toArray T))[w.heap.size]?=_; exact Array.getElem?_push_size
 have je:i6 (F1 w (.cells ds.toArray T)).heap S0 t [] ds x:=hx.s4 (λ c hc=>gK.frame c (hc.elim (λ h=>by cases h) (dz c)) (by simp)) (λ _ h=>h);have k3:(a0.put (some 3) (.pointer (some ⟨w.heap.size,0,none⟩))).eval (.tmp 3)=.pointer (some ⟨w.heap.size,0,none⟩):=by rw [w6 (by omega),if_pos rfl]
 refine SL (X:=λ a w'=>a.eval (.tmp 3)=.pointer (some ⟨w.heap.size,0,none⟩)/\w'.heap[w.heap.size]?=some (.cells ds.toArray T)/\i6 w'.heap S0 t [] ds x) hS hI hT du hR hx dz aF hL gK (by show (a0.put (some 3) _).tmps.size=19; rw [B0,aV]) edf ?_ (λ b lq=>⟨λ a w' h o ho=>?_,λ a w' d v h h1 h3 hd=>⟨by rw [w6 hd,if_neg (λ h=>h3 h.symm)]; exact h.1,h.2⟩,λ a w' w2 h hc=>⟨h.1,by rw [hc _ (by have:=(hL b lq).2; omega)]; exact h.2.1,h.2.2.s4 (λ c cN=>hc c (by rintro rfl; exact cN.elim (λ h=>by cases h) (hL c lq).1)) (λ _ h=>h)⟩⟩) ⟨k3,dd,je⟩ (λ a' h=>⟨?_,dd,je⟩)
 ·show (a0.put (some 3) _).eval (.tmp 0)=_
  rw [w6 (by omega),if_neg (by decide),e0]
 ·have cr:d9 w'.heap w.heap.size 0 t.size=ds:=by
   simp only [d9,u5,h.2.1];rw [List.drop_zero,<- hx.length];simp
  have nG:i6 w'.heap S0 t [] (d9 w'.heap w.heap.size 0 t.size) x:=by rw [cr]; exact h.2.2
  have:=AI (w:=w') hT nG;rw [cr] at this;simp [execOp,ho,h.1,Instr.loadAt,Instr.sureAddr,this]
 ·rw [h 3 (by decide) (by decide)]
  exact k3
end
end Go.Ex
namespace Go.Ex
def Bu (P:Program):List (FuncId×p9)->Prop
 | []=>True
 | (f,c)::l=>c.Valid P f/\Bu P l
theorem Bu.look {P:Program}:∀ {l:List (FuncId×p9)} {f:FuncId} {c:p9},Bu P l->Ex.look f l=some c->c.Valid P f
 | [],_,_,_,h=>by cases h
 | (g,d)::l,f,c,h,hl=>by
  simp only [Ex.look] at hl;cases hb:Nat.beq f g with
  | true =>
   rw [hb] at hl;have:=Nat.eq_of_beq_eq_true hb;subst this; cases hl; exact h.1
  | false=>rw [hb] at hl; exact Bu.look h.2 hl
theorem ON {P:Program}:∀ {l:List (TypeId×TI)} {T:TypeId} {i:TI},l.all (xE P)=true->Ex.look T l=some i->xE P (T,i)=true
 | [],_,_,_,h=>by cases h
 | (g,d)::l,T,i,h,hl=>by
  simp only [List.all_cons,Bool.and_eq_true] at h;simp only [Ex.look] at hl;cases hb:Nat.beq T g with
  | true =>
   rw [hb] at hl;have:=Nat.eq_of_beq_eq_true hb;subst this; cases hl; exact h.1
  | false=>rw [hb] at hl; exact ON h.2 hl
def BM (P:Program) (C7:List (FuncId×p9)):List (FuncId×List (Option Nat))->Prop
 | []=>True
 | (f,pat)::l=>(∀ c,Ex.look f C7=some c->c.Kept P f pat)/\BM P C7 l
theorem BM.look {P:Program} {C7:List (FuncId×p9)}:∀ {l:List (FuncId×List (Option Nat))} {f:FuncId} {pat:List (Option Nat)},BM P C7 l->Ex.look f l=some pat->∀ c,Ex.look f C7=some c->c.Kept P f pat
 | [],_,_,_,h=>by cases h
 | (g,d)::l,f,pat,h,hl=>by
  simp only [Ex.look] at hl;cases hb:Nat.beq f g with
  | true =>
   rw [hb] at hl;have:=Nat.eq_of_beq_eq_true hb;subst this; cases hl; exact h.1
  | false=>rw [hb] at hl; exact BM.look h.2 hl
theorem x8 {E:Env} (ht:E.tt.all (xE E.P)=true) (hc:Bu E.P E.C7) (hk:BM E.P E.C7 E.keeps:=by trivial):w7 E :=
 ⟨λ _ _ h=>ON ht h,λ _ _ h=>hc.look h,λ _ c _ h1 h2=>hk.look h2 c h1⟩
theorem i8 {rs:List Ty} {L:Code->List Item->St->Prop} {R:DL rs->Prop} {t t':Tree rs} (h:t=t') (h':t'.holds L R):t.holds L R:=h▸h'
theorem Reach.M8 {E:Env} (hE:w7 E) {fn:Func} (hf:C0 E fn) {y:DL E.rs} {z:DL (E6 E.ps)} {c:Code} {k:List Item} {α:Type} (mk:α->St) (I:α->Prop) (μ:α->Nat) (n:Nat) (hu:∀ x,uniq (mk x).fr/\uniq (mk x).hp)
  (h:∀ x,I x->(mk x).H3->(∀ x',I x'->μ x'<μ x->Reach E fn y z (.code c::.inLoop c::k) (mk x')) ->
   (exec E n (.code c::.inLoop c::k) (mk x)).holds (λ c' k' s'=>Reach E fn y z (.code c'::.inLoop c'::k') s') (·=DL.app y z)) :
  ∀ x,I x->Reach E fn y z (.code c::.inLoop c::k) (mk x):=by
 have key:∀ m x,μ x=m->I x->Reach E fn y z (.code c::.inLoop c::k) (mk x):=by
  intro m
  induction m using Nat.strongRecOn with
  | _ m ih =>
   intro x hm hI w0 S0 vs x0 L gv S ι a w dz hK cn;have hx:=h x hI (cn.H3 (hu x).1 (hu x).2) (λ x' h1 h2=>ih (μ x') (hm▸h2) x' rfl h1);exact j7 hE hf hx w0 S0 vs x0 L gv S ι a w dz hK cn
 exact λ x hI=>key (μ x) x rfl hI
def d8 (P:Program) (f:Nat):Code:=((P.funcs[f]?).bind (·.body)).getD .skip
end Go.Ex
namespace Go.Ex
open Go.ChangeShapes Go.WideShapes Go.ChangeAt Go.RowKit
section
variable {P:Program} {X:Type} {enc:TypeId×Value->X} {W:World} {sp:Nat->Bool} {held:Bool}
def Y6 {α:Type _} (f:α->Nat):List α->Nat
 | []=>0
 | x::l=>f x+Y6 f l
def Ty.flat:Ty->Bool
 | .int _|.bool|.str|.unit=>true
 | .fn _=>false
 | .hole _=>false
 | .B8 _=>false
 | .map _ _ _=>false
 | .box _ _ _=>false
 | .pair a b=>a.flat && b.flat
 | .arr _ t=>t.flat
 | .d0 o t=>!o && t.flat
def Ty.V2:(t:Ty)->t.den->Nat
 | .int _,_=>1
 | .bool,_=>1
 | .str,s=>List.length s+1
 | .unit,_=>0
 | .fn _,_=>0
 | .hole _,_=>0
 | .B8 _,_=>0
 | .map _ _ _,_=>0
 | .box _ _ _,_=>0
 | .pair a b,x=>a.V2 x.1+b.V2 x.2
 | .arr _ t,l=>Y6 t.V2 l
 | .d0 _ t,l=>Y6 t.V2 l+1
mutual
def J8 {H:Type}:DataW H->Nat
 | .lit (.string bytes)=>bytes.length+1
 | .lit _=>1
 | .nil=>1
 | .ptr d=>J8 d+1
 | .slice elems spare=>U4 elems+U4 spare+1
 | .agg parts=>U4 parts+1
 | .iface _ d=>J8 d+1
 | .map entries=>CE entries+1
 | .held _=>1
def U4 {H:Type}:List (DataW H)->Nat
 | []=>0
 | d::r=>J8 d+U4 r
def CE {H:Type}:List (Lit×DataW H)->Nat
 | []=>0
 | x::r=>KO x+CE r
def KO {H:Type}:Lit×DataW H->Nat
 | (.string bytes,d)=>bytes.length+J8 d+1
 | (_,d)=>J8 d+1
end
theorem Fl {H β:Type}:∀ (xs:List (DataW H×β)),U4 (xs.map (·.1))=Y6 (λ x=>J8 x.1) xs
 | []=>rfl
 | x::xs=>by simp only [List.map_cons,U4,Y6,Fl xs]
theorem IZ {α β:Type} {R:List Nat->List Value->α->Prop} {sz:Nat} {bk:α->Nat} {bw:β->Nat}:∀ {n:Nat} {cs:List Value} {xs:List β},xs.length=n->cs.length=n*sz->(∀ i,i<n->∃ y z,xs[i]?=some z/\R [] ((cs.drop (i*sz)).take sz) y/\bk y<=bw z) ->
  ∃ l:List α,l.length=n/\j6 R sz [] cs l/\Y6 bk l<=Y6 bw xs
 | 0,cs,[],_,h,_=>⟨[],rfl,⟨rfl,by simpa using h⟩,Nat.le_refl _⟩
 | n+1,cs,x::xs,hx,h,hr=>by
  obtain ⟨y,z,hz,hy,hb⟩:=hr 0 (by omega);have e:(n+1)*sz=n*sz+sz:=Nat.succ_mul n sz;obtain ⟨l,h1,h2,h3⟩:=IZ (R:=R) (bk:=bk) (bw:=bw) (n:=n) (cs:=cs.drop sz) (sz:=sz) (xs:=xs) (by simpa using hx) (by simp; omega) (λ i hi=>by
   obtain ⟨y,z,hz,hy,hb⟩:=hr (i+1) (by omega);refine ⟨y,z,by simpa using hz,?_,hb⟩;rw [List.drop_drop];rw [show sz+i*sz=(i+1)*sz by rw [Nat.succ_mul]; omega];exact hy)
  have hz:x=z:=by simpa using hz
  subst hz;exact ⟨y::l,by simp [h1],⟨[],[],rfl,by simpa using hy,h2⟩,by simp only [Y6]; omega⟩
 | 0,_,_::_,h,_,_=>by simp at h
 | _+1,_,[],h,_,_=>by simp at h
theorem Cz {n:Nat} {T:TypeId} {t:Ty} (h:o6 P n T t=true):P.cellsOf T=t.size:=by
 obtain ⟨i,h1,h2,_⟩:=W8 h;simp [Program.cellsOf,h1,h2]
theorem b0H:∀ (t:Ty),t.flat=true ->
  (∀ {n:Nat} {T:TypeId} {fuel:Nat} {cs:List Value} {x:DataW X×List MemPlace},o6 P n T t=true->DataW.trod enc P W 0 sp held fuel T cs=some x->∃ y:t.den,i6 W.heap (λ b=>b<W.heap.size) t [] cs y/\t.V2 y<=J8 x.1) /\
  (∀ {n:Nat} {fs:List Field} {off m:Nat} {cs:List Value} {xs:List (DataW X×List MemPlace)},n6 (o6 P n) fs off t=true->xs.length=fs.length->(∀ (i:Nat) (f:Field),fs[i]?=some f->DataW.trod enc P W 0 sp held m f.type ((cs.drop f.offset).take (P.cellsOf f.type))=xs[i]?) ->
   ∃ y:t.den,i6 W.heap (λ b=>b<W.heap.size) t [] ((cs.drop off).take t.size) y/\t.V2 y<=Y6 (λ x=>J8 x.1) xs):=by
 intro t;have strct:∀ {t:Ty},(∀ {n:Nat} {fs:List Field} {off m:Nat} {cs:List Value} {xs:List (DataW X×List MemPlace)},n6 (o6 P n) fs off t=true->xs.length=fs.length->(∀ (i:Nat) (f:Field),fs[i]?=some f->DataW.trod enc P W 0 sp held m f.type ((cs.drop f.offset).take (P.cellsOf f.type))=xs[i]?) ->
   ∃ y:t.den,i6 W.heap (λ b=>b<W.heap.size) t [] ((cs.drop off).take t.size) y/\t.V2 y<=Y6 (λ x=>J8 x.1) xs)->t.agg=true->(∀ n u,t≠.arr n u) ->
   ∀ {n:Nat} {T:TypeId} {fuel:Nat} {cs:List Value} {x:DataW X×List MemPlace},o6 P n T t=true->DataW.trod enc P W 0 sp held fuel T cs=some x->∃ y:t.den,i6 W.heap (λ b=>b<W.heap.size) t [] cs y/\t.V2 y<=J8 x.1:=by
  intro t hB dn lK n T fuel cs x hT h;obtain ⟨fs,k',h1,h2⟩:=LN hT dn lK;obtain ⟨xs,m,_,rfl,hl,hlen,hf⟩:=DataW.trod_struct h1 h;obtain ⟨y,hy,hb⟩:=hB (cs:=cs) (m:=m) (xs:=xs) h2 (by simpa using hlen) (λ i f pV=>hf i f (by simpa using pV));refine ⟨y,?_,?_⟩
  ·rw [Cz hT] at hl
   rw [List.drop_zero,List.take_of_length_le (by omega)] at hy;exact hy
  ·simp only [J8,Fl]; omega
 induction t with
 | int k =>
  intro _;refine ⟨?_,by intro n fs off m cs xs h; cases fs<;>simp [n6] at h⟩;intro n T fuel cs x hT h;obtain ⟨z,rfl,rfl,hw⟩:=DataW.trod_int (yx hT) h;simp only [Lit.wf,Bool.and_eq_true,decide_eq_true_eq] at hw;exact ⟨z,⟨rfl,rfl,hw⟩,by simp [Ty.V2,J8]⟩
 | bool =>
  intro _;refine ⟨?_,by intro n fs off m cs xs h; cases fs<;>simp [n6] at h⟩;intro n T fuel cs x hT h;obtain ⟨b,rfl,rfl⟩:=DataW.trod_bool (ER hT) h;exact ⟨b,⟨rfl,rfl⟩,by simp [Ty.V2,J8]⟩
 | str =>
  intro _;refine ⟨?_,by intro n fs off m cs xs h; cases fs<;>simp [n6] at h⟩;intro n T fuel cs x hT h;obtain ⟨s,rfl,rfl,hl⟩:=DataW.trod_string (X3 hT) h;exact ⟨s.data.toList,⟨rfl,rfl,hl⟩,by simp [Ty.V2,J8]⟩
 | unit =>
  intro _;have hB:∀ {n:Nat} {fs:List Field} {off m:Nat} {cs:List Value} {xs:List (DataW X×List MemPlace)},n6 (o6 P n) fs off .unit=true->xs.length=fs.length->(∀ (i:Nat) (f:Field),fs[i]?=some f->DataW.trod enc P W 0 sp held m f.type ((cs.drop f.offset).take (P.cellsOf f.type))=xs[i]?) ->
    ∃ y:(.unit:Ty).den,i6 W.heap (λ b=>b<W.heap.size) .unit [] ((cs.drop off).take (.unit:Ty).size) y/\(.unit:Ty).V2 y<=Y6 (λ x=>J8 x.1) xs:=λ _ _ _=>⟨(),⟨rfl,by simp [Ty.size]⟩,by simp [Ty.V2]⟩
  exact ⟨strct hB rfl (by simp),hB⟩
 | fn f=>intro h; cases h
 | hole t _=>intro h; cases h
 | B8 t _=>intro h; cases h
 | map o a b=>intro h; cases h
 | box o g t=>intro h; cases h
 | pair a b iha ihb =>
  intro ep;simp only [Ty.flat,Bool.and_eq_true] at ep;have hB:∀ {n:Nat} {fs:List Field} {off m:Nat} {cs:List Value} {xs:List (DataW X×List MemPlace)},n6 (o6 P n) fs off (.pair a b)=true->xs.length=fs.length->(∀ (i:Nat) (f:Field),fs[i]?=some f->DataW.trod enc P W 0 sp held m f.type ((cs.drop f.offset).take (P.cellsOf f.type))=xs[i]?) ->
    ∃ y:((.pair a b):Ty).den,i6 W.heap (λ b=>b<W.heap.size) (.pair a b) [] ((cs.drop off).take ((.pair a b):Ty).size) y/\((.pair a b):Ty).V2 y<=Y6 (λ x=>J8 x.1) xs:=by
   intro n fs off m cs xs hf rk hx;cases fs with
   | nil=>simp [n6] at hf
   | cons f fs =>
    cases xs with
    | nil=>simp at rk
    | cons x xs =>
    simp only [n6,Bool.and_eq_true] at hf;obtain ⟨⟨⟨⟨h1,_⟩,h3⟩,_⟩,h5⟩:=hf;have h1:f.offset=off:=Nat.eq_of_beq_eq_true h1;have im:=hx 0 f (by simp);rw [h1,Cz h3] at im;obtain ⟨y1,oG,dy⟩:=(iha ep.1).1 h3 (im.trans (by simp:_=some x));obtain ⟨y2,nO,ft⟩:=(ihb ep.2).2 (cs:=cs) (m:=m) (xs:=xs) h5 (by simpa using rk) (λ i f hf=>by simpa using hx (i+1) f (by simpa using hf));refine ⟨(y1,y2),⟨[],[],rfl,?_,?_⟩,?_⟩
    ·rw [List.take_take,Nat.min_eq_left (by simp [Ty.size])]; exact oG
    ·rw [<- List.drop_drop] at nO
     rw [List.drop_take,show (Ty.pair a b).size - a.size=b.size by simp [Ty.size]]; exact nO
    ·simp only [Ty.V2,Y6]; omega
  exact ⟨strct hB rfl (by simp),hB⟩
 | arr n t ih =>
  intro ep;refine ⟨?_,by intro n fs off m cs xs h; cases fs<;>simp [n6] at h⟩;intro k T fuel cs x hT h;obtain ⟨e,k',h1,h2,h3⟩:=xU hT;obtain ⟨xs,m,_,rfl,hl,hlen,hf⟩:=DataW.trod_array h1 h;rw [Cz hT] at hl;have hs:(Ty.arr n t).size=n*t.size:=rfl;rw [hs] at hl;obtain ⟨l,g1,g2,g3⟩:=IZ (R:=i6 W.heap (λ b=>b<W.heap.size) t) (bk:=t.V2) (bw:=λ x:DataW X×List MemPlace=>J8 x.1) hlen hl (λ i hi=>by
   have:=hf i hi;rw [Cz h3] at this;have e:=List.getElem?_eq_getElem (l:=xs) (i:=i) (by omega);obtain ⟨y,hy,hb⟩:=(ih ep).1 h3 (this.trans e);exact ⟨y,_,e,hy,hb⟩)
  exact ⟨l,⟨g1,g2⟩,by simp only [Ty.V2,J8,Fl]; omega⟩
 | d0 o t ih =>
  intro ep;simp only [Ty.flat,Bool.and_eq_true,Bool.not_eq_true'] at ep;obtain ⟨rfl,cd⟩:=ep;refine ⟨?_,by intro n fs off m cs xs h; cases fs<;>simp [n6] at h⟩;intro k T fuel cs x hT h;obtain ⟨e,k',h1,h2,h3⟩:=F7 hT;have aV:=Cz h3;rcases DataW.trod_slice h1 h with ⟨rfl,rfl⟩|⟨a,len,cap,elems,rest,n,_,rfl,rfl,_,rl,dQ,og,hf,_,_⟩
  ·exact ⟨([]:List t.den),.inl ⟨rfl,⟨none,0,rfl,by simp⟩,rfl⟩,by simp [Ty.V2,J8,Y6]⟩
  ·rw [aV] at hf
   by_cases h0:len=0
   ·subst h0
    exact ⟨([]:List t.den),.inl ⟨rfl,⟨some a,cap,rfl,by simp⟩,rfl⟩,by simp [Ty.V2,J8,Y6]⟩
   ·have bI:∀ i,i<len->∃ ci y z,W.cells? 0 (a.add (i*t.size)) t.size=some ci/\i6 W.heap (λ b=>b<W.heap.size) t [] ci y/\elems[i]?=some z/\t.V2 y<=J8 z.1:=by
     intro i hi;have:=hf i hi;have e:=List.getElem?_eq_getElem (l:=elems) (i:=i) (by omega);rw [e] at this;obtain ⟨ci,k1,k2⟩:=Option.bind_eq_some_iff.1 this;obtain ⟨y,hy,hb⟩:=(ih cd).1 h3 k2;exact ⟨ci,y,_,k1,hy,e,hb⟩
    obtain ⟨c0,_,_,k1,_⟩:=bI 0 (by omega);obtain ⟨_,l0,g0⟩:=World.cells?_some k1;obtain ⟨b,off,spot⟩:=a;have mr:=g0 0 (by omega);have cm:∃ v,W.cell? (Addr.mk b off spot)=some v:=by
     have:c0[0]?=some c0[0]:=List.getElem?_eq_getElem (by omega);rw [this,Nat.zero_mul] at mr;exact ⟨_,mr⟩
    obtain ⟨v0,fb⟩:=cm;obtain ⟨arr,T0,fz,hh,ma⟩:∃ arr T0 fz,W.heap[b]?=some (.cells arr T0 fz)/\spot=none:=by
     unfold World.cell? at fb;split at fb
     ·rename_i c T0 fz hh
      split at fb
      ·cases fb
      ·rename_i hs
       exact ⟨c,T0,fz,hh,by simpa using hs⟩
     ·cases fb
    subst ma;have dN:u5 W.heap b=arr.toList:=by simp only [u5,hh]
    have kk:∀ i ci,i<len->W.cells? 0 ((Addr.mk b off none).add (i*t.size)) t.size=some ci->off+i*t.size+t.size<=(u5 W.heap b).length/\ci=d9 W.heap b (off+i*t.size) t.size:=by
     intro i ci hi hc;obtain ⟨_,l1,g1⟩:=World.cells?_some hc;have hj:∀ j,j<t.size->(u5 W.heap b)[off+i*t.size+j]?=ci[j]?:=by
      intro j hj;have:=g1 j hj;rw [Addr.H6,Addr.H6] at this;simp only [World.cell?,hh] at this;rw [dN,<- this]; simp
     have hle:off+i*t.size+t.size<=(u5 W.heap b).length:=by
      have:=hj (t.size - 1) (by omega);rw [List.getElem?_eq_getElem (by omega:t.size - 1<ci.length)] at this;have:=(List.getElem?_eq_some_iff.1 this).1;omega
     refine ⟨hle,List.ext_getElem? (λ j=>?_)⟩;by_cases rn:j<t.size
     ·rw [<- hj j rn]
      simp only [d9,List.getElem?_take,if_pos rn,List.getElem?_drop]
     ·rw [List.getElem?_eq_none (by omega),List.getElem?_eq_none (by rw [LO _ _ _ hle]; omega)]
    have hlen:off+len*t.size<=(u5 W.heap b).length:=by
     obtain ⟨ci,y,_,q1,_⟩:=bI (len - 1) (by omega);have:=(kk (len - 1) ci (by omega) q1).1;have e:len*t.size=(len - 1)*t.size+t.size:=by
      rw [<- Nat.succ_mul]; congr 1; omega
     omega
    obtain ⟨l,q1,q2,q3⟩:=IZ (R:=i6 W.heap (λ b=>b<W.heap.size) t) (bk:=t.V2) (bw:=λ x:DataW X×List MemPlace=>J8 x.1) (n:=len) (sz:=t.size) (cs:=d9 W.heap b off (len*t.size)) og (LO _ _ _ hlen) (λ i hi=>by
     obtain ⟨ci,y,z,r1,r2,r3,r4⟩:=bI i hi;have hle:i*t.size+t.size<=len*t.size:=by rw [<- Nat.succ_mul]; exact Nat.mul_le_mul_right _ hi
     rw [o7,n7 _ _ _ _ (by omega),<- (kk i ci hi r1).2];exact ⟨y,z,r3,r2,r4⟩)
    have dL:b<W.heap.size:=(Array.getElem?_eq_some_iff.1 hh).1;subst q1;exact ⟨l,.inr ⟨b,off,cap,[],rfl,rl,⟨dQ,by simp⟩,hlen,q2,rfl,rfl,dL⟩,by simp only [Ty.V2,J8,Fl]; omega⟩
end
end Go.Ex
namespace Go.Ex
open Go.ChangeShapes Go.WideShapes Go.ChangeAt Go.RowKit
section
variable {P:Program} {X:Type} {enc:TypeId×Value->X} {W W':World} {sp:Nat->Bool} {held:Bool}
theorem b8u {k:Nat} {T:TypeId} {t:Ty} (hT:o6 P k T t=true) {r:Go.Reach} {base:Nat} {v:Value} (h:Value.okWide P W r base T v):v=n8 t v.cells.toList:=by
 obtain ⟨d,hd,dn⟩:=Q6 hT;unfold Value.okWide at h;rw [hd] at h;cases t with
 | int q =>
  have hu:=yx hT;rw [hd] at hu; cases hu;simp only [Cell.okWide,hd,Cell.ok] at h;cases v<;>simp_all [n8,Ty.agg,Value.cells]
 | bool =>
  have hu:=ER hT;rw [hd] at hu; cases hu;simp only [Cell.okWide,hd,Cell.ok] at h;cases v<;>simp_all [n8,Ty.agg,Value.cells]
 | str =>
  have hu:=X3 hT;rw [hd] at hu; cases hu;simp only [Cell.okWide,hd,Cell.ok] at h;cases v<;>simp_all [n8,Ty.agg,Value.cells]
 | fn f =>
  obtain ⟨_,_,_,hu⟩:=OO hT;rw [hd] at hu; cases hu;simp only [Cell.okWide,hd,Cell.ok] at h;cases v<;>simp_all [n8,Ty.agg,Value.cells]
 | map o a b =>
  obtain ⟨_,_,_,hu,_⟩:=Js hT;rw [hd] at hu; cases hu;simp only [Cell.okWide,hd,Cell.ok] at h;cases v<;>simp_all [n8,Ty.agg,Value.cells]
 | box o g a =>
  cases g with
  | none =>
   obtain ⟨_,_,hu,_⟩:=Jr hT;rw [hd] at hu; cases hu;simp only [Cell.okWide,hd,Cell.ok] at h;cases v<;>simp_all [n8,Ty.agg,Value.cells]
  | some f =>
   obtain ⟨_,_,_,hu⟩:=Sf hT;rw [hd] at hu; cases hu;simp only [Cell.okWide,hd,Cell.ok] at h;cases v<;>simp_all [n8,Ty.agg,Value.cells]
 | d0 o u =>
  obtain ⟨e,_,hu,_⟩:=F7 hT;rw [hd] at hu; cases hu;simp only [Cell.okWide,hd,Cell.ok] at h;cases v<;>simp_all [n8,Ty.agg,Value.cells]
 | hole u =>
  obtain ⟨e,hu⟩:=Sg hT;rw [hd] at hu; cases hu;simp only [Cell.okWide,hd,Cell.ok] at h;cases v<;>simp_all [n8,Ty.agg,Value.cells]
 | B8 u =>
  obtain ⟨e,hu⟩:=Qn hT;rw [hd] at hu; cases hu;simp only [Cell.okWide,hd,Cell.ok] at h;cases v<;>simp_all [n8,Ty.agg,Value.cells]
 | _ =>
  cases d<;>first|(exact (Bool.false_ne_true dn.symm).elim)|skip
  all_goals
   obtain ⟨cs,rfl,_⟩:=h;simp [n8,Ty.agg,Value.cells]
def yV (P:Program):List TypeId->List Ty->Bool
 | [],[]=>true
 | T::ts,t::us=>o6 P 100 T t && t.flat && P.readableRec T && decide (T<P.types.size) && yV P ts us
 | _,_=>false
def zW:(us:List Ty)->DK (us.map .v)->Nat
 | [],_=>0
 | t::us,x=>t.V2 x.1+zW us x.2
theorem SR:∀ {ts:List TypeId} {us:List Ty},yV P ts us=true->∀ {vs:List Value} {ds:List (DataW X)} {ps:List MemPlace} {base:Nat} {r:Go.Reach},DataW.TrodAll enc P W 0 sp held ts vs ds ps ->
  (∀ (j:Nat) T v,ts[j]?=some T->vs[j]?=some v->Value.okWide P W r base T v)->∃ x:DK (us.map .v),U6 W.heap (λ b=>b<W.heap.size) (us.map .v) vs x []/\ds.length=ts.length/\zW us x<=U4 ds
 | [],[],_,vs,ds,ps,base,r,h,_=>by
  obtain ⟨rfl,rfl,rfl⟩:=trodAll_nil h;exact ⟨(),⟨rfl,rfl⟩,rfl,Nat.le_refl _⟩
 | [],_::_,h,_,_,_,_,_,_,_=>by cases h
 | _::_,[],h,_,_,_,_,_,_,_=>by cases h
 | T::ts,t::us,da,vs,ds,ps,base,r,h,aM=>by
  simp only [yV,Bool.and_eq_true] at da;obtain ⟨⟨⟨⟨h1,h2⟩,_⟩,_⟩,h5⟩:=da;obtain ⟨v,vs',d,ds',p,q,rfl,rfl,rfl,⟨fuel,hv⟩,hr⟩:=trodAll_cons h;obtain ⟨y,hy,hb⟩:=(b0H t h2).1 h1 hv;obtain ⟨x,hx,hl,ft⟩:=SR h5 hr (λ j T v hT hv=>aM (j+1) T v (by simpa using hT) (by simpa using hv));exact ⟨(y,x),⟨v,vs',[],[],rfl,rfl,⟨rfl,_,b8u h1 (aM 0 T v rfl rfl),hy⟩,hx⟩,by simp [hl],by simp only [zW,U4]; exact Nat.add_le_add hb ft⟩
theorem Uh (hl:laidOutB P=true) (hb:Below W.heap.size W W'):∀ {ts:List TypeId} {us:List Ty},yV P ts us=true->∀ {vs:List Value} {ds:List (DataW X)} {ps:List MemPlace},DataW.TrodAll enc P W 0 (λ _=>true) true ts vs ds ps ->
  (∀ p∈ps,p.block<W.heap.size)->(∀ p∈ps,sp p.block=true)->DataW.TrodAll enc P W' 0 sp true ts vs ds ps
 | [],[],_,vs,ds,ps,h,_,_=>by
  obtain ⟨rfl,rfl,rfl⟩:=trodAll_nil h;rfl
 | [],_::_,h,_,_,_,_,_,_=>by cases h
 | _::_,[],h,_,_,_,_,_,_=>by cases h
 | T::ts,t::us,da,vs,ds,ps,h,bc,fx=>by
  simp only [yV,Bool.and_eq_true] at da;obtain ⟨⟨⟨⟨_,_⟩,h3⟩,h4⟩,h5⟩:=da;obtain ⟨v,vs',d,ds',p,q,rfl,rfl,rfl,hv,hr⟩:=trodAll_cons h;refine trodAll_cons_mk (WideElems.Trod_stays hl h3 (of_decide_eq_true h4) hv (λ x hx=>hb.same (bc x (by simp [hx]))) (λ x hx=>fx x (by simp [hx]))) ?_;exact Uh hl hb h5 hr (λ x hx=>bc x (by simp [hx])) (λ x hx=>fx x (by simp [hx]))
def FK (us:List Ty) (pre:DK (us.map .v)->Prop):p9:={ ps:=us.map .v,rs:=[.bool],pre:=pre,fn:=λ _=>(true,()),out:=λ _=>Mv us }
where Mv:(us:List Ty)->DL (E6 (us.map .v))
 | []=>()
 | _::us=>Mv us
theorem NP:∀ us:List Ty,(us.map PK.v).any PK.lnk=false
 | []=>rfl
 | _::us=>NP us
theorem c3L {C:Checked} {f:FuncId} {fn:Func} {s:ChangeSpec} {apart fresh handsOn again:Bool} {us:List Ty} {tb:TypeId} {pre:DK (us.map .v)->Prop}
  (hl:laidOutB C.prog=true) (da:yV C.prog fn.params.toList us=true) (fH:s.vars=[]) (hs:∀ ds:List (DataW X),ds.length=fn.params.toList.length->s.fn X ds={ results:=[.lit (.bool true)],args:=ds })
  (du:fn.resultTypes=#[tb]) (nS:C.prog.underlying tb=some .bool) (hv:(FK us pre).Valid C.prog f)
  {W:World} (dJ:vn C.prog W (λ b=>b<W.heap.size)) {base:Nat} {args:Array Value} {ds gs:List (DataW X)} {before:List MemPlace} {rr:Go.Reach} (aZ:∀ x,zW us x<=U4 ds->pre x)
  (dD:∀ (j:Nat) t v,fn.params[j]?=some t->args[j]?=some v->Value.okWide C.prog W rr base t v) (hW:DataW.Whole enc C.prog fn.params.toList s.vars apart W args.toList ds gs before) :
  Calls C.prog f args W λ e W'=>∃ v,e=.returned v/\s.post enc C.prog fn apart fresh handsOn again W args v W':=by
 have bc:=DataW.Whole.lt hW;have rF:=hW;obtain ⟨p,q,hA,hV,rfl,hz,hn⟩:=hW;rw [fH] at hV;obtain ⟨rfl,rfl⟩:=trodVars_none hV;simp only [List.append_nil] at bc hz hn rF;obtain ⟨x,hx,hlen,km⟩:=SR da hA (λ j T v hT hv=>dD j T v (by simpa using hT) (by simpa using hv));have hc:=hv.run W (λ b=>b<W.heap.size) args.toList x [] (λ _ h=>h) dJ (aZ x km) hx (CA (NP us)) List.nodup_nil (by simp);refine Calls.mono (by simpa using hc) ?_;rintro e w' ⟨us',O,Lo,S',rfl,bh,_,_,⟨v,us2,O1,O2,cs,rfl,rfl,rfl,hR,fw⟩,_,_,_⟩;have hb:RowKit.Below W.heap.size W w':=⟨bh.os,bh.tape.1,bh.out,bh.size,λ k hk=>bh.frame k hk (by simp)⟩;obtain ⟨rfl,rfl⟩:=fw;obtain ⟨_,rfl⟩:=hR;have oY:wJ [n8 .bool [.bool ((FK us pre).fn x).1]]=.bool true:=rfl;rw [oY];have iI:=hs ds hlen;have aD:∀ sp:Nat->Bool,(∀ x∈p,sp x.block=true)->DataW.TrodAll enc C.prog w' 0 sp true fn.params.toList args.toList ds p:=λ sp fx=>Uh hl hb da hA bc fx;have cn:∀ (b:Nat) (sp:Nat->Bool) (hd:Bool),DataW.TrodAll enc C.prog w' b sp hd fn.resultTypes.toList ((Value.bool true).resultList fn.resultTypes.size) [.lit (.bool true)] []:=by
  intro b sp hd;rw [du];exact trodAll_cons_mk (shut_bool nS _) trodAll_mk0
 have iR:∀ sp:Nat->Bool,DataW.TrodVars enc C.prog w' sp s.vars [] []:=by intro sp; rw [fH]; rfl
 have hold:∀ x∈p,(λ b=>decide (b<W.heap.size)) x.block=true:=λ x hx=>by simpa using bc x hx
 refine ⟨_,rfl,ds,[],p,[],p,[],rF,?_,?_,?_,?_,?_⟩
 ·rw [List.append_nil,iI]; exact cn _ _ _
 ·rw [List.append_nil,iI]; exact aD _ hold
 ·rw [List.append_nil,iI]; exact iR _
 ·exact hb.frame _
 ·intro _
  refine ⟨ok_one du rfl (okWide_bool_mk nS _),.lit (.bool true)::ds,[],p,⟨[]++p,[],trodAll_append (aD _ (λ _ _=>rfl)) (cn _ _ _),iR _,by simp,?_,?_⟩,λ x hx _=>by simpa using hx⟩
  ·intro b off hp
   rw [hb.frozen (bc _ hp)];exact hz b off hp
  ·exact hn
def MY (us:List Ty):p9:=FK us (λ x=>zW us x<=1048576)
end
end Go.Ex
