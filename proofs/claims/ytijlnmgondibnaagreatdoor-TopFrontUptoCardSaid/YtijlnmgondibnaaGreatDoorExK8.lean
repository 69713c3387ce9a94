import Derived.Test.YtijlnmgondibnaaGreatDoorExK7
set_option linter.unusedVariables false
set_option linter.unusedSimpArgs false
set_option linter.unusedSectionVars false
namespace Go.Ex
section
variable {E:Env} {ops:Array Oper} {B:D4} {S:Nat->Prop} {ι:Ix} {s:St} {a:Act} {w:World}
theorem c1h {s t:St} (he:M7 s t) (h:RS B S ι s a w):RS B S ι t a w:=by
 have cY:∀ {v:AV} {vs:List Value},VX w.heap S ι s.hp v vs->VX w.heap S ι t.hp v vs:=by
  intro v vs hv;exact VX.other (λ i _=>(he.2 i).symm) (λ i _=>E0.refl ι i) hv
 exact ⟨⟨h.hs.os,h.hs.tape,h.hs.out,h.hs.size,h.hs.frame,h.hs.slt,h.hs.s0,h.hs.s1,λ i e hi=>h.hs.ob i e ((he.2 i).trans hi),λ i e hi=>h.hs.bl i e ((he.2 i).trans hi),λ i j ei ej hi hj=>h.hs.dj i j ei ej ((he.2 i).trans hi) ((he.2 j).trans hj),λ q hq=>by obtain ⟨r1,⟨e,r2⟩,r3⟩:=h.hs.pin q hq; exact ⟨r1,⟨e,(he.2 q.1).symm.trans r2⟩,r3⟩⟩,h.dfr,h.sz,
  λ m v hv=>cY (h.fr m v ((he.1 m).trans hv))⟩
theorem RS.forget (h:RS B S ι s a w) (d:Nat):RS B S ι { s with fr:=Ex.put d .any s.fr } a w:=by
 refine ⟨h.hs,h.dfr,h.sz,λ t v hv=>?_⟩;rw [o7] at hv;split at hv
 ·cases hv; exact ⟨_,rfl⟩
 ·exact h.fr t v hv
theorem RS.Q7:∀ {l:List Oper} {s:St},RS B S ι s a w->RS B S ι (Ex.Q7 l s) a w
 | [],s,h=>h
 | o::l,s,h=>by
  unfold Ex.Q7
  split
  ·split
   ·exact RS.Q7 (h.forget _)
   ·exact RS.Q7 h
  ·exact RS.Q7 h
theorem X5.cut:∀ {A C:List Oper} {o:Oper},X5 (A++o::C)->X5 (A++C)/\∀ x∈A++C,∀ d,x.dst=some d->o.dst≠some d
 | [],C,o,h=>⟨h.2,λ x hx d fp iD=>h.1 d iD x hx fp⟩
 | y::A,C,o,h=>by
  obtain ⟨m1,m2⟩:=X5.cut h.2;refine ⟨⟨λ d hd x hx=>h.1 d hd x (by simp at hx ⊢; rcases hx with hx|hx<;>simp [hx]),m1⟩,λ x hx d fp iD=>?_⟩;rcases List.mem_cons.1 hx with rfl|hx
  ·exact h.1 d fp o (by simp) iD
  ·exact m2 x hx d fp iD
theorem X5.sub {f:Nat->Bool}:∀ {l:List Nat},X5 (rem ops l)->X5 (rem ops (l.filter f))
 | [],h=>h
 | i::l,h=>by
  cases ho:ops[i]? with
  | none =>
   have e:rem ops (i::l)=rem ops l:=by simp [rem,ho]
   rw [e] at h;have:=X5.sub (f:=f) h;rw [List.filter_cons]
   split
   ·have e:rem ops (i::l.filter f)=rem ops (l.filter f):=by simp [rem,ho]
    rw [e]; exact this
   ·exact this
  | some o =>
   rw [a5j ho] at h;rw [List.filter_cons]
   split
   ·rw [a5j ho]
    refine ⟨λ d hd x hx=>h.1 d hd x ?_,X5.sub h.2⟩;obtain ⟨j,hj,rb⟩:=List.mem_filterMap.1 hx;exact List.mem_filterMap.2 ⟨j,(List.mem_filter.1 hj).1,rb⟩
   ·exact X5.sub h.2
section
variable {q:c7Y} {n:Nat} {s1:St}
theorem a41.set {listed:Array Bool} (df:a41 ops listed) {i:Nat} {o:Oper} (ho:ops[i]?=some o) (bm:∀ e∈o.after,Region.binds .any e=true->listed.getD e.on false=true):a41 ops (listed.setIfInBounds i true):=by
 intro k y hy hk e' dR cX;by_cases jP:k=i
 ·subst jP
  rw [ho] at hy; cases hy;exact getD_set_true (bm e' dR cX)
 ·rw [getD_set_ne true (Ne.symm jP)] at hk
  exact getD_set_true (df k y hy hk e' dR cX)
end
end
end Go.Ex
namespace Go.Ex
section
variable {E:Env} {ops:Array Oper} {s t:St}
theorem b1v {o:Oper} {T:TypeId} {a x:Operand} (ho:o.op=.store T a x) (v:AV):I0 o v=v:=by
 rcases a2t o with e|⟨_,x,j,cT,_⟩
 ·exact e v
 ·rw [ho] at cT; cases cT
end
section
variable {E:Env} {ops:Array Oper} {s t:St}
end
section
variable {E:Env} {ops:Array Oper} {M:Nat->Nat} {s t:St}
def c7n (ops:Array Oper) (x:Oper) (sx:St) (Tx:List Nat) (y:Oper) (Ty:List Nat):Prop:=a3f ops x sx Tx y Ty/\(Tx≠[]->∀ m∈looks ops y,m∉c7l ops)
def c0U (E:Env) (ops:Array Oper) (x:Oper) (sx:St) (y:Oper) (sy:St):Prop:=c7n ops x sx (l5 E x sx) y (l5 E y sy)\/(a3m x sx=true/\b42 y sy=true)\/∃ j kd q,c2Z y sy=some (j,kd,q)/\a9O x sx j kd q=true
theorem b6f {x:Oper} {sx sx':St} (h:a3m x sx=true) (h1:∀ m∈looks ops x,I0 x (sx'.get m)=I0 x (sx.get m)):a3m x sx'=true:=by
 have h0:=h;unfold a3m at h;split at h
 ·rename_i T a v hg ho
  have eS:∀ o,o=a\/o=v->sx'.ev o=sx.ev o:=by
   intro o nG;cases o with
   | tmp m =>
    have:=h1 m (a17 (by rw [ho]; simp [Op.operands]; rcases nG with e|e<;>simp [<- e]));rw [b1v ho,b1v ho] at this;exact a0O this
   | _=>rfl
  unfold a3m at h0 ⊢;rw [hg,ho] at h0 ⊢;simp only [eS a (.inl rfl),eS v (.inr rfl)];exact h0
 ·cases h
theorem c1F {x:Oper} {sx sx':St} {j:Nat} {kd:Bool×Ty} {q:List Step} (h:a9O x sx j kd q=true) (h1:∀ m∈looks ops x,I0 x (sx'.get m)=I0 x (sx.get m)) (h2:∀ m∈looks ops x,∀ i,(I0 x (sx.get m)).i6 i=true->hpk sx' i=hpk sx i):a9O x sx' j kd q=true:=by
 have dA:∀ v,I0 x v=v:=by
  intro v;rcases a2t x with e|⟨_,y,k,cT,_⟩
  ·exact e v
  ·unfold a9O at h; rw [cT] at h; split at h<;>first|(rename_i e9; cases e9; done)|(cases h; done)
 have eS:∀ o∈x.op.operands.toList,sx'.ev o=sx.ev o:=by
  intro o nG;cases o with
  | tmp m =>
   have:=h1 m (a17 nG);rw [dA,dA] at this;exact a0O this
  | _=>rfl
 unfold a9O at h ⊢;split at h
 ·rename_i a hg ho
  simp only [eS a (by rw [ho]; simp [Op.operands])];exact h
 ·rename_i T a n hg ho
  simp only [eS a (by rw [ho]; simp [Op.operands])];exact h
 ·rename_i T a hg ho
  simp only [eS a (by rw [ho]; simp [Op.operands])];split at h
  ·rename_i i p ha
   have:hpk sx' i=hpk sx i:=by
    cases a with
    | tmp m =>
     have hm:m∈looks ops x:=a17 (by rw [ho]; simp [Op.operands]);have rm:sx.get m=.ptr i p:=a2C ha nofun
     exact h2 m hm i (by rw [dA,rm]; simp only [AV.i6]; exact Nat.beq_refl i)
    | const c=>exact absurd ha (by intro e9; have:=a6y c i; rw [show ofConst c=.ptr i p from e9] at this; simp only [AV.i6] at this; rw [Nat.beq_refl] at this; cases this)
    | global g=>cases ha
    | func f=>cases ha
   rw [this];exact h
  ·cases h
 ·cases h
theorem c0U.b4e {x:Oper} {sx sx':St} {y:Oper} {sy sy':St} (h:c0U E ops x sx y sy) (h1:∀ m∈looks ops x,I0 x (sx'.get m)=I0 x (sx.get m)) (h2:l5 E x sx'=l5 E x sx) (h3:∀ (z:Oper) m,∀ k∈l5 E x sx,(I0 z (sx'.get m)).i6 k=true->(I0 z (sx.get m)).i6 k=true\/m∈c7l ops)
  (h4:∀ m∈looks ops x,∀ i,(I0 x (sx.get m)).i6 i=true->hpk sx' i=hpk sx i) (hT:l5 E y sy'=l5 E y sy) (hA:b42 y sy=true->b42 y sy'=true) (hS:∀ r,c2Z y sy=some r->c2Z y sy'=some r):c0U E ops x sx' y sy':=by
 rcases h with ⟨⟨P1,P2,P3⟩,hn⟩|⟨k1,k2⟩|⟨j,kd,q,k1,k2⟩
 ·refine .inl ?_
  rw [hT,h2];refine ⟨⟨λ m hm i hi=>?_,λ m hm i hi=>by rw [h1 m hm]; exact P2 m hm i hi,P3⟩,hn⟩;cases hh:(I0 y (sx'.get m)).i6 i with
  | false=>rfl
  | true =>
   rcases h3 y m i hi hh with h9|h9
   ·rw [P1 m hm i hi] at h9; cases h9
   ·exact absurd h9 (hn (λ e=>by rw [e] at hi; cases hi) m hm)
 ·exact .inr (.inl ⟨b6f k1 h1,hA k2⟩)
 ·exact .inr (.inr ⟨j,kd,q,hS _ k1,c1F k2 h1 h4⟩)
end
section
variable {E:Env} {ops:Array Oper} {B:D4} {S:Nat->Prop} {ι:Ix} {s:St} {a:Act} {w:World}
end
end Go.Ex
namespace Go.Ex
section
variable {E:Env} {B:D4} {S S':Nat->Prop} {ι:Ix} {s:St} {a:Act} {w:World} {hp:List (Nat×g8)} {H H':Array Go.Obj}
def At (P:Program) (fn:Func) (R:Ending->World->Prop) (k:List Item) (a:Act) (w:World):Prop :=
 ∀ (b:Frame) (cs:List Frame),∃ (e:Exit) (a':Act) (w':World),bodyPost P fn R e a' w'/\Arrives P (lone (b.at a k) cs w) b [] cs e a' w'
section at_
variable {P:Program} {fn:Func} {R:Ending->World->Prop} {k k':List Item}
theorem At.step (hs:∀ (b:Frame) (cs:List Frame),step P (lone (b.at a k) cs w)=.next (lone (b.at a k') cs w)) (h:At P fn R k' a w):At P fn R k a w :=
 λ b cs=>let ⟨e,a',w',q,r⟩:=h b cs; ⟨e,a',w',q,.of_steps (.one (hs b cs)) r⟩
theorem At.region {id:Nat} {ops:Array Oper} {d:Bool} (h:(Code.region id ops d).wp P (λ e a w=>e=.normal/\At P fn R k a w) a w):At P fn R (.code (.region id ops d)::k) a w:=by
 intro b cs;obtain ⟨e,a',w',⟨rfl,h2⟩,ed⟩:=h b k cs;obtain ⟨e,a'',w'',q,r⟩:=h2 b cs;exact ⟨e,a'',w'',q,.of_steps ed r⟩
theorem At.done (h:bodyPost P fn R .normal a w):At P fn R [] a w:=λ _ _=>⟨.normal,a,w,h,Steps.refl _ _⟩
theorem At.ret (h:bodyPost P fn R .ret a w):At P fn R (.code .ret::k) a w:=λ _ _=>⟨.ret,a,w,h,_,.one step_ret⟩
theorem b6R {f:FuncId} {c:Code} {args:Array Value} (hf:P.funcs[f]?=some fn) (hb:fn.body=some c)
  (h:At P fn R [.code c] { tmps:=args++Array.replicate (fn.ntmps - args.size) undef,defers:=[] } w):Calls P f args w R:=by
 intro cs
 let b:Frame:={ (default:Frame) with fn:=f,kind:=.normal }
 have jX:Frame.enter P f args .normal=b.at { tmps:=args++Array.replicate (fn.ntmps - args.size) undef,defers:=[] } [.code c]:=by
  simp [Frame.enter,Frame.at,hf,hb,b]
 obtain ⟨e,a',w',hq,ed⟩:=h b cs;rw [<- jX] at ed;cases e with
 | normal =>
  obtain ⟨hd,v,hr,hR⟩:=hq;exact ⟨.returned v,w',_,hR,Steps.trans ed (.one step_end),rfl,rfl,hd,rfl,fn,hf,hr⟩
 | ret =>
  obtain ⟨hd,v,hr,hR⟩:=hq;obtain ⟨todo,hs⟩:=ed;exact ⟨.returned v,w',_,hR,hs,rfl,rfl,hd,rfl,fn,hf,hr⟩
 | panic chain =>
  obtain ⟨hd,hR⟩:=hq;obtain ⟨todo,hs⟩:=ed;exact ⟨.panicked chain,w',_,hR,hs,rfl,rfl,hd,fn,hf⟩
 | exit id=>exact hq.elim
 | goto l=>exact hq.elim
 | outgrown=>exact ⟨.outgrown,w',b,hq,ed.resolve_left (by simp [b]),rfl,trivial⟩
end at_
theorem RS.M3 (live:List Nat) (s0:St):∀ {l:List (Nat×g8)} {s:St},RS B S ι s a w->RS B S ι (M3 live s0 l s) a w
 | [],_,h=>h
 | (i,_)::l,s,h=>by
  simp only [Ex.M3]
  split
  ·exact RS.M3 live s0 h
  ·rename_i hp
   simp only [Bool.or_eq_false_iff] at hp;exact RS.M3 live s0 (h.drop hp.1)
theorem RS.b84 (h:RS B S ι s a w) {m d:Nat} (hf:s.fresh d=true) {t:Ty} {x:t.den} {O:List Nat} {cs:List Value} (hv:a.tmps.getD m (B.gd m)=j9 t cs) (hR:f8 w.heap S t O cs x) (hF:C9 B S ι s.hp w O) :
  ∃ ι',RS B S ι' { s.u5 d (.own t x) with fr:=Ex.put m (.at_ d []) s.fr } a w :=
 ⟨_,(h.hold hf hR hF).slot (t:=m) (v:=.at_ d []) (by rw [hv]; exact a4X hR.length)⟩
def a3L (ι ι':Ix) (i j:Nat):Prop:=ι'.root j=ι.root i/\ι'.cells j=ι.cells i/\ι'.own j=ι.own i
theorem a3L.place {ι':Ix} {i j:Nat} (h:a3L ι ι' i j) {H:Array Go.Obj} {e:g8} {p:List Step}:Place H ι' j e p=Place H ι i e p:=by
 obtain ⟨h1,h2,h3⟩:=h;cases e<;>simp only [Place,VH,VR,h1,h2]
theorem a3L.loc {ι':Ix} {i j:Nat} (h:a3L ι ι' i j) {H:Array Go.Obj} {e:g8} {p:List Step}:Loc H ι' j e p=Loc H ι i e p:=by
 simp only [Loc,h.place]
theorem a3L.a60 {ι':Ix} {i j:Nat} (h:a3L ι ι' i j) {H:Array Go.Obj} {e:g8} {p:List Step} {u:Ty} {cs:List Value}:Cells H ι' j e p u cs↔Cells H ι i e p u cs:=by
 have hv:VH H ι' j e=VH H ι i e:=by obtain ⟨h1,h2,h3⟩:=h; cases e<;>simp only [VH,h2]
 simp only [Cells,h.place,hv]
theorem RS.ren (h:RS B S ι s a w) {i j:Nat} (hi:pinned i=false) {u:Ty} {x:u.den} (h1:look i s.hp=some (.own u x)) (hf:s.fresh j=true) :
  ∃ ι',RS B S ι' { fr:=mapA (AV.ren i j) s.fr,hp:=Ex.put j (.own u x) (del i s.hp) } a w:=by
 obtain ⟨f1,f2⟩:=a4a hf;have cd:i≠j:=by rintro rfl; rw [f1] at h1; cases h1
 let ι':Ix:={ root:=λ k=>if k=j then ι.root i else ι.root k,cells:=λ k=>if k=j then ι.cells i else ι.cells k,own:=λ k=>if k=j then ι.own i else ι.own k }
 have kz:a3L ι ι' i j:=⟨by simp [ι'],by simp [ι'],by simp [ι']⟩;have pC:∀ k,k≠j->E0 ι ι' k:=λ k hk=>⟨by simp [ι',hk],by simp [ι',hk],by simp [ι',hk]⟩;have hF:C9 B S ι (St.u4 [i] s).hp w (ι.own i):=by
  obtain ⟨⟨O,hO,hR⟩,aI⟩:=(h.hs.ob i _ h1:OB w.heap S ι i (.own u x));exact C9.u4 h.hs aI (λ b hb=>⟨i,_,by simp,h1,hb⟩)
 have aX:OB w.heap S ι' j (.own u x):=by
  obtain ⟨⟨O,hO,hR⟩,aI⟩:=(h.hs.ob i _ h1:OB w.heap S ι i (.own u x));obtain ⟨e1,e2,e3⟩:=kz;exact ⟨⟨O,by rw [e3]; exact hO,by rw [e2]; exact hR⟩,by rw [e3]; exact aI⟩
 have hd:=h.hs.drop hi;refine ⟨ι',⟨hd.add (d:=j) (e:=.own u x) (ι':=ι') (O:=ι.own i) ?_ pC aX ?_ hF,h.dfr,h.sz,?_⟩⟩
 ·rw [I8]; split<;>first|rfl|exact f1
 ·intro b hb
  have:ι'.own j=ι.own i:=kz.2.2;show b∈ι.own i;rw [<- this]; exact hb
 ·intro t v hv
  simp only [N5,Option.map_eq_some_iff] at hv;obtain ⟨v0,eD,rfl⟩:=hv;have mz:=f2 t v0 eD;refine VX.map (λ _ _=>rfl) (λ _ h=>h) (λ q vs hq hm hv=>?_) (h.fr t v0 eD);have eQ:∀ k,q.i6 k=true->k≠i->look k (Ex.put j (.own u x) (del i s.hp))=look k s.hp:=by
   intro k hk jP;have qW:k≠j:=by rintro rfl; rw [hm k hk] at mz; cases mz
   rw [o7,if_neg qW,I8,if_neg jP]
  have cZ:look j (Ex.put j (g8.own u x) (del i s.hp))=some (.own u x):=by rw [o7,if_pos rfl]
  dsimp only
  split
  ·rename_i bS
   refine VX.other (λ k hk=>eQ k hk ?_) (λ k hk=>pC k ?_) hv
   ·rintro rfl; rw [hk] at bS; cases bS
   ·rintro rfl; rw [hm k hk] at mz; cases mz
  ·rename_i bS
   split
   ·rename_i k p
    have:=Nat.eq_of_beq_eq_true bS;subst this;obtain ⟨e,b,off,k1,k2,k3,k4⟩:=hv;rw [h1] at k1; cases k1;exact ⟨_,b,off,cZ,k2,kz.loc.trans k3,k4⟩
   ·rename_i k p
    have:=Nat.eq_of_beq_eq_true bS;subst this;obtain ⟨e,u',y,cs,k1,k2,k3,k4,k5⟩:=hv;rw [h1] at k1; cases k1;exact ⟨_,u',y,cs,cZ,k2,k3,kz.a60.2 k4,k5⟩
   ·rename_i k p lo cB
    have:=Nat.eq_of_beq_eq_true bS;subst this;obtain ⟨e,v,k1,k2,k3,k4,k5,k6⟩:=hv;rw [h1] at k1; cases k1;refine ⟨_,v,cZ,k2,k3,k4,k5,?_⟩;rcases k6 with ⟨t',l,A,cap,q1,q2,q3,q4⟩|⟨n,t',l,b,off,q1,q2,q3,q4⟩
    ·exact .inl ⟨t',l,A,cap,q1,q2,kz.a60.2 q3,q4⟩
    ·exact .inr ⟨n,t',l,b,off,q1,q2,kz.loc.trans q3,q4⟩
   ·obtain ⟨y,e⟩:=VX.one hq hv
    exact ⟨y,e⟩
theorem RS.settle (h:RS B S ι s a w) (m:Nat) (t:Ty):∃ ι',RS B S ι' (settle m t s) a w:=by
 have hg:=h.get m;unfold Ex.settle
 split
 ·rename_i hm
  rw [hm] at hg;have hv:a.tmps.getD m (B.gd m)=Value.slice none 0 0:=by
   have:[a.tmps.getD m (B.gd m)]=[Value.slice none 0 0]:=hg;simpa using this
  split
  ·rename_i u hf
   exact h.b84 hf (t:=.d0 true u) (x:=([]:List u.den)) (O:=[]) (cs:=[.slice none 0 0]) hv (.inl ⟨rfl,⟨none,0,rfl,λ _=>rfl⟩,rfl⟩) C9.nil
  ·exact ⟨ι,h⟩
 ·rename_i i hm
  split
  ·rename_i u x aX
   split
   ·exact ⟨ι,h⟩
   ·rename_i hc
    simp only [Bool.or_eq_false_iff,Bool.not_eq_false'] at hc;exact h.ren hc.1 aX hc.2
  ·exact ⟨ι,h⟩
 ·rename_i i lo hi hm
  rw [hm] at hg
  split
  ·rename_i u x g cC
   split
   ·exact ⟨ι,h⟩
   ·rename_i hc
    simp only [Bool.or_eq_false_iff,Bool.not_eq_false'] at hc;obtain ⟨O,cs,k1,k2,k3,k4⟩:=a1g h.hs cC hg;have ep:g=[i]:=by
     simp only [AV.Z0] at cC;split at cC<;>cases cC;rfl
    subst ep;exact (h.drop hc.1).b84 hc.2 k1 k2 (C9.u4 h.hs k3 k4)
  ·exact ⟨ι,h⟩
 ·rename_i u x hm
  rw [hm] at hg
  split
  ·rename_i hc
   simp only [Bool.and_eq_true] at hc;obtain ⟨cs,e,hR⟩:=hg;exact h.b84 hc.2 (by simpa using e) hR C9.nil
  ·exact ⟨ι,h⟩
 ·exact ⟨ι,h⟩
theorem RS.U5:∀ {l:List (Nat×Option Ty)} {ι:Ix} {s:St},RS B S ι s a w->∃ ι',RS B S ι' (U5 l s) a w
 | [],ι,s,h=>⟨ι,h⟩
 | (_,none)::l,ι,s,h=>RS.U5 (l:=l) h
 | (m,some t)::l,ι,s,h=>by
  obtain ⟨ι',h'⟩:=h.settle m t;exact RS.U5 (l:=l) h'
theorem RS.canon (h:RS B S ι s a w) (x:List (Nat×Option Ty)):∃ ι',RS B S ι' (canon x s) a w:=by
 have h1:RS B S ι (Ex.M3 (x.map (·.1)) s s.hp s) a w:=RS.M3 (x.map (·.1)) s h;obtain ⟨ι',h2⟩:=RS.U5 (l:=x) h1;have h3:=RS.M3 (x.map (·.1)) (Ex.U5 x (Ex.M3 (x.map (·.1)) s s.hp s)) (l:=(Ex.U5 x (Ex.M3 (x.map (·.1)) s s.hp s)).hp) h2;refine ⟨ι',h3.hs,h3.dfr,h3.sz,?_⟩;intro t v hv;simp only [Ex.canon] at hv;generalize hs:Ex.M3 (x.map (·.1)) (Ex.U5 x (Ex.M3 (x.map (·.1)) s s.hp s)) (Ex.U5 x (Ex.M3 (x.map (·.1)) s s.hp s)).hp (Ex.U5 x (Ex.M3 (x.map (·.1)) s s.hp s))=s1 at hv h3;have:v=s1.get t:=by
  generalize x.map (·.1)=ts at hv;clear h3 hs;revert hv
  induction ts with
  | nil=>intro hv; cases hv
  | cons t' l ih =>
   intro hv;simp only [List.map_cons,look] at hv;cases hb:Nat.beq t t' with
   | true =>
    rw [hb] at hv;have:=Nat.eq_of_beq_eq_true hb;subst this;cases hv; rfl
   | false=>rw [hb] at hv; exact ih hv
 rw [this];have:=h3.get t;simp only [Ex.canon,hs];exact this
theorem a5i (hE:C2 E B) (h:RS B S ι s a w):∀ {rs:List ResultVar} {l:AV},a6u E s rs=some l ->
  ∃ us,(rs.mapM λ r=>(match r with
   | .tmp t=>pure (a.tmps.getD t undef)
   | .cell c t=>do loadVar t (<- asAddr (a.tmps.getD c undef)):Sem Value)).run E.P w=.ok us w/\VX w.heap S ι s.hp l us
 | [],l,hl=>by
  simp only [a6u,Option.some.injEq] at hl;subst hl;exact ⟨[],rfl,rfl⟩
 | .tmp t::rs,l,hl=>by
  simp only [a6u] at hl;split at hl
  ·rename_i v hv
   cases hl;obtain ⟨us,h1,h2⟩:=a5i hE h hv;exact ⟨a.tmps.getD t undef::us,by simp only [List.mapM_cons,Sem.run_bind,Sem.run_pure,Result.andThen,h1],_,us,rfl,h.ev (.tmp t),h2⟩
  ·cases hl
 | .cell c T::rs,l,hl=>by
  simp only [a6u] at hl;split at hl
  ·rename_i i p hc
   have hv:=h.ev (.tmp c);rw [hc] at hv;obtain ⟨e,b,off,k1,k2,k3,k4⟩:=hv;have k4:a.tmps.getD c undef=.pointer (some ⟨b,off,none⟩):=by
    have k5:[a.tmps.getD c undef]=[.pointer (some ⟨b,off,none⟩)]:=k4;exact List.head_eq_of_cons_eq k5
   split at hl
   ·rename_i u y cM
    have hg:=G6 k1 cM;split at hl
    ·rename_i bE
     split at hl
     ·rename_i v hv
      obtain ⟨us,h1,h2⟩:=a5i hE h hv;obtain ⟨O2,m1,mn,m2,m3,m4,m5⟩:=N7 (L7 k3) (h.hs.ob i _ k1) h.hs.slt k2 hg k3;have qT:(do loadVar T (<- asAddr (a.tmps.getD c undef)):Sem Value).run E.P w=.ok (j9 u (d9 w.heap b off u.size)) w:=by
       rw [k4]; simp [asAddr,a4j (C1 hE bE) m2]
      refine ⟨j9 u (d9 w.heap b off u.size)::us,?_,?_⟩
      ·simp only [List.mapM_cons]
       rw [Sem.run_bind,qT];simp only [Result.andThen,Sem.run_bind,Sem.run_pure,h1]
      ·split at hl
       ·rename_i hs
        cases hl;have:=m2.J7 hs;subst this;exact ⟨_,us,rfl,⟨_,rfl,m2⟩,h2⟩
       ·cases hl
        obtain ⟨r3,r4⟩:=B0 k3;exact ⟨_,us,rfl,⟨_,u,y,_,k1,k2,hg,⟨b,off,r3,by rw [l4 (E9 r4)]⟩,rfl⟩,h2⟩
     ·cases hl
    ·cases hl
   ·cases hl
  ·cases hl
theorem b6d (hE:C2 E B) (h:RS B S ι s a w) {fn:Func} (dY:fn.results.toList=E.res) {l:AV} (hl:a6u E s E.res=some l) :
  ∃ us,(results fn a.tmps).run E.P w=.ok (a3t us) w/\VX w.heap S ι s.hp l us:=by
 obtain ⟨us,h1,h2⟩:=a5i hE h hl;refine ⟨us,?_,h2⟩;rw [<- dY] at h1;have:(fn.results.mapM λ r=>(match r with
   | .tmp t=>pure (a.tmps.getD t undef)
   | .cell c t=>do loadVar t (<- asAddr (a.tmps.getD c undef)):Sem Value)).run E.P w=.ok us.toArray w:=by
  rw [Array.mapM_eq_mapM_toList,Sem.run_map,h1]; rfl
 simp only [results];rw [Sem.run_bind];refine (congrArg (λ r:Result (Array Value)=>r.andThen λ vs w'=>Sem.run E.P (pure (if h:vs.size=1 then vs[0] else Value.tuple vs)) w') this).trans ?_;simp only [Result.andThen,Sem.run_pure]
 match us with
 | []=>rfl
 | [v]=>rfl
 | v::v2::l=>rfl
theorem b8H (h:HS B S ι s.hp w) {t:Ty} {used eC:List Nat} {av:AV} {x:t.den} {v:Value} (hr:b3M s t used av=some (x,eC)) (hv:VX w.heap S ι s.hp av [v]) :
  ∃ O cs,v=j9 t cs/\f8 w.heap S t O cs x/\O.Nodup/\(∀ b∈O,∃ i e,i∈eC/\i∉used/\pinned i=false/\look i s.hp=some e/\b∈l6 ι i e)/\∀ i∈used,i∈eC:=by
 unfold b3M at hr;split at hr
 ·rename_i i
  split at hr
  ·cases hr
  ·rename_i hc
   simp only [Bool.or_eq_false_iff] at hc;obtain ⟨dm,gy⟩:=hc;have jH:i∉used:=by intro hm; simp [hm] at dm
   obtain ⟨e,u,y,cs,h1,h2,h3,h4,h5⟩:=hv;have key:∀ {e0:g8},s.obj i=some e0->(hu:e0.ty=t)->∀ {x},x=G4 hu e0.x->∃ O cs,v=j9 t cs/\f8 w.heap S t O cs x/\O.Nodup/\(∀ b∈O,∃ j e,j∈i::used/\j∉used/\pinned j=false/\look j s.hp=some e/\b∈l6 ι j e)/\∀ j∈used,j∈i::used:=by
    rintro e0 aX rfl x rfl;obtain rfl:=a0o h1 aX;rw [x7] at h3; cases h3;obtain ⟨O2,m1,m2,m3⟩:=F1 h h1 h2 x7 h4;exact ⟨O2,cs,by simpa using h5,m3,m2,λ b hb=>⟨i,_,by simp,jH,gy,h1,F6 (m1 b hb)⟩,λ j hj=>by simp [hj]⟩
   split at hr
   ·rename_i u' x' aX
    split at hr
    ·rename_i hu; cases hr; exact key (e0:=.var u' x') aX hu rfl
    ·cases hr
   ·rename_i u' x' aX
    split at hr
    ·rename_i hu; cases hr; exact key (e0:=.own u' x') aX hu rfl
    ·cases hr
   ·cases hr
 ·rename_i i lo hi
  split at hr
  ·cases hr
  ·rename_i hc
   simp only [Bool.or_eq_false_iff] at hc;obtain ⟨dm,gy⟩:=hc;have jH:i∉used:=by intro hm; simp [hm] at dm
   split at hr
   ·rename_i u x' g cC
    split at hr
    ·rename_i hu
     cases hr;subst hu;obtain ⟨O,cs,k1,k2,k3,k4⟩:=a1g h cC hv;have ep:g=[i]:=by
      simp only [AV.Z0] at cC;split at cC<;>cases cC;rfl
     subst ep;refine ⟨O,cs,k1,k2,k3,λ b hb=>?_,λ j hj=>by simp [hj]⟩;obtain ⟨j,e,j1,j2,j3⟩:=k4 b hb;simp only [List.mem_cons,List.not_mem_nil,or_false] at j1;subst j1;exact ⟨j,e,by simp,jH,gy,j2,j3⟩
    ·cases hr
   ·cases hr
 ·rename_i i
  split at hr
  ·cases hr
  ·rename_i hc
   simp only [Bool.or_eq_false_iff] at hc;obtain ⟨dm,gy⟩:=hc;have jH:i∉used:=by intro hm; simp [hm] at dm
   split at hr
   ·rename_i u y aX
    split at hr
    ·rename_i hu
     subst hu;cases hr;obtain ⟨e,b,off,h1,h2,h3,h4⟩:=hv;obtain rfl:=a0o h1 aX;obtain ⟨⟨O,hO,hR⟩,hf,aI⟩:=h.ob i _ h1;have hl:(ι.root i).1=b/\(ι.root i).2=off:=by
      have:=(B0 h3).1;simp only [Place,x6,VR,Option.some.injEq,Prod.mk.injEq] at this;exact this
     obtain ⟨rfl,rfl⟩:=hl;refine ⟨(ι.root i).1::O,[.pointer (some ⟨(ι.root i).1,(ι.root i).2,none⟩)],by simpa [j9,Ty.agg] using h4,.inr ⟨_,_,_,O,rfl,rfl,hf.s9,hR,rfl,hf⟩,((hO.cons _).nodup_iff).2 aI,λ c hc=>⟨i,_,by simp,jH,gy,h1,?_⟩,λ j hj=>by simp [hj]⟩;simp only [l6];exact ((hO.cons _).mem_iff).1 hc
    ·cases hr
   ·cases hr
 ·rename_i f i
  split at hr
  ·cases hr
  ·rename_i hc
   simp only [Bool.or_eq_false_iff] at hc;obtain ⟨dm,gy⟩:=hc;have jH:i∉used:=by intro hm; simp [hm] at dm
   split at hr
   ·rename_i u y aX
    split at hr
    ·rename_i hu
     subst hu;cases hr;obtain ⟨us,fR,v0,us0,rfl,⟨e,b,off,h1,h2,h3,h4⟩,kx⟩:=hv;have kx:us0=[]:=kx;subst kx;have h4:v0=.pointer (some ⟨b,off,none⟩):=by simpa using h4
     subst h4;obtain rfl:=a0o h1 aX;obtain ⟨⟨O,hO,hR⟩,hf,aI⟩:=h.ob i _ h1;have hl:(ι.root i).1=b/\(ι.root i).2=off:=by
      have:=(B0 h3).1;simp only [Place,x6,VR,Option.some.injEq,Prod.mk.injEq] at this;exact this
     obtain ⟨rfl,rfl⟩:=hl;refine ⟨(ι.root i).1::O,[a4r (some f) ⟨(ι.root i).1,(ι.root i).2,none⟩],by simpa [j9,Ty.agg,a4r] using fR,.inr ⟨_,_,_,O,rfl,rfl,hf.s9,hR,rfl,hf⟩,((hO.cons _).nodup_iff).2 aI,λ c hc=>⟨i,_,by simp,jH,gy,h1,?_⟩,λ j hj=>by simp [hj]⟩;simp only [l6];exact ((hO.cons _).mem_iff).1 hc
    ·cases hr
   ·cases hr
 ·split at hr
  ·cases hr
   have hv:v=Value.pointer none:=by
    have:[v]=[Value.pointer none]:=hv;simpa using this
   subst hv;exact ⟨[],[.pointer none],by simp [j9,Ty.agg],.inl ⟨rfl,rfl,rfl⟩,List.nodup_nil,by simp,λ _ h=>h⟩
  ·cases hr
 ·split at hr
  ·rename_i x' hx
   cases hr;obtain ⟨cs,e,hR⟩:=b4W hx hv;exact ⟨[],cs,e,hR,List.nodup_nil,by simp,λ _ h=>h⟩
  ·cases hr
theorem a9A (h:HS B S ι s.hp w):∀ {rs:List Ty} {used:List Nat} {l:AV} {y:DL rs} {us:List Value},b3N s rs used l=some y->VX w.heap S ι s.hp l us ->
  ∃ O,J1 w.heap S rs O us y/\O.Nodup/\∀ b∈O,∃ i e,i∉used/\pinned i=false/\look i s.hp=some e/\b∈l6 ι i e
 | [],used,l,y,us,hr,hv=>by
  cases l<;>simp only [b3N] at hr<;>first|cases hr|skip
  exact ⟨[],⟨rfl,hv⟩,List.nodup_nil,by simp⟩
 | t::ts,used,l,y,us,hr,hv=>by
  cases l<;>simp only [b3N] at hr<;>first|cases hr|skip
  rename_i av bv;obtain ⟨v,us',rfl,ha,hb⟩:=hv;split at hr
  ·rename_i x eC h1
   split at hr
   ·rename_i y' h2
    cases hr;obtain ⟨O1,cs,k1,k2,k3,k4,k5⟩:=b8H h h1 ha;obtain ⟨O2,m1,m2,m3⟩:=a9A h h2 hb;refine ⟨O1++O2,⟨v,us',O1,O2,cs,rfl,rfl,k1,k2,m1⟩,List.nodup_append.2 ⟨k3,m2,?_⟩,?_⟩
    ·rintro c hc d hd rfl
     obtain ⟨i,e,i1,_,_,i2,i3⟩:=k4 c hc;obtain ⟨j,e',j1,_,j2,j3⟩:=m3 c hd;exact h.dj i j e e' i2 j2 (by rintro rfl; exact j1 i1) c i3 j3
    ·intro c hc
     rcases List.mem_append.1 hc with hc|hc
     ·obtain ⟨i,e,_,i1,i4,i2,i3⟩:=k4 c hc
      exact ⟨i,e,i1,i4,i2,i3⟩
     ·obtain ⟨j,e',j1,j4,j2,j3⟩:=m3 c hc
      exact ⟨j,e',λ hj=>j1 (k5 j hj),j4,j2,j3⟩
   ·cases hr
  ·cases hr
def K0:(ks:List PK)->List Value->Nat->List (Nat×(Nat×Nat)×List Value)
 | .rw _::ks,v::vs,i=>(match v with
  | .pointer (some a)=>(2000000+i,(a.block,a.off),[])
  | _=>(2000000+i,(0,0),[]))::K0 ks vs (i+1)
 | .mu _::ks,v::vs,i=>(2000000+i,(0,0),[v])::K0 ks vs (i+1)
 | _::ks,_::vs,i=>K0 ks vs (i+1)
 | _,_,_=>[]
theorem a24 (h:HS B S ι s.hp w) {H0:Array Go.Obj} {S0:Nat->Prop}:∀ {ks:List PK} {vs:List Value} {x:DK ks} {L0:List Nat} {j:Nat} {z:DL (F4 ks)},R2 H0 S0 ks vs x L0->(∀ q∈K0 ks vs j,q∈B.pins)->a0J s ks j=some z ->
  ∃ Lo,F0 w.heap S ks vs z Lo/\Lo.Nodup/\∀ b∈Lo,∃ i e,2000000+j<=i/\look i s.hp=some e/\b∈l6 ι i e
 | [],vs,x,L0,j,z,hK,_,hz=>⟨[],⟨hK.1,rfl⟩,List.nodup_nil,by simp⟩
 | k::ks,vs,x,L0,j,z,⟨v,us,L1,L2,e1,e2,hk,hK⟩,hp,hz=>by
  subst e1 e2;have plain:∀ {z':DL (F4 ks)},(∀ q∈K0 ks us (j+1),q∈B.pins)->a0J s ks (j+1)=some z'->∃ Lo,F0 w.heap S ks us z' Lo/\Lo.Nodup/\∀ b∈Lo,∃ i e,2000000+j<=i/\look i s.hp=some e/\b∈l6 ι i e:=by
   intro z' hp hz;obtain ⟨Lo,k1,k2,k3⟩:=a24 h hK hp hz;exact ⟨Lo,k1,k2,λ b hb=>by obtain ⟨i,e,i1,i2,i3⟩:=k3 b hb; exact ⟨i,e,by omega,i2,i3⟩⟩
  have join:∀ {L1 Lo:List Nat} {e0:g8},look (2000000+j) s.hp=some e0->L1.Nodup->(∀ b∈L1,b∈l6 ι (2000000+j) e0)->Lo.Nodup->(∀ b∈Lo,∃ i e,2000000+(j+1)<=i/\look i s.hp=some e/\b∈l6 ι i e) ->
    (L1++Lo).Nodup/\∀ b∈L1++Lo,∃ i e,2000000+j<=i/\look i s.hp=some e/\b∈l6 ι i e:=by
   intro L1 Lo e0 h1 n1 m1 n2 m2;refine ⟨List.nodup_append.2 ⟨n1,n2,?_⟩,?_⟩
   ·rintro c hc d hd rfl
    obtain ⟨i,e,i1,i2,i3⟩:=m2 c hd;exact h.dj (2000000+j) i e0 e h1 i2 (by omega) c (m1 c hc) i3
   ·intro b hb
    rcases List.mem_append.1 hb with hb|hb
    ·exact ⟨_,e0,Nat.le_refl _,h1,m1 b hb⟩
    ·obtain ⟨i,e,i1,i2,i3⟩:=m2 b hb; exact ⟨i,e,by omega,i2,i3⟩
  cases k with
  | v t=>obtain ⟨Lo,k1,k2⟩:=plain hp hz; exact ⟨Lo,⟨v,us,rfl,k1⟩,k2⟩
  | rd t=>obtain ⟨Lo,k1,k2⟩:=plain hp hz; exact ⟨Lo,⟨v,us,rfl,k1⟩,k2⟩
  | B8 f ts=>obtain ⟨Lo,k1,k2⟩:=plain hp hz; exact ⟨Lo,⟨v,us,rfl,k1⟩,k2⟩
  | T3=>obtain ⟨Lo,k1,k2⟩:=plain hp hz; exact ⟨Lo,⟨v,us,rfl,k1⟩,k2⟩
  | Y6 f n=>obtain ⟨Lo,k1,k2⟩:=plain hp hz; exact ⟨Lo,⟨v,us,rfl,k1⟩,k2⟩
  | el q=>obtain ⟨Lo,k1,k2⟩:=plain hp hz; exact ⟨Lo,⟨v,us,rfl,k1⟩,k2⟩
  | own t=>obtain ⟨Lo,k1,k2⟩:=plain hp hz; exact ⟨Lo,⟨v,us,rfl,k1⟩,k2⟩
  | rw t =>
   obtain ⟨b0,off0,O0,rfl,_,_,_⟩:=hk;simp only [a0J] at hz;split at hz
   ·rename_i u x' y' aX gC
    split at hz
    ·rename_i hu
     cases hz;subst hu;have aX:look (2000000+j) s.hp=some (.var u x'):=aX;obtain ⟨Lo,k1,k2,k3⟩:=a24 h hK (λ q hq=>hp q (by simp only [K0]; exact List.mem_cons_of_mem _ hq)) gC;obtain ⟨_,_,p3,p4⟩:=h.pin (2000000+j,(b0,off0),[]) (hp _ (by simp [K0]));have p3:ι.root (2000000+j)=(b0,off0):=p3;obtain ⟨⟨O,hO,hR⟩,dw,aI⟩:=(h.ob _ _ aX:OB w.heap S ι (2000000+j) (.var u x'));rw [p3] at hR dw aI;have dN:(b0::O).Nodup:=List.nodup_cons.2 ⟨λ hb=>(List.nodup_cons.1 aI).1 (hO.mem_iff.1 hb),hO.nodup_iff.2 (List.nodup_cons.1 aI).2⟩;obtain ⟨j1,j2⟩:=join aX dN (λ b hb=>by
      rcases List.mem_cons.1 hb with rfl|hb
      ·simp [l6,p3]
      ·simp [l6,hO.mem_iff.1 hb]) k2 k3
     exact ⟨(b0::O)++Lo,⟨b0,off0,O,us,Lo,rfl,hR,dw,rfl,k1⟩,j1,j2⟩
    ·cases hz
   ·cases hz
  | mu t =>
   obtain ⟨cs0,rfl,eT⟩:=hk;simp only [a0J] at hz;split at hz
   ·rename_i u x' y' aX gC
    split at hz
    ·rename_i hu
     cases hz;subst hu;have aX:look (2000000+j) s.hp=some (.own (.d0 true t) x'):=aX;obtain ⟨Lo,k1,k2,k3⟩:=a24 h hK (λ q hq=>hp q (by simp only [K0]; exact List.mem_cons_of_mem _ hq)) gC;obtain ⟨_,_,p3,p4⟩:=h.pin (2000000+j,(0,0),[j9 (.d0 true t) cs0]) (hp _ (by simp [K0]));have p4:ι.cells (2000000+j)=[j9 (.d0 true t) cs0]:=p4;obtain ⟨⟨O,hO,hR⟩,aI⟩:=(h.ob _ _ aX:OB w.heap S ι (2000000+j) (.own (.d0 true t) x'));rw [p4] at hR;obtain ⟨j1,j2⟩:=join aX (hO.nodup_iff.2 aI) (λ b hb=>hO.mem_iff.1 hb) k2 k3;exact ⟨O++Lo,⟨[j9 (.d0 true t) cs0],O,us,Lo,rfl,rfl,hR,rfl,k1⟩,j1,j2⟩
    ·cases hz
   ·cases hz
end
end Go.Ex
