import Derived.Test.YtijlnmgondibnaaGreatDoorExK2
import Derived.Laws.IdiomCopy
import Derived.Laws.Strings
import Derived.Laws.CopyRow
set_option linter.unusedVariables false
set_option linter.unusedSimpArgs false
set_option linter.unusedSectionVars false
namespace Go.Ex
section
variable (H:Array Go.Obj) (S:Nat->Prop)
def Ha (t:Ty) (v:Value) (x:t.den):Prop :=
 ∃ b off,v=.pointer (some ⟨b,off,none⟩)/\S b/\off+t.size<=(w6 H b).length/\g9 H S t [] (e8 H b off t.size) x
def RdL:(ts:List Ty)->List Value->DL ts->Prop
 | [],vs,_=>vs=[]
 | t::ts,vs,x=>∃ v us,vs=v::us/\Ha H S t v x.1/\RdL ts us x.2
def Mq:(k:PK)->Value->k.den->List Nat->Prop
 | .v t,v,x,L=>L=[]/\∃ cs,v=l5 t cs/\g9 H S t [] cs x
 | .rd t,v,x,L=>L=[]/\Ha H S t v x
 | .C7 f ts,v,x,L=>L=[]/\∃ us,v=.func (.func f) #[] us.toArray/\RdL H S ts us x
 | .own t,v,x,L=>∃ cs,v=l5 t cs/\g9 H S t L cs x
 | .rw t,v,x,L=>∃ b off O,v=.pointer (some ⟨b,off,none⟩)/\g9 H S t O (e8 H b off t.size) x/\P5 H b (off+t.size)/\L=b::O
 | .mu t,v,x,L=>∃ cs,v=l5 (.d0 true t) cs/\g9 H S (.d0 true t) L cs x
 | .W6,v,_,L=>L=[]/\v=.slice none 0 0
 | .rcs _ _,_,_,L=>L=[]
 | .el _,_,_,L=>L=[]
def V3:(ks:List PK)->List Value->DK ks->List Nat->Prop
 | [],vs,_,L=>vs=[]/\L=[]
 | k::ks,vs,x,L=>∃ v us L1 L2,vs=v::us/\L=L1++L2/\Mq H S k v x.1 L1/\V3 ks us x.2 L2
def M3:(ts:List Ty)->List Nat->List Value->DL ts->Prop
 | [],O,vs,_=>O=[]/\vs=[]
 | t::ts,O,vs,x=>∃ v us O1 O2 cs,vs=v::us/\O=O1++O2/\v=l5 t cs/\g9 H S t O1 cs x.1/\M3 ts O2 us x.2
def H4:(ks:List PK)->List Value->DL (E8 ks)->List Nat->Prop
 | [],vs,_,L=>vs=[]/\L=[]
 | .rw t::ks,vs,y,L=>∃ b off O us L',vs=.pointer (some ⟨b,off,none⟩)::us/\g9 H S t O (e8 H b off t.size) y.1/\P5 H b (off+t.size)/\L=(b::O)++L'/\H4 ks us y.2 L'
 | .mu t::ks,vs,y,L=>∃ cs O us L',vs=l5 (.d0 true t) cs::us/\cs.length=1/\g9 H S (.d0 true t) O cs y.1/\L=O++L'/\H4 ks us y.2 L'
 | .v _::ks,vs,y,L=>∃ v us,vs=v::us/\H4 ks us y L
 | .rd _::ks,vs,y,L=>∃ v us,vs=v::us/\H4 ks us y L
 | .C7 _ _::ks,vs,y,L=>∃ v us,vs=v::us/\H4 ks us y L
 | .own _::ks,vs,y,L=>∃ v us,vs=v::us/\H4 ks us y L
 | .W6::ks,vs,y,L=>∃ v us,vs=v::us/\H4 ks us y L
 | .rcs _ _::ks,vs,y,L=>∃ v us,vs=v::us/\H4 ks us y L
 | .el _::ks,vs,y,L=>∃ v us,vs=v::us/\H4 ks us y L
def vA:(ks:List PK)->Option (Sigma Ty.den)->List Value->List Value->DK ks->Prop
 | [],_,_,_,_=>True
 | .rcs f n::ks,_,pre,vs,x=>(∃ us b off,vs=Value.pointer (some ⟨b,off,none⟩)::us/\S b/\off+1<=(w6 H b).length/\e8 H b off 1=[.func (.func f) #[] ((pre.take n).reverse++[Value.pointer (some ⟨b,off,none⟩)]).toArray]/\n<=pre.length) /\
   vA ks none (vs.take 1++pre) (vs.drop 1) x.2
 | .el q::ks,c,pre,vs,x=>(∃ t y b0 off0 pre' b off us,c=some ⟨t,y⟩/\pre=Value.pointer (some ⟨b0,off0,none⟩)::pre'/\vs=Value.pointer (some ⟨b,off,none⟩)::us/\x8 t y (q++[.idx x.1])/\y8 H t (q++[.idx x.1]) b0 off0=some (b,off)/\b<H.size) /\
   vA ks none (vs.take 1++pre) (vs.drop 1) x.2
 | .rw t::ks,_,pre,vs,x=>vA ks (some ⟨t,x.1⟩) (vs.take 1++pre) (vs.drop 1) x.2
 | .v _::ks,_,pre,vs,x=>vA ks none (vs.take 1++pre) (vs.drop 1) x.2
 | .rd _::ks,_,pre,vs,x=>vA ks none (vs.take 1++pre) (vs.drop 1) x.2
 | .C7 _ _::ks,_,pre,vs,x=>vA ks none (vs.take 1++pre) (vs.drop 1) x.2
 | .own _::ks,_,pre,vs,x=>vA ks none (vs.take 1++pre) (vs.drop 1) x.2
 | .mu _::ks,_,pre,vs,x=>vA ks none (vs.take 1++pre) (vs.drop 1) x.2
 | .W6::ks,_,pre,vs,x=>vA ks none (vs.take 1++pre) (vs.drop 1) x.2
end
def PK.lnk:PK->Bool
 | .rcs _ _|.el _=>true
 | _=>false
theorem CI {H:Array Go.Obj} {S:Nat->Prop}:∀ {ks:List PK} {c:Option (Sigma Ty.den)} {pre vs:List Value} {x:DK ks},ks.any PK.lnk=false->vA H S ks c pre vs x
 | [],_,_,_,_,_=>trivial
 | k::ks,c,pre,vs,x,h=>by
  rw [aFl,aBu] at h;cases k<;>first|(exfalso; simp [PK.lnk] at h; done)|exact CI (ks:=ks) h.2
def wR:List Value->Value
 | [v]=>v
 | us=>.tuple us.toArray
structure D0 (L:List Nat) (w w':World):Prop where
 os:w'.os=w.os
 tape:W8 w w'
 out:w'.output=w.output
 size:w.heap.size<=w'.heap.size
 frame:∀ c,c<w.heap.size->c∉L->w'.heap[c]?=w.heap[c]?
def xK (w:World) (S:Nat->Prop) (rs:List Ty) (ps:List PK) (vs:List Value) (L:List Nat) (y:DL rs) (z:DL (E8 ps)) (e:Ending) (w':World):Prop :=
 ∃ us O Lo S',e=.returned (wR us)/\D0 L w w'/\(∀ b,S b->S' b)/\(∀ b,S' b->S b\/((w.heap.size<=b\/b∈L)/\b<w'.heap.size)) /\
  M3 w'.heap S' rs O us y/\H4 w'.heap S' ps vs z Lo/\(O++Lo).Nodup/\∀ b∈O++Lo,¬ S' b/\(w.heap.size<=b\/b∈L)/\b<w'.heap.size
def Ie:List (String×(Array Value->Prop)) :=
 [("internal/strconv.uint64pow10",λ cs=>cs=(((List.range 20).map λ i=>((10^i:Nat):Int)).map λ z=>Value.int .u64 z).toArray),
 ("internal/bytealg.MaxLen",λ cs=>∃ m,cs[0]?=some (.int .i64 m))]
def vv (P:Program) (w:World) (S:Nat->Prop):Prop:=∀ x∈Ie,∀ g,P.globalNamed x.1=some g->S g/\∃ cs,w.var? P x.1=some cs/\x.2 cs
theorem vv.mono {P:Program} {w w':World} {S S':Nat->Prop} (h:vv P w S) (hH:∀ b,S b->w'.heap[b]?=w.heap[b]?) (hS:∀ b,S b->S' b):vv P w' S':=by
 intro x hx g hg;obtain ⟨h1,cs,h2,h3⟩:=h x hx g hg;refine ⟨hS _ h1,cs,?_,h3⟩;unfold World.var? at h2 ⊢;rw [hg,aGi] at h2 ⊢;rw [hH _ h1];exact h2
theorem vv.sub {P:Program} {w:World} {S S':Nat->Prop} (h:vv P w S) (hS:∀ b,S b->S' b):vv P w S':=h.mono (λ _ _=>rfl) hS
theorem vv.none {P:Program} {w:World} {S:Nat->Prop} (h:(Ie.all λ x=>(P.globalNamed x.1).isNone)=true):vv P w S:=by
 intro x hx g hg;have:=aBh.1 h x hx;rw [hg] at this;cases this
def GlB (P:Program) (B:E6):Prop:=vv P B.w0 B.S0/\∀ b,B.S0 b->b<B.w0.heap.size/\¬ B.M b
theorem GlB.at_ {P:Program} {B:E6} {S:Nat->Prop} {ι:Ix} {hp:List (Nat×i6)} {w:World} (h:GlB P B) (hs:HS B S ι hp w):vv P w S :=
 h.1.mono (λ b hb=>hs.frame b (h.2 b hb).1 (h.2 b hb).2) hs.s0
structure p7.Valid (P:Program) (f:FuncId) (c:p7):Prop where
 ent:∃ fn,P.funcs[f]?=some fn/\(fn.name == "runtime.NumGoroutine")=false/\fn.body.isNone=false
 run:∀ (w:World) (S:Nat->Prop) (vs:List Value) (x:DK c.ps) (L:List Nat),(∀ b,S b->b<w.heap.size)->vv P w S->c.pre x->V3 w.heap S c.ps vs x L->vA w.heap S c.ps none [] vs x->L.Nodup->(∀ b∈L,¬ S b/\b<w.heap.size) ->
  Calls P f vs.toArray w (xK w S c.rs c.ps vs L (c.fn x) (c.out x))
 fresh:c.new=true->∀ (w:World) (S:Nat->Prop) (vs:List Value) (x:DK c.ps) (L:List Nat),(∀ b,S b->b<w.heap.size)->vv P w S->c.pre x->V3 w.heap S c.ps vs x L->vA w.heap S c.ps none [] vs x->L.Nodup->(∀ b∈L,¬ S b/\b<w.heap.size) ->
  Calls P f vs.toArray w (λ e w'=>∃ us O Lo S',e=.returned (wR us)/\D0 L w w'/\(∀ b,S b->S' b)/\(∀ b,S' b->S b\/((w.heap.size<=b\/b∈L)/\b<w'.heap.size)) /\
   M3 w'.heap S' c.rs O us (c.fn x)/\H4 w'.heap S' c.ps vs (c.out x) Lo/\(O++Lo).Nodup/\(∀ b∈O++Lo,¬ S' b/\(w.heap.size<=b\/b∈L)/\b<w'.heap.size) /\
   M3 w'.heap (λ b=>S' b/\w.heap.size<=b) c.rs O us (c.fn x))
def Vb (p:List Step):(ps:List PK)->DK ps->Prop
 | .rw t::_,x=>x8 t x.1 p
 | _,_=>True
def UZ (p:List Step) (H H':Array Go.Obj):(ps:List PK)->List Value->DL (E8 ps)->Prop
 | .rw t::_,vs,z=>(match vs with
  | .pointer (some ⟨b,off,none⟩)::_=>x8 t z.1 p/\y8 H' t p b off=y8 H t p b off
  | _=>True)
 | _,_,_=>True
def p7.Kept (P:Program) (f:FuncId) (c:p7) (pat:List (Option Nat)):Prop :=
 ∀ (w:World) (S:Nat->Prop) (vs:List Value) (x:DK c.ps) (L:List Nat),(∀ b,S b->b<w.heap.size)->vv P w S->c.pre x->V3 w.heap S c.ps vs x L->vA w.heap S c.ps none [] vs x->L.Nodup->(∀ b∈L,¬ S b/\b<w.heap.size) ->
  ∀ p,pm pat p=true->Vb p c.ps x->Calls P f vs.toArray w (λ e w'=>xK w S c.rs c.ps vs L (c.fn x) (c.out x) e w'/\UZ p w.heap w'.heap c.ps vs (c.out x))
structure w7 (E:Env):Prop where
 tt:∀ T i,look T E.tt=some i->xC E.P (T,i)=true
 C9:∀ f c,look f E.C9=some c->c.Valid E.P f
 kept:∀ f c pat,look f E.C9=some c->look f E.keeps=some pat->c.Kept E.P f pat
structure D3 (E:Env) (B:E6):Prop extends w7 E where
 gb:GlB E.P B
section
variable {E:Env} {B:E6} {S:Nat->Prop} {ι:Ix} {s:St} {a:Act} {w:World}
theorem RS.get (h:RS B S ι s a w) (t:Nat):VX w.heap S ι s.hp (s.get t) [a.tmps.getD t (B.gd t)]:=by
 unfold St.get;cases hl:look t s.fr with
 | none=>exact ⟨_,rfl⟩
 | some v=>exact h.fr t v hl
theorem VX.const (v:Value) {H:Array Go.Obj} {hp:List (Nat×i6)}:VX H S ι hp (ofConst v) [v]:=by
 unfold ofConst
 split
 ·rename_i k n
  split
  ·rename_i h; exact ⟨[.int k n],rfl,rfl,rfl,h⟩
  ·rfl
 ·rename_i b; exact ⟨[.bool b],rfl,rfl,rfl⟩
 ·rename_i s
  split
  ·rename_i h
   refine ⟨[.string s],rfl,rfl,?_,by simpa using h⟩;simp
  ·rfl
 ·rfl
theorem RS.ev (h:RS B S ι s a w) (x:Operand):VX w.heap S ι s.hp (s.ev x) [a.eval x]:=by
 cases x with
 | tmp t =>
  show VX w.heap S ι s.hp (match Nat.beq t J4 with|true=>.any|false=>s.get t) [a.tmps.getD t undef];have:=h.get t;unfold E6.gd at this;cases hb:Nat.beq t J4 with
  | true=>exact ⟨_,rfl⟩
  | false=>rw [hb] at this; exact this
 | const v=>exact VX.const v
 | global g=>exact ⟨_,rfl⟩
 | func f=>exact ⟨[],by simp [Act.eval],rfl⟩
theorem RS.K3 (h:RS B S ι s a w):∀ l:List Operand,VX w.heap S ι s.hp (s.K3 l) (l.map a.eval)
 | []=>rfl
 | x::l=>⟨_,_,rfl,h.ev x,h.K3 l⟩
theorem RS.put (h:RS B S ι s a w) {d:Option Nat} (hd:H7 B.n d=true) {v:AV} {val:Value} (hv:VX w.heap S ι s.hp v [val]):RS B S ι (s.put d v) (a.put d val) w:=by
 cases d with
 | none=>exact h
 | some d =>
  have bf:d<B.n:=by simpa [H7,aDf] using hd
  refine ⟨h.hs,h.dfr,by simpa [Act.put] using h.sz,?_⟩;intro t v' ht;simp only [St.put,o7] at ht;simp only [Act.put];by_cases e:t=d
  ·subst e
   rw [if_pos rfl] at ht; cases ht;have:t<a.tmps.size:=by rw [h.sz]; exact bf
   show VX w.heap S ι s.hp v [_];simpa [Array.getD,this,aDc] using hv
  ·rw [if_neg e] at ht
   have:=h.fr t v' ht;show VX w.heap S ι s.hp v' [_];simpa [aCi,aEn (Ne.symm e)] using this
def y7 (P:Program) (B:E6) (o:Oper) (a:Act) (w:World) (v:AV) (s':St):Prop :=
 ∀ (next:Act->World->Prop) (Q:Exit->Act->World->Prop),
  (∀ S' ι' w' val,RS B S' ι' s' a w'->VX w'.heap S' ι' s'.hp v [val]->next (a.put o.dst val) w')->o.wp P a w next Q
theorem y7.value {P:Program} {o:Oper} {v:AV} {val:Value} (hr:(execOp a.eval o).run P w=.ok (.value val) w) (h:RS B S ι s a w) (hv:VX w.heap S ι s.hp v [val]) :
  y7 P B o a w v s:=by
 intro next Q hn
 unfold Oper.wp;rw [hr];exact hn S ι w val h hv
theorem D6 (hE:D3 E B) {T:TypeId} {u:Ty} (h:I6 E T u=true):o8 E.P 100 T u=true:=by
 unfold I6 at h;split at h
 ·rename_i i hi
  have h1:=hE.tt T i hi;simp only [xC,aAa] at h1;exact YV (Er (of_decide_eq_true h).symm (YU h1.1))
 ·cases h
theorem r7 (hE:D3 E B) {T:TypeId} {i:TI} (h:look T E.tt=some i):o8 E.P 100 T i.ty=true:=by
 have h1:=hE.tt T i h;simp only [xC,aAa] at h1;exact h1.1
theorem N3 {b off n:Nat} {j:Nat} {v:Value} (h:(e8 w.heap b off n)[j]?=some v):w.cell? ⟨b,off+j,none⟩=some v:=by
 simp only [e8,aBn,aBi] at h;split at h
 ·unfold w6 at h
  split at h
  ·rename_i arr T fz e
   simp [World.cell?,e] ;simpa using h
  ·simp at h
 ·cases h
theorem Addr.I1 (b off n:Nat):(⟨b,off,none⟩:Addr).add n=⟨b,off+n,none⟩:=by
 unfold Addr.add
 split
 ·subst_vars; simp
 ·rfl
theorem CT {P:Program} {T:TypeId} {t:Ty} {n:Nat} (ht:o8 P n T t=true) {b off:Nat} {O:List Nat} {x:t.den} (hR:g9 w.heap S t O (e8 w.heap b off t.size) x) :
  (loadVar T ⟨b,off,none⟩).run P w=.ok (l5 t (e8 w.heap b off t.size)) w:=by
 have hl:=hR.length;simp only [loadVar,Sem.run_bind,KL ht,Result.andThen];cases hg:t.agg with
 | true =>
  simp only [if_true,Sem.run_bind,run_sizeOf ht,Result.andThen];have:=run_loadCells_list (P:=P) w ⟨b,off,none⟩ (e8 w.heap b off t.size) (λ j v h=>by rw [Addr.I1]; exact N3 h);rw [hl] at this;rw [this];simp [l5,hg]
 | false =>
  have h1:t.size=1:=by cases t<;>simp_all [Ty.agg,Ty.size]
  rw [h1] at hl ⊢
  match hc:e8 w.heap b off 1,hl with
  | [c],_ =>
   have:=N3 (w:=w) (b:=b) (off:=off) (n:=1) (j:=0) (v:=c) (by rw [hc]; rfl);simp only [aDt] at this;simp [run_load,this,l5,hg]
theorem P0 {P:Program} {o:Oper} {sem:Sem Value} {val:Value} {w':World} (h:execOp a.eval o=(do pure (.value (<- sem)))) (hr:sem.run P w=.ok val w') :
  (execOp a.eval o).run P w=.ok (.value val) w':=by
 rw [h]; simp [hr]
theorem I3 {i:Nat} {e:i6} (h1:look i s.hp=some e) {p:List Step} {r:Sigma Ty.den} (h:s.part i p=some r):j9 e.ty e.x p=some r:=by
 unfold St.part St.obj at h;rw [h1] at h;exact h
theorem ON (hE:D3 E B) {T:TypeId} (ht:MO (look T E.tt)=true) {l:AV} {val:Value} (hv:VX w.heap S ι s.hp (.bx l) [val]) :
  ∃ u,(Instr.loadAt T val).run E.P w=.ok u w/\VX w.heap S ι s.hp l [u]:=by
 obtain ⟨b,off,u,e,hb,h1,h2,h3⟩:=hv;refine ⟨u,?_,h3⟩;obtain rfl:val=.pointer (some ⟨b,off,none⟩):=by simpa using e
 obtain ⟨t,sn,dp⟩:∃ t,o8 E.P 100 T t=true/\t.agg=false:=by
  cases hl:look T E.tt with
  | none=>rw [hl] at ht; cases ht
  | some i =>
   rw [hl] at ht;refine ⟨i.ty,r7 hE hl,?_⟩;obtain ⟨ty,n⟩:=i;cases ty<;>first|rfl|cases ht
 have:=N3 (w:=w) (b:=b) (off:=off) (n:=1) (j:=0) (v:=u) (by rw [h2]; rfl);simp only [aDt] at this;simp [Instr.loadAt,Instr.sureAddr,loadVar,KL sn,dp,run_load,this]
theorem b8u (hE:D3 E B) (h:RS B S ι s a w) {o:Oper} {T:TypeId} {x:Operand} (ho:o.op=.load T x) {v:AV} {s':St} (hl:Z0 E T (s.ev x) s=.ok v s') :
  y7 E.P B o a w v s':=by
 have he:execOp a.eval o=(do pure (.value (<- Instr.loadAt T (a.eval x)))):=by simp [execOp,ho]
 have hv:=h.ev x;unfold Z0 at hl;split at hl
 ·rename_i t y hx
  rw [hx] at hv;obtain ⟨b,off,e,hb,hr,hR⟩:=hv;split at hl
  ·rename_i hc
   cases hl;have e:a.eval x=.pointer (some ⟨b,off,none⟩):=by simpa using e
   refine y7.value (P0 he (w':=w) (val:=l5 t (e8 w.heap b off t.size)) ?_) h ⟨_,rfl,hR⟩;rw [e];simp [Instr.loadAt,Instr.sureAddr,CT (D6 hE hc) hR]
  ·cases hl
 ·rename_i l hx
  rw [hx] at hv;split at hl
  ·rename_i ht
   cases hl;obtain ⟨val,k1,k2⟩:=ON (hE:=hE) ht hv;exact y7.value (P0 he k1) h k2
  ·cases hl
 ·rename_i i p hx
  rw [hx] at hv;obtain ⟨e,b,off,h1,h2,h3,h4⟩:=hv;have h4:a.eval x=.pointer (some ⟨b,off,none⟩):=by simpa using h4
  split at hl
  ·rename_i u y cQ
   have hg:=I3 h1 cQ;obtain ⟨O2,k1,k2,k3,k4,k5⟩:=N5 (K9 h3) (h.hs.ob i e h1) h.hs.slt h2 hg h3;split at hl
   ·rename_i hc
    have hr:(Instr.loadAt T (a.eval x)).run E.P w=.ok (l5 u (e8 w.heap b off u.size)) w:=by
     rw [h4]; simp [Instr.loadAt,Instr.sureAddr,CT (D6 hE hc) k3]
    split at hl
    ·rename_i hs
     cases hl;have:=k3.O7 hs;subst this;exact y7.value (P0 he hr) h ⟨_,rfl,k3⟩
    ·cases hl
     have hp:=C8 h3;exact y7.value (P0 he hr) h ⟨e,u,y,_,h1,h2,hg,⟨b,off,hp.1,(l6 (G4 hp.2) _ _).symm⟩,rfl⟩
   ·cases hl
  ·cases hl
 ·cases hl
theorem U7 (k:IntKind) (n:Int):r9 k (k.wrap n):=by
 unfold r9 IntKind.wrap IntKind.min IntKind.max;have h1:(0:Int)<2^k.bits:=by cases k<;>decide
 have h2:=aEz n (b:=2^k.bits) (by omega);have h3:=Int.emod_lt_of_pos n h1;cases k<;>simp [IntKind.signed,IntKind.bits] at*<;> (try split)<;>omega
theorem U2 {k:IntKind} {n:Int} (h:r9 k n):k.wrap n=n:=by
 unfold r9 IntKind.min IntKind.max at h;unfold IntKind.wrap;cases k<;>simp [IntKind.signed,IntKind.bits] at*<;> (try split)<;>omega
theorem VX.int {H:Array Go.Obj} {hp:List (Nat×i6)} {k:IntKind} {n:Int} (h:r9 k n):VX H S ι hp (.val (.int k) n) [.int k n]:=⟨[.int k n],rfl,rfl,rfl,h⟩
theorem VX.bool {H:Array Go.Obj} {hp:List (Nat×i6)} {b:Bool}:VX H S ι hp (.val .bool b) [.bool b]:=⟨[.bool b],rfl,rfl,rfl⟩
theorem VX.str {H:Array Go.Obj} {hp:List (Nat×i6)} {l:yY} (h:l.length<=maxLen):VX H S ι hp (.val .str l) [.string ⟨l.toArray⟩]:=⟨[.string ⟨l.toArray⟩],rfl,rfl,rfl,h⟩
theorem VX.I4 {H:Array Go.Obj} {hp:List (Nat×i6)} {k:IntKind} {n:Int} {v:Value} (h:VX H S ι hp (.val (.int k) n) [v]):v=.int k n/\r9 k n:=by
 obtain ⟨cs,e,_,rfl,h2⟩:=h;exact ⟨by simpa [l5,Ty.agg] using e,h2⟩
theorem VX.Ay {H:Array Go.Obj} {hp:List (Nat×i6)} {b:Bool} {v:Value} (h:VX H S ι hp (.val .bool b) [v]):v=.bool b:=by
 obtain ⟨cs,e,_,rfl⟩:=h;simpa [l5,Ty.agg] using e
theorem VX.zq {H:Array Go.Obj} {hp:List (Nat×i6)} {l:yY} {v:Value} (h:VX H S ι hp (.val .str l) [v]):v=.string ⟨l.toArray⟩/\l.length<=maxLen:=by
 obtain ⟨cs,e,_,rfl,h2⟩:=h;exact ⟨by simpa [l5,Ty.agg] using e,h2⟩
def F1 (P:Program) (B:E6) (o:Oper) (a:Act) (w:World):OR->Prop
 | .fail _=>True
 | .ok v s=>y7 P B o a w v s
 | .F8 p v s=>p->y7 P B o a w v s
theorem F1.pure {P:Program} {o:Oper} {sem:Sem Value} (he:execOp a.eval o=(do pure (.value (<- sem)))) (h:RS B S ι s a w) {v:AV} {val:Value} (hr:sem.run P w=.ok val w)
  (hv:VX w.heap S ι s.hp v [val]):y7 P B o a w v s:=y7.value (P0 he hr) h hv
theorem FH {P:Program} {o:Oper} {k:IntKind} {r:Int} (he:(execOp a.eval o).run P w=.ok (.value (.int k (k.wrap r))) w) (h:RS B S ι s a w):F1 P B o a w (arith k r s):=by
 unfold arith
 split
 ·intro hk
  exact y7.value (by rw [he,U2 hk]) h (VX.int hk)
 ·exact y7.value he h (VX.int (U7 _ _))
theorem U3 {P:Program} {o:Oper} {op:BinOp} {T T':TypeId} {x y:Operand} (ho:o.op=.binOp op T x y T') (hg:(eqGuard op T x y (a.eval x) (a.eval y)).run P w=.ok () w) {r:Result Value}
  (hr:(binOp op T (a.eval x) (a.eval y)).run P w=r):(execOp a.eval o).run P w=r.andThen λ v w'=>.ok (.value v) w':=by
 simp only [execOp,ho,Sem.run_bind,hg,Result.andThen,hr];cases r<;>rfl
theorem c2w (h:RS B S ι s a w) {o:Oper} {op:BinOp} {T T':TypeId} {x y:Operand} (ho:o.op=.binOp op T x y T') {P:Program} {k k':IntKind} {m n:Int}
  (hx:a.eval x=.int k m) (bx:r9 k m) (hy:a.eval y=.int k' n) (by_:r9 k' n):F1 P B o a w (xI op k m k' n s):=by
 have hg:(eqGuard op T x y (a.eval x) (a.eval y)).run P w=.ok () w:=by rw [hx,hy]; cases op<;>rfl
 have run:∀ {r:Result Value},(binOp op T (.int k m) (.int k' n)).run P w=r->(execOp a.eval o).run P w=r.andThen λ v w'=>.ok (.value v) w':=by
  intro r hr;exact U3 ho hg (by rw [hx,hy]; exact hr)
 have h0:k.min<=0:=by cases k<;>decide
 have h1:0<=k.max:=by cases k<;>decide
 unfold xI
 split
 ·intro hn
  have:¬ n<0:=by omega
  exact y7.value (by rw [run (r:=.ok (.int k (k.wrap (m*2^(min n.toNat k.bits)))) w)]; rfl; simp [binOp,Op.shift,this]) h (VX.int (U7 _ _))
 ·intro hn
  have:¬ n<0:=by omega
  generalize hc:min n.toNat k.bits=c;have hp:(0:Int)<2^c:=Int.pow_pos (by decide);have hb:r9 k (m / 2^c):=by
   unfold r9 at *
   refine ⟨?_,?_⟩
   ·apply (Int.le_ediv_iff_mul_le hp).2
    by_cases hm:m<0
    ·have:k.min*2^c<=k.min*1:=Int.mul_le_mul_of_nonpos_left h0 (by omega)
     omega
    ·have:k.min*2^c<=0:=Int.mul_nonpos_of_nonpos_of_nonneg h0 (aFd hp)
     omega
   ·by_cases hm:m<0
    ·have:=Int.ediv_neg_of_neg_of_pos hm hp
     omega
    ·have:=aGl (2^c) (a:=m) (by omega)
     omega
  refine y7.value (by rw [run (r:=.ok (.int k (m / 2^c)) w)]; rfl; simp [binOp,Op.shift,this,hc,Int.fdiv_eq_ediv_of_nonneg _ (aFd hp)]) h (VX.int hb)
 ·rename_i sN sM
  split
  ·rename_i hk; subst hk
   split
   ·exact FH (by rw [run (r:=.ok (.int k (k.wrap (m+n))) w)]; rfl; simp [binOp,Op.intArith]) h
   ·exact FH (by rw [run (r:=.ok (.int k (k.wrap (m - n))) w)]; rfl; simp [binOp,Op.intArith]) h
   ·exact FH (by rw [run (r:=.ok (.int k (k.wrap (m*n))) w)]; rfl; simp [binOp,Op.intArith]) h
   ·intro hn
    have hq:r9 k (m.tdiv n):=by
     unfold r9 at *
     by_cases hm:m<0
     ·have e:m.tdiv n=-((-m) / n):=by rw [<- aIa m,Int.neg_tdiv,aGq (by omega)]; simp
      have:=aEi (a:=-m) (b:=n) (by omega) (by omega);have:=aGl n (a:=-m) (by omega);omega
     ·rw [aGq (by omega)]
      have:=aEi (a:=m) (b:=n) (by omega) (by omega);have:=aGl n (a:=m) (by omega);omega
    exact y7.value (by rw [run (r:=.ok (.int k (m.tdiv n)) w)]; rfl; simp [binOp,Op.intDiv,show n≠0 by omega,U2 hq]) h (VX.int hq)
   ·intro hn
    have hq:r9 k (m.tmod n):=by
     unfold r9 at *
     by_cases hm:m<0
     ·have e:m.tmod n=-((-m) % n):=by rw [<- aIa m,aGf,aDw (by omega)]; simp
      have:=aEz (-m) (b:=n) (by omega);have:(-m) % n<=-m:=by
       have:=aEp (-m) n;have:=aFw (aFd hn) (aEi (a:=-m) (b:=n) (by omega) (by omega));omega
      omega
     ·rw [aDw (by omega)]
      have:=aEz m (b:=n) (by omega);have:m % n<=m:=by
       have:=aEp m n;have:=aFw (aFd hn) (aEi (a:=m) (b:=n) (by omega) (by omega));omega
      omega
    exact y7.value (by rw [run (r:=.ok (.int k (m.tmod n)) w)]; rfl; simp [binOp,Op.intDiv,show n≠0 by omega]) h (VX.int hq)
   ·exact y7.value (by rw [run (r:=.ok (.int k (T4 k m n)) w)]; rfl; simp [binOp,Op.intBits,T4]) h (VX.int (U7 _ _))
   ·exact y7.value (by rw [run (r:=.ok (.int k (bOr k m n)) w)]; rfl; simp [binOp,Op.intBits,bOr]) h (VX.int (U7 _ _))
   ·exact y7.value (by rw [run (r:=.ok (.int k (vP k m n)) w)]; rfl; simp [binOp,Op.intBits,vP]) h (VX.int (U7 _ _))
   ·exact y7.value (by rw [run (r:=.ok (.int k (S8 k m n)) w)]; rfl; simp [binOp,Op.intBits,S8]) h (VX.int (U7 _ _))
   ·exact y7.value (by rw [run (r:=.ok (.bool (decide (m=n))) w)]; rfl; simp [binOp,Op.intCmp]; rfl) h VX.bool
   ·exact y7.value (by rw [run (r:=.ok (.bool (decide (m≠n))) w)]; rfl; simp [binOp,Op.intCmp]; rfl) h VX.bool
   ·exact y7.value (by rw [run (r:=.ok (.bool (decide (m<n))) w)]; rfl; simp [binOp,Op.intCmp]) h VX.bool
   ·exact y7.value (by rw [run (r:=.ok (.bool (decide (m<=n))) w)]; rfl; simp [binOp,Op.intCmp]) h VX.bool
   ·exact y7.value (by rw [run (r:=.ok (.bool (decide (n<m))) w)]; rfl; simp [binOp,Op.intCmp]) h VX.bool
   ·exact y7.value (by rw [run (r:=.ok (.bool (decide (n<=m))) w)]; rfl; simp [binOp,Op.intCmp]) h VX.bool
   ·trivial
  ·trivial
theorem b8k {P:Program} {T:TypeId} {m n:yY} (hn:m.length+n.length<=maxLen):(binOp .add T (.string ⟨m.toArray⟩) (.string ⟨n.toArray⟩)).run P w=.ok (.string ⟨(m++n).toArray⟩) w:=by
 have h2:¬ ((((ByteArray.mk m.toArray).size+(ByteArray.mk n.toArray).size:Nat):Int) > IntKind.i64.max):=by
  have e1:(ByteArray.mk m.toArray).size=m.length:=by simp [ByteArray.size]
  have e2:(ByteArray.mk n.toArray).size=n.length:=by simp [ByteArray.size]
  rw [e1,e2];have:IntKind.i64.max=((maxLen:Nat):Int):=by decide
  omega
 have e:(ByteArray.mk m.toArray)++(ByteArray.mk n.toArray)=ByteArray.mk (m++n).toArray:=by
  apply ByteArray.ext; simp
 simp only [binOp,Op.stringOp,h2,if_false,e];rfl
theorem c2v (h:RS B S ι s a w) {o:Oper} {op:BinOp} {T T':TypeId} {x y:Operand} (ho:o.op=.binOp op T x y T') {P:Program} {m n:yY}
  (hx:a.eval x=.string ⟨m.toArray⟩) (hy:a.eval y=.string ⟨n.toArray⟩):F1 P B o a w (yT op m n s):=by
 have hg:(eqGuard op T x y (a.eval x) (a.eval y)).run P w=.ok () w:=by rw [hx,hy]; cases op<;>rfl
 have run:∀ {r:Result Value},(binOp op T (.string ⟨m.toArray⟩) (.string ⟨n.toArray⟩)).run P w=r->(execOp a.eval o).run P w=r.andThen λ v w'=>.ok (.value v) w':=by
  intro r hr;exact U3 ho hg (by rw [hx,hy]; exact hr)
 unfold yT
 split
 ·exact y7.value (by rw [run (r:=.ok (.bool (decide (m=n))) w)]; rfl; simp [binOp,Op.stringOp,ByteArray.toList_mk,aHl]) h VX.bool
 ·exact y7.value (by rw [run (r:=.ok (.bool (decide (m≠n))) w)]; rfl; simp [binOp,Op.stringOp,ByteArray.toList_mk,aHl]) h VX.bool
 ·intro hn
  refine y7.value (by rw [run (r:=.ok (.string ⟨(m++n).toArray⟩) w)]; rfl; exact b8k hn) h (VX.str (by simpa using hn))
 ·trivial
theorem AI {P:Program} {n:Nat} {T:TypeId} (hT:o8 P n T .bool=true):P.underlying T=some .bool:=by
 obtain ⟨d,h1,h2⟩:=R8 hT;cases n with
 | zero=>simp [o8] at hT
 | succ n =>
  simp only [o8,aAa,h1] at hT;obtain ⟨_,hT⟩:=hT;cases d<;>first|exact h1|(exact (aAy hT).elim)|skip
  rename_i fs;have hT:n6 (o8 P n) fs.toList 0 .bool=true:=hT;cases hf:fs.toList with
  | nil=>rw [hf] at hT; simp [n6] at hT
  | cons f l=>rw [hf] at hT; simp [n6] at hT
theorem run_equalIn_bool {P:Program} {T:TypeId} (h1:P.underlying T=some .bool) (d:Nat) (m n:Bool):(Op.equalIn (d+1) T (.bool m) (.bool n)).run P w=.ok (m == n) w:=by
 simp [Op.equalIn,p9 h1]
theorem Th {P:Program} {n:Nat} {T:TypeId} (hT:o8 P n T .bool=true) (m n:Bool):(Op.equal T (.bool m) (.bool n)).run P w=.ok (m == n) w :=
 run_equalIn_bool (AI hT) 9999 m n
theorem c2u (h:RS B S ι s a w) {W:Bool} {o:Oper} {op:BinOp} {T T':TypeId} {x y:Operand} (ho:o.op=.binOp op T x y T') {P:Program} {k k':IntKind} {m n:Int}
  (hx:a.eval x=.int k m) (bx:r9 k m) (hy:a.eval y=.int k' n) (by_:r9 k' n):F1 P B o a w (xJ W op k m k' n s):=by
 unfold xJ
 split
 ·split
  ·rename_i hk; subst hk
   have hg:(eqGuard .add T x y (a.eval x) (a.eval y)).run P w=.ok () w:=by rw [hx,hy]; rfl
   exact y7.value (by rw [U3 ho hg (r:=.ok (.int k (k.wrap (m+n))) w)]; rfl; rw [hx,hy]; simp [binOp,Op.intArith]) h (VX.int (U7 _ _))
  ·trivial
 ·exact c2w h ho hx bx hy by_
theorem c2y (hE:D3 E B) (h:RS B S ι s a w) {o:Oper} {op:BinOp} {T T':TypeId} {x y:Operand} (ho:o.op=.binOp op T x y T'):F1 E.P B o a w (yg E T op (s.ev x) (s.ev y) s):=by
 have hx:=h.ev x;have hy:=h.ev y;unfold yg
 split
 ·rename_i k m k' n e1 e2
  rw [e1] at hx; rw [e2] at hy;obtain ⟨hx,bx⟩:=VX.I4 hx;obtain ⟨hy,by_⟩:=VX.I4 hy;exact c2u h ho hx bx hy by_
 ·rename_i m n e1 e2
  rw [e1] at hx; rw [e2] at hy;have hx:=VX.Ay hx;have hy:=VX.Ay hy;have hg:(eqGuard op T x y (a.eval x) (a.eval y)).run E.P w=.ok () w:=by rw [hx,hy]; cases op<;>rfl
  split
  ·rename_i hc
   exact y7.value (by rw [U3 ho hg (r:=.ok (.bool (m == n)) w)]; rfl; rw [hx,hy]; simp [binOp,Th (D6 hE hc)]) h VX.bool
  ·rename_i hc
   exact y7.value (by rw [U3 ho hg (r:=.ok (.bool (m != n)) w)]; rfl; rw [hx,hy]; simp [binOp,Th (D6 hE hc)]; cases (m:Bool)<;>cases (n:Bool)<;>rfl) h VX.bool
  ·trivial
 ·rename_i m n e1 e2
  rw [e1] at hx; rw [e2] at hy;exact c2v h ho (VX.zq hx).1 (VX.zq hy).1
 ·trivial
end
end Go.Ex
namespace Go.Ex
section
variable {E:Env} {B:E6} {S S':Nat->Prop} {ι:Ix} {s:St} {a:Act} {w:World} {hp:List (Nat×i6)}
def Ix.V0 (ι:Ix) (d:Nat) (r:Nat×Nat) (o:List Nat):Ix:={ ι with root:=λ i=>if i=d then r else ι.root i,own:=λ i=>if i=d then o else ι.own i }
def Ix.V6 (ι:Ix) (d:Nat) (cs:List Value) (o:List Nat):Ix:={ ι with cells:=λ i=>if i=d then cs else ι.cells i,own:=λ i=>if i=d then o else ι.own i }
def Ix.C6 (ι:Ix) (d:Nat) (o:List Nat):Ix:={ ι with own:=λ i=>if i=d then o else ι.own i }
def F0 (ι ι':Ix) (i:Nat):Prop:=ι'.root i=ι.root i/\ι'.cells i=ι.cells i/\ι'.own i=ι.own i
theorem F0.ob {ι':Ix} {i:Nat} (h:F0 ι ι' i) {H:Array Go.Obj} {e:i6}:OB H S ι' i e↔OB H S ι i e:=by
 obtain ⟨h1,h2,h3⟩:=h;cases e<;>simp only [OB,h1,h2,h3]
theorem F0.l7 {ι':Ix} {i:Nat} (h:F0 ι ι' i) {e:i6}:l7 ι' i e=l7 ι i e:=by
 obtain ⟨h1,h2,h3⟩:=h;cases e<;>simp only [Ex.l7,h1,h3]
theorem F0.vh {ι':Ix} {i:Nat} (h:F0 ι ι' i) {H:Array Go.Obj} {e:i6}:VH H ι' i e=VH H ι i e:=by
 obtain ⟨h1,h2,h3⟩:=h;cases e<;>simp only [VH,h2]
theorem F0.place {ι':Ix} {i:Nat} (h:F0 ι ι' i) {H:Array Go.Obj} {e:i6} {p:List Step}:Place H ι' i e p=Place H ι i e p:=by
 have hv:=h.vh (H:=H) (e:=e);obtain ⟨h1,h2,h3⟩:=h;cases e<;>simp only [Place,VR,h1,hv]
theorem F0.loc {ι':Ix} {i:Nat} (h:F0 ι ι' i) {H:Array Go.Obj} {e:i6} {p:List Step}:Loc H ι' i e p=Loc H ι i e p:=by
 simp only [Loc,h.place]
theorem F0.BC {ι':Ix} {i:Nat} (h:F0 ι ι' i) {H:Array Go.Obj} {e:i6} {p:List Step} {u:Ty} {cs:List Value}:Cells H ι' i e p u cs↔Cells H ι i e p u cs:=by
 simp only [Cells,h.place,h.vh]
theorem F0.refl (ι:Ix) (i:Nat):F0 ι ι i:=⟨rfl,rfl,rfl⟩
theorem LG {i d:Nat} (h:i≠d) (r:Nat×Nat) (o:List Nat):F0 ι (ι.V0 d r o) i:=by simp [F0,Ix.V0,h]
theorem FG {i d:Nat} (h:i≠d) (cs:List Value) (o:List Nat):F0 ι (ι.V6 d cs o) i:=by simp [F0,Ix.V6,h]
theorem X6 {i d:Nat} (h:i≠d) (o:List Nat):F0 ι (ι.C6 d o) i:=by simp [F0,Ix.C6,h]
theorem VX.other {ι':Ix} {cE:List (Nat×i6)} {H:Array Go.Obj} {v:AV} (hl:∀ i,v.i8 i=true->look i cE=look i hp) (hs:∀ i,v.i8 i=true->F0 ι ι' i) {vs:List Value} (h:VX H S ι hp v vs):VX H S ι' cE v vs:=by
 have:=VX.map (H':=H) (S':=S) (ι':=ι') (cE:=cE) (f:=λ u=>u) (λ _ _=>rfl) (λ _ h=>h) ?_ h
 ·rwa [AV.map_id] at this
 ·intro u vs hu hm h
  cases u<;>simp only [AV.ref] at hu<;>try cases hu
  ·rename_i i p
   have hi:=hm i (by simp [AV.i8]);obtain ⟨e,b,off,h1,h2,h3,h4⟩:=h;exact ⟨e,b,off,(hl i hi).trans h1,h2,(hs i hi).loc.trans h3,h4⟩
  ·rename_i i p
   have hi:=hm i (by simp [AV.i8]);obtain ⟨e,u,y,cs,h1,h2,h3,h4,h5⟩:=h;exact ⟨e,u,y,cs,(hl i hi).trans h1,h2,h3,(hs i hi).BC.2 h4,h5⟩
  ·rename_i i p lo cN
   have hi:=hm i (by simp [AV.i8]);obtain ⟨e,v,h1,h2,h3,h4,h5,h6⟩:=h;refine ⟨e,v,(hl i hi).trans h1,h2,h3,h4,h5,?_⟩;rcases h6 with ⟨t,l,a,cap,k1,k2,k3,k4⟩|⟨n,t,l,b,off,k1,k2,k3,k4⟩
   ·exact .inl ⟨t,l,a,cap,k1,k2,(hs i hi).BC.2 k3,k4⟩
   ·exact .inr ⟨n,t,l,b,off,k1,k2,(hs i hi).loc.trans k3,k4⟩
theorem Cm {H:Array Go.Obj} {o:Go.Obj} {b:Nat} (h:b<H.size):(H.push o)[b]?=H[b]?:=by
 rw [aEc,if_neg (by omega)]
theorem Cl {H:Array Go.Obj} {o:Go.Obj}:(H.push o)[H.size]?=some o:=by simp
def F7 (w:World) (o:Go.Obj):World:={ w with heap:=w.heap.push o }
theorem HS.My (h:HS B S ι hp w) {b:Nat} (hb:(∃ i e,look i hp=some e/\b∈l7 ι i e)\/S b):b<w.heap.size:=by
 rcases hb with ⟨i,e,h1,h2⟩|hb
 ·exact (h.bl i e h1 b h2).2.2
 ·exact h.slt b hb
def F2 (B:E6) (S:Nat->Prop) (ι:Ix) (hp:List (Nat×i6)) (w:World) (O:List Nat):Prop :=
 O.Nodup/\∀ b∈O,¬ S b/\(B.w0.heap.size<=b\/B.M b)/\b<w.heap.size/\∀ i e,look i hp=some e->b∉l7 ι i e
theorem F2.nil:F2 B S ι hp w []:=⟨aAw,by simp⟩
theorem F2.sub {O O':List Nat} (h:F2 B S ι hp w O) (hn:O'.Nodup) (hs:∀ b∈O',b∈O):F2 B S ι hp w O':=⟨hn,λ b hb=>h.2 b (hs b hb)⟩
theorem F2.append {O O':List Nat} (h:F2 B S ι hp w O) (h':F2 B S ι hp w O') (hd:∀ b∈O,b∉O'):F2 B S ι hp w (O++O') :=
 ⟨aAg.2 ⟨h.1,h'.1,λ a ha _b hb e=>hd a ha (e▸hb)⟩,λ b hb=>(aAi.1 hb).elim (h.2 b) (h'.2 b)⟩
theorem HS.vn (h:HS B S ι hp w) {O:List Nat} (hF:F2 B S ι hp w O) {w':World} (k:D0 O w w'):HS B S ι hp w':=by
 have bf:∀ {b},((∃ i e,look i hp=some e/\b∈l7 ι i e)\/S b)->w'.heap[b]?=w.heap[b]?:=by
  intro _ hb;refine k.frame _ (h.My hb) (λ hO=>?_);rcases hb with ⟨i,e,h1,h2⟩|hb
  ·exact (hF.2 _ hO).2.2.2 i e h1 h2
  ·exact (hF.2 _ hO).1 hb
 refine ⟨k.os.trans h.os,k.tape.trans h.tape,k.out.trans h.out,aAv h.size k.size,?_,λ b hb=>aAr (h.slt b hb) k.size,h.s0,h.s1,?_,?_,h.dj,h.pin⟩
 ·intro c hc hm
  rw [k.frame c (aAr hc h.size) (λ hO=>by rcases (hF.2 c hO).2.1 with h1|h1; omega; exact hm h1)];exact h.frame c hc hm
 ·intro i e hi
  exact (h.ob i e hi).u5 (λ b hb=>bf (hb.imp (λ hb=>⟨i,e,hi,hb⟩) id)) (λ _ h=>h)
 ·intro i e hi b hb
  obtain ⟨h1,h2,h3⟩:=h.bl i e hi b hb;exact ⟨h1,h2,aAr h3 k.size⟩
theorem VX.vn (h:HS B S ι hp w) {O:List Nat} (hF:F2 B S ι hp w O) {w':World} (k:D0 O w w') {v:AV} {vs:List Value} (hv:VX w.heap S ι hp v vs):VX w'.heap S ι hp v vs:=by
 refine VX.grow (λ b hb=>k.frame b (h.My hb) (λ hO=>?_)) (λ _ h=>h) h.slt h.ob hv;rcases hb with ⟨i,e,h1,h2⟩|hb
 ·exact (hF.2 b hO).2.2.2 i e h1 h2
 ·exact (hF.2 b hO).1 hb
theorem RS.vn (h:RS B S ι s a w) {O:List Nat} (hF:F2 B S ι s.hp w O) {w':World} (k:D0 O w w'):RS B S ι s a w' :=
 ⟨h.hs.vn hF k,h.dfr,h.sz,λ t v hv=>VX.vn h.hs hF k (h.fr t v hv)⟩
theorem F2.vn {O O':List Nat} (h:F2 B S ι hp w O') {w':World} (k:D0 O w w'):F2 B S ι hp w' O' :=
 ⟨h.1,λ b hb=>⟨(h.2 b hb).1,(h.2 b hb).2.1,aAr (h.2 b hb).2.2.1 k.size,(h.2 b hb).2.2.2⟩⟩
theorem D0.push (o:Go.Obj):D0 [] w (F7 w o):=⟨rfl,.refl w,rfl,by simp [F7],λ c hc _=>Cm hc⟩
theorem D0.drew:D0 [] w w.drew:=⟨rfl,⟨rfl,aGo _⟩,rfl,aAj _,λ _ _ _=>rfl⟩
theorem D0.mono {O O':List Nat} {w':World} (h:D0 O w w') (ho:∀ b∈O,b∈O'):D0 O' w w':=⟨h.os,h.tape,h.out,h.size,λ c hc hn=>h.frame c hc (λ hO=>hn (ho c hO))⟩
theorem D0.trans {O O':List Nat} {w' w'':World} (h:D0 O w w') (h':D0 O' w' w'') (ho:∀ b∈O',b∈O\/w.heap.size<=b):D0 O w w'' :=
 ⟨h'.os.trans h.os,h'.tape.trans h.tape,h'.out.trans h.out,aAv h.size h'.size,λ c hc hn=>(h'.frame c (aAr hc h.size) (λ hO=>by rcases ho c hO with h1|h1; exact hn h1; omega)).trans (h.frame c hc hn)⟩
theorem HS.add (h:HS B S ι hp w) {d:Nat} {e:i6} {ι':Ix} {O:List Nat} (hd:look d hp=none) (hs:∀ i,i≠d->F0 ι ι' i) (aS:OB w.heap S ι' d e) (hb:∀ b∈l7 ι' d e,b∈O) (hF:F2 B S ι hp w O) :
  HS B S ι' (Ex.put d e hp) w:=by
 refine ⟨h.os,h.tape,h.out,h.size,h.frame,h.slt,h.s0,h.s1,?_,?_,?_,?_⟩
 ·intro i e' h1
  rw [o7] at h1;by_cases e1:i=d
  ·subst e1; rw [if_pos rfl] at h1; cases h1; exact aS
  ·rw [if_neg e1] at h1; exact (hs i e1).ob.2 (h.ob i e' h1)
 ·intro i e' h1 b cS
  rw [o7] at h1;by_cases e1:i=d
  ·subst e1; rw [if_pos rfl] at h1; cases h1
   obtain ⟨k1,k2,k3,_⟩:=hF.2 b (hb b cS);exact ⟨k1,k2,k3⟩
  ·rw [if_neg e1] at h1
   rw [(hs i e1).l7] at cS;exact h.bl i e' h1 b cS
 ·intro i j ei ej h1 h2 bS b cS
  rw [o7] at h1 h2;by_cases e1:i=d
  ·subst e1
   rw [if_neg (Ne.symm bS)] at h2;rw [if_pos rfl] at h1; cases h1;rw [(hs j (Ne.symm bS)).l7];exact (hF.2 b (hb b cS)).2.2.2 j ej h2
  ·rw [if_neg e1] at h1
   rw [(hs i e1).l7] at cS;by_cases e2:j=d
   ·subst e2
    rw [if_pos rfl] at h2; cases h2;exact λ eu=>(hF.2 b (hb b eu)).2.2.2 i ei h1 cS
   ·rw [if_neg e2] at h2
    rw [(hs j e2).l7];exact h.dj i j ei ej h1 h2 bS b cS
 ·intro q hq
  obtain ⟨k0,⟨e',k1⟩,k2,k3⟩:=h.pin q hq;have bt:q.1≠d:=by rintro e1; rw [e1,hd] at k1; cases k1
  exact ⟨k0,⟨e',by rw [o7,if_neg bt]; exact k1⟩,by rw [(hs _ bt).1]; exact k2,by rw [(hs _ bt).2.1]; exact k3⟩
theorem Ff {d:Nat} (h:s.fresh d=true):look d s.hp=none/\∀ m v,look m s.fr=some v->v.i8 d=false:=by
 simp only [St.fresh,aAa,aCm] at h;exact ⟨h.1,λ m v hv=>CR h.2 hv⟩
theorem VX.add {d:Nat} {e:i6} {ι':Ix} {H:Array Go.Obj} (hs:∀ i,i≠d->F0 ι ι' i) {v:AV} (hm:v.i8 d=false) {vs:List Value} (h:VX H S ι hp v vs):VX H S ι' (Ex.put d e hp) v vs:=by
 have bt:∀ i,v.i8 i=true->i≠d:=by rintro i hi rfl; rw [hm] at hi; cases hi
 exact VX.other (λ i hi=>by rw [o7,if_neg (bt i hi)]) (λ i hi=>hs i (bt i hi)) h
theorem RS.add (h:RS B S ι s a w) {d:Nat} {e:i6} {ι':Ix} {O:List Nat} (hd:s.fresh d=true) (hs:∀ i,i≠d->F0 ι ι' i) (aS:OB w.heap S ι' d e) (hb:∀ b∈l7 ι' d e,b∈O) (hF:F2 B S ι s.hp w O) :
  RS B S ι' (s.w8 d e) a w:=by
 obtain ⟨k1,k2⟩:=Ff hd;exact ⟨h.hs.add k1 hs aS hb hF,h.dfr,h.sz,λ t v hv=>VX.add hs (k2 t v hv) (h.fr t v hv)⟩
theorem VX.dropped {i:Nat} {H:Array Go.Obj} {v:AV} {vs:List Value} (h:VX H S ι hp v vs):VX H S ι (del i hp) (v.drop i) vs:=by
 refine VX.map (λ _ _=>rfl) (λ _ h=>h) (λ u vs hu _ hv=>?_) h;cases hm:u.i8 i with
 | true=>obtain ⟨x,rfl⟩:=VX.one hu hv; exact ⟨x,rfl⟩
 | false =>
  have bt:∀ j,u.i8 j=true->j≠i:=by rintro j hj rfl; rw [hm] at hj; cases hj
  exact VX.other (λ j hj=>by rw [L8,if_neg (bt j hj)]) (λ j _=>F0.refl ι j) hv
theorem HS.drop (h:HS B S ι hp w) {i:Nat} (hi:pinned i=false):HS B S ι (del i hp) w:=by
 have hl:∀ {j:Nat} {e:i6},look j (del i hp)=some e->look j hp=some e:=by
  intro j e hj;rw [L8] at hj;split at hj
  ·cases hj
  ·exact hj
 refine ⟨h.os,h.tape,h.out,h.size,h.frame,h.slt,h.s0,h.s1,λ j e hj=>h.ob j e (hl hj),λ j e hj=>h.bl j e (hl hj),λ j k ej ek hj hk=>h.dj j k ej ek (hl hj) (hl hk),λ q hq=>?_⟩;obtain ⟨k0,⟨e',k1⟩,k2⟩:=h.pin q hq;exact ⟨k0,⟨e',by rw [L8,if_neg (by rintro e1; rw [e1,hi] at k0; cases k0)]; exact k1⟩,k2⟩
theorem RS.drop (h:RS B S ι s a w) {i:Nat} (hi:pinned i=false):RS B S ι (s.drop i) a w:=by
 refine ⟨h.hs.drop hi,h.dfr,h.sz,?_⟩;intro t v hv;simp only [St.drop,P9,aCl] at hv;obtain ⟨v0,eY,rfl⟩:=hv;exact VX.dropped (h.fr t v0 eY)
theorem RS.w9 {B:E6} {S:Nat->Prop} {ι:Ix} {a:Act} {w:World}:∀ {g:List Nat} {s:St},RS B S ι s a w->(g.all λ i=>!pinned i)=true->RS B S ι (St.w9 g s) a w
 | [],_,h,_=>h
 | i::g,s,h,hg=>by
  simp only [aCt,aAa,aAt] at hg;exact RS.w9 (g:=g) (s:=s.drop i) (h.drop hg.1) hg.2
theorem J9:∀ {g:List Nat} {s:St} {j:Nat},look j (St.w9 g s).hp=if j∈g then none else look j s.hp
 | [],s,j=>by simp [St.w9]
 | i::g,s,j=>by
  simp only [St.w9,J9 (g:=g),St.drop,L8];by_cases e:j=i
  ·subst e; simp
  ·by_cases e2:j∈g<;>simp [e,e2]
theorem F2.w9 (h:HS B S ι s.hp w) {g:List Nat} {O:List Nat} (hn:O.Nodup) (hO:∀ b∈O,∃ i e,i∈g/\look i s.hp=some e/\b∈l7 ι i e):F2 B S ι (St.w9 g s).hp w O:=by
 refine ⟨hn,λ b hb=>?_⟩;obtain ⟨i,e,hi,h1,h2⟩:=hO b hb;obtain ⟨k1,k2,k3⟩:=h.bl i e h1 b h2;refine ⟨k1,k2,k3,λ j ej hj jd=>?_⟩;rw [J9] at hj;split at hj
 ·cases hj
 ·rename_i fV
  exact h.dj i j e ej h1 hj (by rintro rfl; exact fV hi) b h2 jd
theorem F2.xG {O:List Nat} (h:F2 B S ι s.hp w O) (g:List Nat):F2 B S ι (St.w9 g s).hp w O :=
 ⟨h.1,λ b hb=>⟨(h.2 b hb).1,(h.2 b hb).2.1,(h.2 b hb).2.2.1,λ i e hi=>by rw [J9] at hi; split at hi; cases hi; exact (h.2 b hb).2.2.2 i e hi⟩⟩
theorem RS.alloc (h:RS B S ι s a w) {d:Nat} (hd:s.fresh d=true) {t:Ty} {x:t.den} {cs:List Value} {O:List Nat} (hR:g9 w.heap S t O cs x) (hF:F2 B S ι s.hp w O) (T:TypeId) :
  RS B S (ι.V0 d (w.heap.size,0) O) (s.w8 d (.var t x)) a (F7 w (.cells cs.toArray T)):=by
 have h1:=h.vn F2.nil (D0.push (.cells cs.toArray T));have nL:=hF.vn (D0.push (w:=w) (.cells cs.toArray T));have dH:(F7 w (.cells cs.toArray T)).heap[w.heap.size]?=some (.cells cs.toArray T):=Cl;have hold:∀ {b},b<w.heap.size->(F7 w (.cells cs.toArray T)).heap[b]?=w.heap[b]?:=λ hb=>Cm hb;refine h1.add hd (λ i hi=>LG hi _ _) ?_ (O:=w.heap.size::O) ?_ ⟨aAs.2 ⟨λ hm=>aCx _ (hF.2 _ hm).2.2.1,hF.1⟩,?_⟩
 ·refine ⟨⟨O,by simp [Ix.V0],?_⟩,⟨cs.toArray,T,⟨_,by simpa [Ix.V0] using dH,.inl rfl⟩,by simp [Ix.V0,hR.length]⟩,?_⟩
  ·have e:e8 (F7 w (.cells cs.toArray T)).heap w.heap.size 0 t.size=cs:=by
    have hb:w6 (F7 w (.cells cs.toArray T)).heap w.heap.size=cs:=by simp only [w6,dH]
    simp only [e8,hb,aCb];exact aAu (by rw [hR.length]; exact aAj _)
   simp only [Ix.V0,if_pos];rw [e];exact hR.u5 (λ b hb=>hold (hb.elim (λ hb=>(hF.2 b hb).2.2.1) (h.hs.slt b))) (λ _ h=>h)
  ·simp only [Ix.V0,if_pos]
   exact aAs.2 ⟨λ hm=>aCx _ (hF.2 _ hm).2.2.1,hF.1⟩
 ·intro b hb
  simpa [l7,Ix.V0] using hb
 ·intro b hb
  rcases aAp.1 hb with rfl|hb
  ·refine ⟨λ hS=>aCx _ (h.hs.slt _ hS),.inl h.hs.size,by simp [F7],λ i e hi ku=>?_⟩
   exact aCx _ (h.hs.bl i e hi _ ku).2.2
  ·exact nL.2 b hb
theorem IS {d:Nat} {t:Ty} {x:t.den} {w':World} {r:Nat×Nat} {o:List Nat} (hr:r.1<w'.heap.size):VX w'.heap S (ι.V0 d r o) (s.w8 d (.var t x)).hp (.ptr d []) [.pointer (some ⟨r.1,r.2,none⟩)]:=by
 refine ⟨.var t x,r.1,r.2,by simp [St.w8,o7],by cases t<;>trivial,wv ?_ hr,rfl⟩;simp only [Place,VR,VH,Ix.V0,if_pos,i6.ty];cases t<;>first|rfl|(rename_i o _; cases o<;>rfl)
theorem RS.hold (h:RS B S ι s a w) {d:Nat} (hd:s.fresh d=true) {t:Ty} {x:t.den} {O:List Nat} {cs:List Value} (hR:g9 w.heap S t O cs x) (hF:F2 B S ι s.hp w O):RS B S (ι.V6 d cs O) (s.w8 d (.own t x)) a w:=by
 refine h.add hd (λ i hi=>FG hi _ _) ⟨⟨O,by simp [Ix.V6],by simpa [Ix.V6] using hR⟩,by simpa [Ix.V6] using hF.1⟩ (O:=O) ?_ hF;intro b hb;simpa [l7,Ix.V6] using hb
theorem C1 {t:Ty} {x:t.den}:j9 t x []=some ⟨t,x⟩:=by
 cases t<;>first|rfl|(rename_i o _; cases o<;>rfl)
theorem O6 {t:Ty} {x:t.den}:x8 t x []:=by
 cases t<;>first|trivial|(rename_i o _; cases o<;>trivial)
theorem y9 {H:Array Go.Obj} {t:Ty} {b off:Nat}:y8 H t [] b off=some (b,off):=by
 cases t<;>first|rfl|(rename_i o _; cases o<;>rfl)
theorem AO {H:Array Go.Obj} {d:Nat} {t:Ty} {x:t.den} {cs:List Value} (h:ι.cells d=cs) (hl:cs.length=t.size):Cells H ι d (.own t x) [] t cs:=by
 refine ⟨H.size,0,by simp only [Place,y9]; rfl,?_⟩;simp only [VH,h,e8,wH,aCb];exact (aAu (by omega)).symm
theorem U4 {H:Array Go.Obj} {d:Nat} {t:Ty} {x:t.den} {u:Ty} {cs:List Value} (h:Cells H ι d (.own t x) [] u cs) (hl:(ι.cells d).length=u.size):cs=ι.cells d:=by
 obtain ⟨b,off,h1,h2⟩:=h;simp only [Place,y9,VR,aAc,aAx] at h1;obtain ⟨rfl,rfl⟩:=h1;rw [h2];simp only [VH,e8,wH,aCb];exact aAu (by omega)
theorem Aq {H:Array Go.Obj} {d:Nat} {t:Ty} {x:t.den} {cs:List Value} {O:List Nat} (hl:cs.length=t.size):VX H S (ι.V6 d cs O) (Ex.put d (.own t x) hp) (.at_ d []) [l5 t cs] :=
 ⟨.own t x,t,x,cs,by simp [o7],O6,C1,AO (by simp [Ix.V6]) hl,rfl⟩
theorem b9c (hE:D3 E B) (h:RS B S ι s a w) {o:Oper} {T:TypeId} (ho:o.op=.alloc T):F1 E.P B o a w (m0 E o s):=by
 unfold m0;rw [ho];simp only
 split
 ·rename_i t d ht hd
  split
  ·rename_i hf
   have hz:=r7 hE ht;have hR:g9 w.heap S t.ty [] (zc t.ty) t.ty.s4:=g9.s4 _;intro next Q hn
   unfold Oper.wp;have:(execOp a.eval o).run E.P w=.ok (.value (.pointer (some ⟨w.heap.size,0,none⟩))) (F7 w (.cells (zc t.ty).toArray T)):=by
    simp [execOp,ho,Instr.alloc,AD hz,newVar,newRow,newObj,Sem.run,F7,hR.cells]
   rw [this];exact hn S _ _ _ (h.alloc hf hR F2.nil T) (IS (by simp [F7]))
  ·trivial
 ·trivial
end
end Go.Ex
namespace Go.Ex
section
variable {E:Env} {B:E6} {S:Nat->Prop} {ι:Ix} {s:St} {a:Act} {w:World} {hp:List (Nat×i6)} {H H':Array Go.Obj}
def over (cur:List Value) (off:Nat) (cs:List Value):List Value:=cur.take off++cs++cur.drop (off+cs.length)
theorem TP {cur cs:List Value} {off:Nat} (h:off+cs.length<=cur.length):(over cur off cs).length=cur.length:=by
 simp only [over,aAe,aAk,aAq]; omega
theorem OW {cur cs:List Value} {off:Nat} (h:off+cs.length<=cur.length):((over cur off cs).drop off).take cs.length=cs:=by
 have e:(cur.take off).length=off:=by rw [aAk]; omega
 rw [over,aAl,aEy e,List.take_left]
theorem QP {cur cs:List Value} {off:Nat} (h:off+cs.length<=cur.length) {j:Nat} (hj:j<off\/off+cs.length<=j):(over cur off cs)[j]?=cur[j]?:=by
 have e:(cur.take off).length=off:=by rw [aAk]; omega
 rw [over];rcases hj with hj|hj
 ·rw [aAl,aFf (by omega),aBn,if_pos hj]
 ·rw [aDv (by simp only [aAe,e]; omega)]
  simp only [aAe,e,aBi];congr 1; omega
theorem setRow_other {g c:Nat} {cs:Array Value} (h:c≠g):(w.setRow g cs).heap[c]?=w.heap[c]?:=by
 simp only [World.setRow,aEq,if_neg (Ne.symm h)]
theorem setRow_size {g:Nat} {cs:Array Value}:(w.setRow g cs).heap.size=w.heap.size:=by simp [World.setRow]
theorem Fb {b off:Nat} {cs:List Value} (hf:P5 w.heap b (off+cs.length)) :
  X1 w.heap (w.setRow b (over (w6 w.heap b) off cs).toArray).heap b off cs.length/\e8 (w.setRow b (over (w6 w.heap b) off cs).toArray).heap b off cs.length=cs:=by
 obtain ⟨arr,T,⟨fz,e,ef⟩,hn⟩:=hf;have hb:w6 w.heap b=arr.toList:=by simp only [w6,e]
 have hl:off+cs.length<=arr.toList.length:=by simpa using hn
 have dH:=setRow_heap w b arr (over (w6 w.heap b) off cs).toArray T fz e;rw [hb] at dH ⊢;refine ⟨⟨⟨arr,_,T,⟨fz,⟨e,ef⟩,dH⟩,?_,?_⟩,λ c hc _=>setRow_other hc⟩,?_⟩
 ·simp [TP hl]
 ·intro j hj; exact QP hl hj
 ·simp only [e8,w6,dH]; exact OW hl
theorem FM {P:Program} (g o:Nat) (t:TypeId) (fz:Nat×Nat):∀ (vs:List Value) (i:Nat) (cur:Array Value) (w:World),Lie w.heap g cur t fz->o+i+vs.length<=cur.size->(∀ v∈vs,v.oneCell'=true) ->
  (storeCells ⟨g,o,none⟩ vs i).run P w=.ok () (w.setRow g (cur.toList.take (o+i)++vs++cur.toList.drop (o+i+vs.length)).toArray)
 | [],i,cur,w,hg,_,_=>by
  simp only [storeCells,aBc,aCh,aDt,aBv,aHs];rw [setRow_self w g cur t fz hg.1];rfl
 | v::rest,i,cur,w,⟨hg,hz⟩,hl,h1=>by
  have hi:o+i<cur.size:=by simp at hl; omega
  have lz:(⟨g,o,none⟩:Addr).add i=⟨g,o+i,none⟩:=by unfold Addr.add; split<;>simp_all
  have bN:w.cell? ⟨g,o+i,none⟩=some cur[o+i]:=by simp [World.cell?,hg,hi]
  have lf:w.frozen? ⟨g,o+i,none⟩=false:=by
   rcases hz with rfl|hz
   ·simp [World.frozen?,hg]
   ·obtain ⟨lo,cN⟩:=fz
    have:¬ lo<=o+i:=by simp only at hz; omega
    simp [World.frozen?,hg,this]
  have bQ:(store ((⟨g,o,none⟩:Addr).add i) v).run P w=.ok () (w.setRow g (cur.setIfInBounds (o+i) v)):=by
   rw [lz,run_store P w _ v _ (h1 v (by simp)),bN];simp [lf,setCell_eq_setRow w g (o+i) cur t fz v hg]
  have ih:=FM (P:=P) g o t fz rest (i+1) (cur.setIfInBounds (o+i) v) (w.setRow g (cur.setIfInBounds (o+i) v)) ⟨setRow_heap w g cur _ t _ hg,by simpa using hz⟩ (by simp at hl ⊢; omega) (λ x hx=>h1 x (by simp [hx]));simp only [storeCells,Sem.run_bind,bQ,Result.andThen_ok,ih,setRow_setRow];congr 3;have e:=list_seg_step cur.toList (o+i) v rest (by simp at hl ⊢; omega);simpa [aGr,aBk] using e
theorem LS {P:Program} {n:Nat} {T:TypeId} {t u:Ty} (ht:o8 P n T t=true) (hu:u.sh=t.sh) {b off:Nat} (hf:P5 w.heap b (off+t.size)) {O:List Nat} {cs:List Value} {x:u.den} (hR:g9 H S u O cs x) :
  (storeVar T ⟨b,off,none⟩ (l5 u cs)).run P w=.ok () (w.setRow b (over (w6 w.heap b) off cs).toArray):=by
 obtain ⟨arr,T',⟨fz,e,ef⟩,hn⟩:=hf;have hl:=hR.length;have hs:=F9 hu;have h1:(l5 u cs).cells=cs.toArray:=hR.cells;have:=FM (P:=P) b off T' fz cs 0 arr w ⟨e,ef⟩ (by omega) (λ v hv=>(hR.plain v hv).1);simp only [storeVar,Sem.run_bind,run_sizeOf ht,Result.andThen,h1];have aW:cs.toArray.size=t.size:=by simp [hl,hs]
 simp only [aW,ne_eq,not_true_eq_false,if_false];simp only [aDt] at this;have hb:w6 w.heap b=arr.toList:=by simp only [w6,e]
 rw [hb,over];simpa [Sem.run] using this
theorem Vl {cs:List Value} {b off n:Nat} (hc:X1 H H' b off n) (aW:H'.size=H.size):X1 (gh H cs) (gh H' cs) b off n:=by
 obtain ⟨a1,a2,T,⟨fz,⟨k1,kf⟩,k2⟩,k3,k4⟩:=hc.at_;have bf:b<H.size:=(aAo.1 k1).1;refine ⟨⟨a1,a2,T,⟨fz,⟨(Al bf).trans k1,kf⟩,(Al (by omega)).trans k2⟩,k3,k4⟩,λ c cx cD=>?_⟩;rw [BW] at cD;by_cases h:c<H.size
 ·rw [Al h,Al (by omega)]; exact hc.rest c cx h
 ·have:c=H.size:=by omega
  subst this;rw [DX,<- aW,DX]
theorem BB {i:Nat} {e:i6} {b off n:Nat} (hc:X1 H H' b off n) (aW:H'.size=H.size):X1 (VH H ι i e) (VH H' ι i e) b off n:=by
 cases e<;>first|exact hc|exact Vl hc aW
theorem NX {i:Nat} {e:i6} (aW:H'.size=H.size):VR H' ι i e=VR H ι i e:=by cases e<;>simp [VR,aW]
theorem xq {i:Nat} {e:i6}:H.size<=(VH H ι i e).size:=by cases e<;>simp [VH,BW]
theorem NA {e:i6} {r:Sigma Ty.den} (he:e≠.M0):(e.E3 r).ty=r.1:=by cases e<;>first|rfl|exact absurd rfl he
theorem OA {e:i6} {r:Sigma Ty.den} (he:e≠.M0):e.E3 r≠.M0:=by cases e<;>first|exact absurd rfl he|(intro h; cases h)
theorem Ir {i:Nat} {e:i6} {r:Sigma Ty.den} {ι':Ix} (h:ι'.cells i=ι.cells i):VH H ι' i (e.E3 r)=VH H ι i e:=by cases e<;>simp [VH,i6.E3,h]
theorem Nc {i:Nat} {e:i6} {r:Sigma Ty.den} {ι':Ix} (h:ι'.root i=ι.root i):VR H ι' i (e.E3 r)=VR H ι i e:=by cases e<;>simp [VR,i6.E3,h]
theorem OB.E3 {i:Nat} {e:i6} (he:e≠.M0) (ho:OB H S ι i e) (bO:∀ c∈l7 ι i e,¬ S c/\c<H.size) (hS:∀ c,S c->c<H.size) {p:List Step} (aM:x8 e.ty e.x p) {u:Ty} {y:u.den} (hg:j9 e.ty e.x p=some ⟨u,y⟩)
  {b off:Nat} (hl:Loc H ι i e p=some (b,off)) {u':Ty} {z:u'.den} {O2:List Nat} (hc:X1 H H' b off u.size) (aW:H'.size=H.size) (hz:g9 H' S u' O2 (e8 H' b off u'.size) z)
  (eR:∀ c∈O2,c<H.size/\(c∈l7 ι i e->∃ Op,g9 H S u Op (e8 H b off u.size) y/\c∈Op)) (cY:O2.Nodup) {r:Sigma Ty.den} (aK:u6 e.ty e.x p u' z=some r) :
  ∃ O,(∀ c∈O,c∈ι.own i\/c∈O2)/\OB H' S (ι.C6 i O) i (e.E3 r)/\r.1.sh=e.ty.sh/\∀ c∈O,c∈O2\/∀ Op,g9 H S u Op (e8 H b off u.size) y->c∉Op:=by
 obtain ⟨O,hO,hR,hb,aJ,bf,gi,dV⟩:=ho.see he hS;obtain ⟨O1,O3,b',aA,e1,e2,e3,e4,e5,e6⟩:=focus hR hb aM hg
 obtain ⟨cd,dm⟩:=C8 hl;rw [I2 he] at cd;rw [e3] at cd; cases cd;have cq:(O1++O3).Nodup:=(e1.nodup_iff).1 ((hO.nodup_iff).2 (aAs.1 aJ).2);have bn:∀ c∈O1,c∈ι.own i:=λ c hc=>hO.mem_iff.1 (e1.mem_iff.2 (by simp [hc]));have cK:∀ c∈O3,c∈ι.own i:=λ c hc=>hO.mem_iff.1 (e1.mem_iff.2 (by simp [hc]));have bI:=(aAs.1 aJ).1;have de:∀ c∈ι.own i,c∈l7 ι i e:=by intro c hc; cases e<;>simp [l7,hc]
 have kJ:¬ S (VR H ι i e).1:=by
  rcases gi with h|⟨t,x,rfl⟩
  ·exact h
  ·exact (bO _ (by simp [l7,VR])).1
 have iq:g9 (VH H' ι i e) S u' O2 (e8 (VH H' ι i e) b off u'.size) z:=by
  rw [l6 (G4 (by omega))];exact (wx (λ c hc=>by have:=(eR c hc).1; omega) (λ c hc=>by have:=hS c hc; omega)).2 hz
 have oB:∀ c∈O2,c∈l7 ι i e->c∈O3:=by
  intro c hc cx;obtain ⟨Op,h1,h2⟩:=(eR c hc).2 cx;have e4':g9 H S u O3 (e8 H b off u.size) y:=by
   rw [l6 (G4 dm)] at e4;exact (wx (λ c hc=>ho.U5 he (cK c hc)) hS).1 e4
  rwa [h1.det e4'] at h2
 obtain ⟨O4,f1,f2,f3⟩:=Ca e2 hg e3 hb bf (aAg.1 cq).1 (λ h=>bI (bn _ h)) (λ c hc=>⟨(bO c (de c (bn c hc))).1,aAr (bO c (de c (bn c hc))).2 xq⟩) kJ
  (λ c hc=>aAr (hS c hc) xq) (λ _ h=>h) (BB hc aW) iq aK
 have gX:O4.Nodup:=(f1.nodup_iff).2 (aAg.2 ⟨(aAg.1 cq).1,cY,by
  rintro c h1 d h2 rfl;exact (aAg.1 cq).2.2 c h1 c (oB c h2 (de c (bn c h1))) rfl⟩)
 have bU:∀ c∈O4,c∈ι.own i\/c∈O2:=by
  intro c hc;rcases aAi.1 (f1.mem_iff.1 hc) with h|h
  ·exact .inl (bn c h)
  ·exact .inr h
 have kS:∀ c∈O4,c<H'.size:=by
  intro c hc;rw [aW];rcases bU c hc with h|h
  ·exact ho.U5 he h
  ·exact (eR c h).1
 have f2':=(wx kS (λ c hc=>by have:=hS c hc; omega)).1 f2;have pD:∀ c∈O4,c∈O2\/∀ Op,g9 H S u Op (e8 H b off u.size) y->c∉Op:=by
  intro c hc;rcases aAi.1 (f1.mem_iff.1 hc) with h|h
  ·refine .inr (λ Op gJ qs=>?_)
   have e4':g9 H S u O3 (e8 H b off u.size) y:=by
    rw [l6 (G4 dm)] at e4;exact (wx (λ c hc=>ho.U5 he (cK c hc)) hS).1 e4
   obtain rfl:Op=O3:=gJ.det e4';exact (aAg.1 cq).2.2 c h c qs rfl
  ·exact .inl h
 refine ⟨O4,bU,?_,f3,pD⟩;cases e with
 | var t x =>
  simp only [i6.E3,OB,Ix.C6,if_true];obtain ⟨_,hf,_⟩:=ho;refine ⟨⟨O4,aFg _,f2'⟩,?_,?_⟩
  ·rw [F9 f3]; exact hc.free hf
  ·refine aAs.2 ⟨λ h=>?_,gX⟩
   rcases bU _ h with h1|h1
   ·exact bI h1
   ·exact bI (cK _ (oB _ h1 (aBp ..)))
 | own t x =>
  simp only [i6.E3,OB,Ix.C6,if_true];refine ⟨⟨O4,aFg _,?_⟩,gX⟩;obtain ⟨⟨O',_,fE⟩,_⟩:=ho;have jo:r.1.size=t.size:=F9 f3;have:e8 (VH H' ι i (.own t x)) (VR H ι i (.own t x)).1 (VR H ι i (.own t x)).2 r.1.size=ι.cells i:=by
   simp only [VH,VR];rw [<- aW];simp only [e8,wH,aCb];exact aAu (by rw [fE.length,jo]; exact aAj _)
  rw [this] at f2';exact f2'
 | M0=>exact absurd rfl he
theorem Ya {i:Nat} {e:i6} (he:e≠.M0) (ho:OB H S ι i e) (bO:∀ c∈l7 ι i e,¬ S c/\c<H.size) (hS:∀ c,S c->c<H.size) {p:List Step} (aM:x8 e.ty e.x p) {u:Ty} {y:u.den} (hg:j9 e.ty e.x p=some ⟨u,y⟩)
  {b off:Nat} (hl:Loc H ι i e p=some (b,off)) {u':Ty} {z:u'.den} (hc:X1 H H' b off u.size) (aW:H'.size=H.size) {r:Sigma Ty.den} (aK:u6 e.ty e.x p u' z=some r)
  {q:List Step} (hk:kp p q=true) (hq:x8 e.ty e.x q) (O:List Nat) {rr:Nat×Nat} (hr:Loc H ι i e q=some rr):Loc H' (ι.C6 i O) i (e.E3 r) q=some rr/\x8 (e.E3 r).ty (e.E3 r).x q:=by
 obtain ⟨O',hO,hR,hb,aJ,bf,gi,dV⟩:=ho.see he hS;obtain ⟨O1,O3,b',aA,e1,e2,e3,e4,e5,e6⟩:=focus hR hb aM hg
 obtain ⟨cd,dm⟩:=C8 hl;rw [I2 he] at cd;rw [e3] at cd; cases cd;have cq:(O1++O3).Nodup:=(e1.nodup_iff).1 ((hO.nodup_iff).2 (aAs.1 aJ).2);have bn:∀ c∈O1,c∈ι.own i:=λ c hc=>hO.mem_iff.1 (e1.mem_iff.2 (by simp [hc]));have key:=Qq e2 hg e3 hb bf (aAg.1 cq).1 (λ h=>(aAs.1 aJ).1 (bn _ h)) (λ c hc=>aAr (ho.U5 he (bn c hc)) xq) (BB hc aW) aK hk hq;obtain ⟨lK,mm⟩:=C8 (b:=rr.1) (off:=rr.2) hr;rw [I2 he] at lK;have hu:x8 (e.E3 r).ty (e.E3 r).x q:=by
  cases e<;>first|exact key.2|exact absurd rfl he
 refine ⟨wv (b:=rr.1) (off:=rr.2) ?_ (by omega),hu⟩;rw [I2 (OA he),Ir (ι:=ι) (ι':=ι.C6 i O) rfl,Nc (ι:=ι) (ι':=ι.C6 i O) rfl,NX aW,NA he,key.1];exact lK
theorem c3p {i:Nat} {e:i6} (he:e≠.M0) (ho:OB H S ι i e) (bO:∀ c∈l7 ι i e,¬ S c/\c<H.size) (hS:∀ c,S c->c<H.size) {p:List Step} (aM:x8 e.ty e.x p) {u:Ty} {y:u.den} (hg:j9 e.ty e.x p=some ⟨u,y⟩)
  {b off:Nat} (hl:Loc H ι i e p=some (b,off)) {u':Ty} {z:u'.den} (hc:X1 H H' b off u.size) (aW:H'.size=H.size) {r:Sigma Ty.den} (aK:u6 e.ty e.x p u' z=some r)
  {q:List Step} (hk:kc e.ty p q=true) (eW:kp p q=true) (hq:x8 e.ty e.x q) (O:List Nat) {u1:Ty} {y1:u1.den} (dq:j9 e.ty e.x q=some ⟨u1,y1⟩) {cs:List Value} (hcs:Cells H ι i e q u1 cs) :
  x8 (e.E3 r).ty (e.E3 r).x q/\(∃ y2:u1.den,j9 (e.E3 r).ty (e.E3 r).x q=some ⟨u1,y2⟩)/\Cells H' (ι.C6 i O) i (e.E3 r) q u1 cs:=by
 obtain ⟨O',hO,hR,hb,aJ,bf,gi,dV⟩:=ho.see he hS;obtain ⟨O1,O3,b',aA,e1,e2,e3,e4,e5,e6⟩:=focus hR hb aM hg
 obtain ⟨cd,dm⟩:=C8 hl;rw [I2 he] at cd;rw [e3] at cd; cases cd;have cq:(O1++O3).Nodup:=(e1.nodup_iff).1 ((hO.nodup_iff).2 (aAs.1 aJ).2);have bn:∀ c∈O1,c∈ι.own i:=λ c hc=>hO.mem_iff.1 (e1.mem_iff.2 (by simp [hc]));have cF:=λ h=>(aAs.1 aJ).1 (bn _ h);have iX:∀ c∈O1,c<(VH H ι i e).size:=λ c hc=>aAr (ho.U5 he (bn c hc)) xq;have key:=Qq e2 hg e3 hb bf (aAg.1 cq).1 cF iX (BB hc aW) aK eW hq;obtain ⟨⟨y2,nO⟩,key2⟩:=c2g e2 hg e3 hb bf (aAg.1 cq).1 cF iX (BB hc aW) aK hk hq dq;obtain ⟨b1,o1,mz,dJ⟩:=hcs;rw [I2 he] at mz;have il:=key2 b1 o1 mz;refine ⟨?_,⟨y2,?_⟩,b1,o1,?_,?_⟩
 ·cases e<;>first|exact key.2|exact absurd rfl he
 ·cases e<;>first|exact nO|exact absurd rfl he
 ·rw [I2 (OA he),Ir (ι:=ι) (ι':=ι.C6 i O) rfl,Nc (ι:=ι) (ι':=ι.C6 i O) rfl,NX aW,NA he,key.1]
  exact mz
 ·rw [Ir (ι:=ι) (ι':=ι.C6 i O) rfl,il]
  exact dJ
end
end Go.Ex
namespace Go.Ex
section
variable {E:Env} {B:E6} {S:Nat->Prop} {ι:Ix} {s:St} {a:Act} {w:World} {hp:List (Nat×i6)} {H H':Array Go.Obj}
theorem CA:∀ {t:Ty} {x:t.den} {p:List Step} {u:Ty} {y:u.den} {u':Ty} {z:u'.den} {r:Sigma Ty.den},j9 t x p=some ⟨u,y⟩->u6 t x p u' z=some r->u'.sh=u.sh:=by
 intro t
 induction t with
 | pair a c iha ihc =>
  intro x p u y u' z r hg hs
  match p,hg,hs with
  | [],hg,hs =>
   simp only [j9,aAc] at hg; cases hg;simp only [u6] at hs;split at hs
   ·rename_i e; exact e
   ·cases hs
  | .l8 0::p,hg,hs =>
   simp only [u6] at hs;split at hs
   ·rename_i t' w hw; exact iha hg hw
   ·cases hs
  | .l8 (n+1)::p,hg,hs =>
   simp only [u6] at hs;split at hs
   ·rename_i t' w hw; exact ihc hg hw
   ·cases hs
  | .idx i::p,_,hs=>simp [u6] at hs
 | arr n t ih =>
  intro x p u y u' z r hg hs
  match p,hg,hs with
  | [],hg,hs =>
   simp only [j9,aAc] at hg; cases hg;simp only [u6] at hs;split at hs
   ·rename_i e; exact e
   ·cases hs
  | .idx i::p,hg,hs =>
   simp only [u6] at hs;split at hs
   ·rename_i t' w hw; exact ih hg hw
   ·cases hs
  | .l8 i::p,_,hs=>simp [u6] at hs
 | d0 o t ih =>
  intro x p u y u' z r hg hs
  match p,hg,hs with
  | [],hg,hs =>
   have hg:some (⟨.d0 o t,x⟩:Sigma Ty.den)=some ⟨u,y⟩:=by cases o<;>exact hg
   cases hg;have hs:(if u'.sh=(Ty.d0 o t).sh then some (⟨u',z⟩:Sigma Ty.den) else none)=some r:=by cases o<;>exact hs
   split at hs
   ·rename_i e; exact e
   ·cases hs
  | .idx i::p,hg,hs =>
   cases o with
   | false=>simp [u6] at hs
   | true =>
    simp only [u6] at hs;split at hs
    ·rename_i t' w hw; exact ih hg hw
    ·cases hs
  | .l8 i::p,_,hs=>cases o<;>simp [u6] at hs
 | _ =>
  intro x p u y u' z r hg hs
  match p,hg,hs with
  | [],hg,hs =>
   simp only [j9,aAc] at hg; cases hg;simp only [u6] at hs;split at hs
   ·rename_i e; exact e
   ·cases hs
  | .idx i::p,_,hs=>simp [u6] at hs
  | .l8 i::p,_,hs=>simp [u6] at hs
theorem RS.Ef (h:RS B S ι s a w) {i:Nat} {e:i6} (he:look i s.hp=some e) {p:List Step} (aM:x8 e.ty e.x p) {u:Ty} {y:u.den} (hg:j9 e.ty e.x p=some ⟨u,y⟩) {b off:Nat} (hl:Loc w.heap ι i e p=some (b,off))
  {u':Ty} {z:u'.den} {cs:List Value} {O2:List Nat} (hz:∀ H',H'.size=w.heap.size->X1 w.heap H' b off u.size->g9 H' S u' O2 cs z) (hcs:cs.length=u.size) (cY:O2.Nodup)
  (eR:∀ c∈O2,(¬ S c/\(B.w0.heap.size<=c\/B.M c)/\c<w.heap.size)/\(∀ j ej,j≠i->look j s.hp=some ej->c∉l7 ι j ej)/\(c∈l7 ι i e->∃ Op,g9 w.heap S u Op (e8 w.heap b off u.size) y/\c∈Op))
  {r:Sigma Ty.den} (aK:u6 e.ty e.x p u' z=some r) (dd:e.vB=true->p≠[]->r.1=e.ty) :
  ∃ ι',(∃ O,ι'=ι.C6 i O/\∀ c∈O,(c∈ι.own i\/c∈O2)/\(c∈O2\/∀ Op,g9 w.heap S u Op (e8 w.heap b off u.size) y->c∉Op))/\RS B S ι' ((s.kill i e.kd p).w8 i (e.E3 r)) a (w.setRow b (over (w6 w.heap b) off cs).toArray):=by
 have cF:=K9 hl;obtain ⟨Op,m1,mn,m2,m3,m4,m5⟩:=N5 cF (h.hs.ob i e he) h.hs.slt aM hg hl;have hf:P5 w.heap b (off+cs.length):=by rw [hcs]; exact m5
 obtain ⟨hc,bN⟩:=Fb hf;rw [hcs] at hc bN;have aW:(w.setRow b (over (w6 w.heap b) off cs).toArray).heap.size=w.heap.size:=setRow_size;generalize gN:w.setRow b (over (w6 w.heap b) off cs).toArray=w' at *
 have bO:=h.hs.bl i e he;have fY:∀ c∈l7 ι i e,¬ S c/\c<w.heap.size:=λ c hc=>⟨(bO c hc).1,(bO c hc).2.2⟩;have gY:¬ S b:=(bO b m4).1;have hold:∀ c,c≠b->w'.heap[c]?=w.heap[c]?:=by intro c cx; rw [<- gN]; exact setRow_other cx
 have jl:u'.size=u.size:=F9 (CA hg aK);have iq:g9 w'.heap S u' O2 (e8 w'.heap b off u'.size) z:=by
  rw [jl,bN];exact hz w'.heap aW hc
 obtain ⟨O,n1,n2,n3,n4⟩:=OB.E3 cF (h.hs.ob i e he) fY h.hs.slt aM hg hl hc aW iq (λ c hc=>⟨(eR c hc).1.2.2,(eR c hc).2.2⟩) cY aK;have de:∀ c∈ι.own i,c∈l7 ι i e:=by intro c hc; cases e<;>simp [l7,hc]
 have ny:∀ c∈l7 (ι.C6 i O) i (e.E3 r),c∈l7 ι i e\/c∈O2:=by
  intro c hc;cases e with
  | var t x =>
   simp only [l7,i6.E3,Ix.C6,if_true,aAp] at hc ⊢;rcases hc with hc|hc
   ·exact .inl (.inl hc)
   ·exact (n1 c hc).imp .inr id
  | own t x =>
   simp only [l7,i6.E3,Ix.C6,if_true] at hc ⊢;exact n1 c hc
  | M0=>exact absurd rfl cF
 have iM:∀ c∈l7 (ι.C6 i O) i (e.E3 r),(¬ S c/\(B.w0.heap.size<=c\/B.M c)/\c<w.heap.size)/\∀ j ej,j≠i->look j s.hp=some ej->c∉l7 ι j ej:=by
  intro c hc;rcases ny c hc with h1|h1
  ·exact ⟨bO c h1,λ j ej hj di=>h.hs.dj i j e ej he di (Ne.symm hj) c h1⟩
  ·exact ⟨(eR c h1).1,(eR c h1).2.1⟩
 have bm:∀ j,j≠i->F0 ι (ι.C6 i O) j:=λ j hj=>X6 hj _;refine ⟨ι.C6 i O,⟨O,rfl,λ c hc=>⟨n1 c hc,n4 c hc⟩⟩,⟨?_,?_,?_,?_,?_,?_,h.hs.s0,h.hs.s1,?_,?_,?_,?_⟩,h.dfr,h.sz,?_⟩
 ·rw [<- gN]; exact h.hs.os
 ·exact W8.trans (.of (by rw [<- gN]; rfl) (by rw [<- gN]; rfl)) h.hs.tape
 ·rw [<- gN]; exact h.hs.out
 ·rw [aW]; exact h.hs.size
 ·intro c dJ hm
  rw [hold c (by rintro rfl; rcases (bO c m4).2.1 with h|h; omega; exact hm h)];exact h.hs.frame c dJ hm
 ·intro c dJ; rw [aW]; exact h.hs.slt c dJ
 ·intro j ej hj
  simp only [St.w8,o7] at hj;by_cases e1:j=i
  ·subst e1; rw [if_pos rfl] at hj; cases hj; exact n2
  ·rw [if_neg e1] at hj
   have hj:look j s.hp=some ej:=hj;refine (bm j e1).ob.2 ((h.hs.ob j ej hj).u5 (λ c dY=>hold c ?_) (λ _ h=>h));rintro rfl;rcases dY with dY|dY
   ·exact h.hs.dj j i ej e hj he e1 c dY m4
   ·exact gY dY
 ·intro j ej hj c hc
  simp only [St.w8,o7] at hj;rw [aW];by_cases e1:j=i
  ·subst e1; rw [if_pos rfl] at hj; cases hj; exact (iM c hc).1
  ·rw [if_neg e1] at hj
   rw [(bm j e1).l7] at hc;exact h.hs.bl j ej hj c hc
 ·intro j k ej ek hj hk fB c hc
  simp only [St.w8,o7] at hj hk;by_cases e1:j=i
  ·subst e1
   rw [if_pos rfl] at hj; cases hj;rw [if_neg (Ne.symm fB)] at hk;rw [(bm k (Ne.symm fB)).l7];exact (iM c hc).2 k ek (Ne.symm fB) hk
  ·rw [if_neg e1] at hj
   rw [(bm j e1).l7] at hc;by_cases e2:k=i
   ·subst e2
    rw [if_pos rfl] at hk; cases hk;exact λ cU=>(iM c cU).2 j ej e1 hj hc
   ·rw [if_neg e2] at hk
    rw [(bm k e2).l7];exact h.hs.dj j k ej ek hj hk fB c hc
 ·intro q hq
  obtain ⟨k0,⟨e',k1⟩,k2,k3⟩:=h.hs.pin q hq;refine ⟨k0,?_,k2,k3⟩;simp only [St.w8,o7];by_cases e1:q.1=i
  ·exact ⟨_,by rw [if_pos e1]⟩
  ·exact ⟨e',by rw [if_neg e1]; exact k1⟩
 ·intro t v hv
  simp only [St.w8,St.kill,P9,aCl] at hv;obtain ⟨v0,eY,rfl⟩:=hv;refine VX.map (λ c hc=>hold c (λ e=>gY (e▸hc))) (λ _ h=>h) (λ v vs hr hm dv=>?_) (h.fr t v0 eY);unfold AV.Bm;cases bZ:v.i8 i with
  | false =>
   have bt:∀ j,v.i8 j=true->j≠i:=by rintro j hj rfl; rw [bZ] at hj; cases hj
   have bQ:VX w'.heap S ι (del i s.hp) v vs:=by
    refine VX.grow (λ c dY=>hold c ?_) (λ _ h=>h) h.hs.slt (λ j ej hj=>?_) (VX.other (cE:=del i s.hp) (λ j hj=>by rw [L8,if_neg (bt j hj)]) (λ j _=>F0.refl ι j) dv)
    ·rintro rfl
     rcases dY with ⟨j,ej,hj,gR⟩|dY
     ·rw [L8] at hj
      split at hj
      ·cases hj
      ·rename_i dG
       exact h.hs.dj j i ej e hj he dG c gR m4
     ·exact gY dY
    ·rw [L8] at hj
     split at hj
     ·cases hj
     ·exact h.hs.ob j ej hj
   exact VX.other (λ j hj=>by simp only [St.w8,o7,L8,if_neg (bt j hj)]; rfl) (λ j hj=>bm j (bt j hj)) bQ
  | true =>
   have dn:∀ {vs:List Value},(∃ x,vs=[x])->VX w'.heap S (ι.C6 i O) ((s.kill i e.kd p).w8 i (e.E3 r)).hp .any vs:=λ h=>h;have cA:=VX.one hr dv;simp only;cases v<;>simp only [AV.ref] at hr<;>try cases hr
   ·rename_i j q
    have dG:i=j:=aAd bZ;subst dG;cases mV:kp p q with
    | false=>simp only [mV]; exact cA
    | true =>
     simp only [mV];obtain ⟨ej,b2,off2,k1,k2,k3,k4⟩:=dv;rw [he] at k1; cases k1;obtain ⟨l1,l2⟩:=Ya cF (h.hs.ob i e he) fY h.hs.slt aM hg hl hc aW aK mV k2 O k3;exact ⟨e.E3 r,b2,off2,by simp [St.w8,o7],l2,l1,k4⟩
   ·rename_i j q
    have dG:i=j:=aAd bZ;subst dG;have kh:kc e.ty p q=true->kp p q=true->VX w'.heap S (ι.C6 i O) ((s.kill i e.kd p).w8 i (e.E3 r)).hp (.at_ i q) vs:=by
     intro jB eW;obtain ⟨ej,u2,y2,cs2,k1,k2,k3,k4,k5⟩:=dv;rw [he] at k1; cases k1;obtain ⟨l1,⟨y3,l2⟩,l3⟩:=c3p cF (h.hs.ob i e he) fY h.hs.slt aM hg hl hc aW aK jB eW k2 O k3 k4;exact ⟨e.E3 r,u2,y3,cs2,by simp [St.w8,o7],l1,l2,l3,k5⟩
    cases q with
    | cons st q =>
     cases kW:kc e.kd.2 p (st::q) && kp p (st::q) with
     | false=>simp only [kW]; exact cA
     | true =>
      simp only [kW];rw [aAa] at kW;exact kh kW.1 kW.2
    | nil =>
     have np:VX w'.heap S (ι.C6 i O) ((s.kill i e.kd p).w8 i (e.E3 r)).hp (match kc e.kd.2 p [] with|true=>AV.at_ i []|false=>AV.any) vs:=by
      cases kW:kc e.kd.2 p [] with
      | false=>exact cA
      | true=>exact kh kW (by cases p<;>rfl)
     rcases lL:p with _|⟨_|jx,pq⟩<;>cases bC:e.vB<;>simp only [i6.kd,bC]<;>first|(rw [lL] at np; exact np)|skip
     ·obtain ⟨ej,u2,y2,cs2,k1,k2,k3,k4,k5⟩:=dv
      rw [he] at k1; cases k1;have iV:=dd bC (by rw [lL]; simp);rw [C1] at k3; cases k3;obtain ⟨t0,x0,rfl⟩:∃ t0 x0,e=.own t0 x0:=by cases e<;>first|exact ⟨_,_,rfl⟩|(simp [i6.vB] at bC)
      obtain ⟨⟨O',_,fE⟩,_⟩:=h.hs.ob i _ he;have dW:=U4 k4 fE.length;have iV:r.1=t0:=iV;refine ⟨.own r.1 r.2,r.1,r.2,cs2,by simp [St.w8,o7,i6.E3],O6,C1,AO (by rw [dW]; rfl) (by rw [dW,fE.length,iV]),?_⟩;rw [k5];simp only [i6.ty,iV]
   ·rename_i j q lo hi
    have dG:i=j:=aAd bZ;subst dG;cases q with
    | cons st q=>exact cA
    | nil =>
     rcases lL:p with _|⟨_|jx,pq⟩<;>cases bC:e.vB<;>simp only [i6.kd,bC]<;>first|exact cA|skip
     ·obtain ⟨ej,v2,k1,k2,k3,k4,k5,k6⟩:=dv
      rw [he] at k1; cases k1;have iV:=dd bC (by rw [lL]; simp);obtain ⟨t0,x0,rfl⟩:∃ t0 x0,e=.own t0 x0:=by cases e<;>first|exact ⟨_,_,rfl⟩|(simp [i6.vB] at bC)
      obtain ⟨⟨O',_,fE⟩,_⟩:=h.hs.ob i _ he;have iV:r.1=t0:=iV;rcases k6 with ⟨t',l,a',cap,g1,g2,g3,g4⟩|⟨n,t',l,b2,off2,g1,g2,g3,g4⟩
      ·rw [C1] at g1; cases g1
       obtain ⟨rt,rx⟩:=r;have iV:rt=.d0 true t':=iV;subst iV;have dW:=U4 g3 fE.length;have hlen:List.length (rx:(Ty.d0 true t').den)=List.length (x0:(Ty.d0 true t').den):=by
        obtain ⟨⟨O'',_,iS⟩,_⟩:=n2;have cU:(ι.C6 i O).cells i=[.slice a' (List.length (x0:(Ty.d0 true t').den)) cap]:=(show ι.cells i=_ from dW.symm);rw [cU] at iS;rcases iS with ⟨_,⟨a2,c2,h1,_⟩,h3⟩|⟨b3,o3,cap3,O3,c1,_⟩
        ·simp only [aBa,Value.slice.injEq,and_true] at h1
         subst h3;simp [h1.2.1]
        ·simp only [aBa,Value.slice.injEq,and_true] at c1
         exact c1.2.1.symm
       refine ⟨.own (.d0 true t') rx,v2,by simp [St.w8,o7,i6.E3],O6,k3,k4,k5,.inl ⟨t',rx,a',cap,C1,by rw [hlen]; exact g2,?_,g4⟩⟩;rw [hlen];exact AO (show ι.cells i=_ from dW.symm) rfl
      ·exfalso
       simp only [Loc,Place,y9,VR] at g3;simp at g3
theorem RS.store (h:RS B S ι s a w) {i:Nat} {e:i6} (he:look i s.hp=some e) {p:List Step} (aM:x8 e.ty e.x p) {u:Ty} {y:u.den} (hg:j9 e.ty e.x p=some ⟨u,y⟩) {b off:Nat} (hl:Loc w.heap ι i e p=some (b,off))
  {u':Ty} {z:u'.den} {cs:List Value} {O2:List Nat} (hz:∀ H',H'.size=w.heap.size->X1 w.heap H' b off u.size->g9 H' S u' O2 cs z) (hcs:cs.length=u.size) (cY:O2.Nodup)
  (eR:∀ c∈O2,(¬ S c/\(B.w0.heap.size<=c\/B.M c)/\c<w.heap.size)/\(∀ j ej,j≠i->look j s.hp=some ej->c∉l7 ι j ej)/\(c∈l7 ι i e->∃ Op,g9 w.heap S u Op (e8 w.heap b off u.size) y/\c∈Op))
  {r:Sigma Ty.den} (aK:u6 e.ty e.x p u' z=some r) (dd:e.vB=true->p≠[]->r.1=e.ty) :
  ∃ ι',RS B S ι' ((s.kill i e.kd p).w8 i (e.E3 r)) a (w.setRow b (over (w6 w.heap b) off cs).toArray):=by
 obtain ⟨ι',_,h1⟩:=h.Ef he aM hg hl hz hcs cY eR aK dd;exact ⟨ι',h1⟩
end
end Go.Ex
namespace Go.Ex
section
variable {E:Env} {B:E6} {S:Nat->Prop} {ι:Ix} {s:St} {a:Act} {w:World} {hp:List (Nat×i6)} {H H':Array Go.Obj}
theorem c2I:∀ {t:Ty} {x:t.den} {p q:List Step} {b off:Nat} {u:Ty} {y:u.den},j9 t x p=some ⟨u,y⟩->y8 H t (p++q) b off=(y8 H t p b off).bind λ r=>y8 H u q r.1 r.2:=by
 intro t
 induction t with
 | pair a c iha ihc =>
  intro x p q b off u y h
  match p,h with
  | [],h=>simp only [j9,aAc] at h; cases h; rfl
  | .l8 0::p,h=>exact iha h
  | .l8 (n+1)::p,h=>exact ihc h
  | .idx i::p,h=>simp [j9] at h
 | arr n t ih =>
  intro x p q b off u y h
  match p,h with
  | [],h=>simp only [j9,aAc] at h; cases h; rfl
  | .idx i::p,h=>exact ih h
  | .l8 i::p,h=>simp [j9] at h
 | d0 o t ih =>
  intro x p q b off u y h
  match p,h with
  | [],h =>
   have h:some (⟨.d0 o t,x⟩:Sigma Ty.den)=some ⟨u,y⟩:=by cases o<;>exact h
   cases h;have:y8 H (.d0 o t) [] b off=some (b,off):=by cases o<;>rfl
   rw [this]; rfl
  | .idx i::p,h =>
   cases o with
   | false=>simp [j9] at h
   | true =>
    simp only [aCv,y8]
    split
    ·exact ih h
    ·rfl
  | .l8 i::p,h=>cases o<;>simp [j9] at h
 | _ =>
  intro x p q b off u y h
  match p,h with
  | [],h=>simp only [j9,aAc] at h; cases h; rfl
  | .idx i::p,h=>simp [j9] at h
  | .l8 i::p,h=>simp [j9] at h
theorem X7:∀ {t:Ty} {x:t.den} {p q:List Step} {u:Ty} {y:u.den},j9 t x p=some ⟨u,y⟩->x8 t x p->x8 u y q->x8 t x (p++q):=by
 intro t
 induction t with
 | pair a c iha ihc =>
  intro x p q u y h h1 h2
  match p,h,h1 with
  | [],h,_=>simp only [j9,aAc] at h; cases h; exact h2
  | .l8 0::p,h,h1=>exact iha h h1 h2
  | .l8 (n+1)::p,h,h1=>exact ihc h h1 h2
  | .idx i::p,h,_=>simp [j9] at h
 | arr n t ih =>
  intro x p q u y h h1 h2
  match p,h,h1 with
  | [],h,_=>simp only [j9,aAc] at h; cases h; exact h2
  | .idx i::p,h,h1=>exact ⟨h1.1,ih h h1.2 h2⟩
  | .l8 i::p,h,_=>simp [j9] at h
 | d0 o t ih =>
  intro x p q u y h h1 h2
  match p,h,h1 with
  | [],h,_ =>
   have h:some (⟨.d0 o t,x⟩:Sigma Ty.den)=some ⟨u,y⟩:=by cases o<;>exact h
   cases h; exact h2
  | .idx i::p,h,h1 =>
   cases o with
   | false=>simp [j9] at h
   | true=>exact ⟨h1.1,ih h h1.2 h2⟩
  | .l8 i::p,h,_=>cases o<;>simp [j9] at h
 | _ =>
  intro x p q u y h h1 h2
  match p,h,h1 with
  | [],h,_=>simp only [j9,aAc] at h; cases h; exact h2
  | .idx i::p,h,_=>simp [j9] at h
  | .l8 i::p,h,_=>simp [j9] at h
theorem AR {i:Nat} {e:i6} {p q:List Step} {u:Ty} {y:u.den} (hg:j9 e.ty e.x p=some ⟨u,y⟩) {b off:Nat} (hl:Place H ι i e p=some (b,off)) {r:Nat×Nat} (hn:y8 (VH H ι i e) u q b off=some r) :
  Place H ι i e (p++q)=some r:=by
 have he:=Kp hl;rw [I2 he] at hl ⊢;rw [c2I hg,hl]; exact hn
theorem CE {i:Nat} {e:i6} {p q:List Step} {u:Ty} {y:u.den} (hg:j9 e.ty e.x p=some ⟨u,y⟩) {b off:Nat} (hl:Loc H ι i e p=some (b,off)) {aA:Nat} (hn:∀ G:Array Go.Obj,y8 G u q b off=some (b,aA)) :
  Loc H ι i e (p++q)=some (b,aA):=by
 obtain ⟨h1,h2⟩:=C8 hl;exact wv (AR hg h1 (hn _)) h2
def S9:Ty->Nat->Nat
 | .pair _ _,0=>0
 | .pair a b,n+1=>a.size+S9 b n
 | _,_=>0
theorem yH:∀ {t:Ty} {x:t.den} {n:Nat} {u:Ty} {z:u.den} {b off:Nat},j9 t x [.l8 n]=some ⟨u,z⟩->y8 H t [.l8 n] b off=some (b,off+S9 t n):=by
 intro t
 induction t with
 | pair a c _ ihc =>
  intro x n u z b off h
  match n,h with
  | 0,h=>cases a<;>rfl
  | n+1,h =>
   have:=ihc (x:=x.2) (b:=b) (off:=off+a.size) h;simp only [y8,S9] at this ⊢;rw [this,aBk]
 | d0 o t _=>intro x n u z b off h; cases o<;>simp [j9] at h
 | _=>intro x n u z b off h; simp [j9] at h
theorem yx:∀ {t:Ty} {x:t.den} {n:Nat} {u:Ty} {z:u.den},j9 t x [.l8 n]=some ⟨u,z⟩->x8 t x [.l8 n]:=by
 intro t
 induction t with
 | pair a c _ ihc =>
  intro x n u z h
  match n,h with
  | 0,h=>cases a<;>trivial
  | n+1,h=>exact ihc (x:=x.2) h
 | d0 o t _=>intro x n u z h; cases o<;>simp [j9] at h
 | _=>intro x n u z h; simp [j9] at h
theorem Zh {P:Program} {k:Nat}:∀ {t:Ty} {x:t.den} {n:Nat} {u:Ty} {z:u.den} {fs:List Field} {o:Nat},n6 (o8 P k) fs o t=true->j9 t x [.l8 n]=some ⟨u,z⟩ ->
  ∃ f,fs[n]?=some f/\f.offset=o+S9 t n/\1<=u.size/\o8 P k f.type u=true:=by
 intro t
 induction t with
 | pair a c _ ihc =>
  intro x n u z fs o h hg;cases fs with
  | nil=>simp [n6] at h
  | cons f fs =>
   simp only [n6,aAa] at h;obtain ⟨⟨⟨⟨h1,h2⟩,h3⟩,_⟩,h4⟩:=h
   match n,hg with
   | 0,hg =>
    have hg:some (⟨a,x.1⟩:Sigma Ty.den)=some ⟨u,z⟩:=by
     rw [<- hg]; simp only [j9]
    cases hg;exact ⟨f,rfl,aAd h1,aCy h2,h3⟩
   | n+1,hg =>
    obtain ⟨g,e1,e2,e3,e4⟩:=ihc (x:=x.2) h4 hg;exact ⟨g,by simpa using e1,by rw [e2]; simp only [S9]; omega,e3,e4⟩
 | d0 o t _=>intro x n u z fs o' h hg; cases o<;>simp [j9] at hg
 | _=>intro x n u z fs o h hg; simp [j9] at hg
theorem LH {P:Program} {k:Nat} {T:TypeId} {t:Ty} {x:t.den} {n:Nat} {u:Ty} {z:u.den} (h:o8 P k T t=true) (hg:j9 t x [.l8 n]=some ⟨u,z⟩) :
  ∃ fs f k',P.underlying T=some (.struct fs)/\fs[n]?=some f/\f.offset=S9 t n/\1<=u.size/\o8 P k' f.type u=true:=by
 cases k with
 | zero=>simp [o8] at h
 | succ k =>
  obtain ⟨d,h1,h2⟩:=R8 h;simp only [o8,aAa,h1] at h;obtain ⟨_,h⟩:=h;cases t with
  | pair a c =>
   cases d<;>first|(exact (aAy h).elim)|skip
   rename_i fs;have h:n6 (o8 P k) fs.toList 0 (.pair a c)=true:=h;obtain ⟨f,e1,e2,e3,e4⟩:=Zh h hg;exact ⟨fs,f,k,h1,by simpa using e1,by simpa using e2,e3,e4⟩
  | d0 o t=>cases o<;>simp [j9] at hg
  | _=>simp [j9] at hg
theorem AS {P:Program} {k:Nat} {T:TypeId} {t:Ty} {x:t.den} {n:Nat} {u:Ty} {z:u.den} (h:o8 P k T t=true) (hg:j9 t x [.l8 n]=some ⟨u,z⟩) (b off:Nat) :
  (Instr.fieldAt T (.pointer (some ⟨b,off,none⟩)) n).run P w=.ok (.pointer (some ⟨b,off+S9 t n,none⟩)) w:=by
 obtain ⟨fs,f,k',h1,h2,h3,h4,h5⟩:=LH h hg;have:¬ u.size=0:=by omega
 simp [Instr.fieldAt,p9 h1,h2,Instr.sureAddr,fieldPlace,run_sizeOf h5,this,h3,Addr.I1]
theorem Y0 {P:Program} {k:Nat} {T:TypeId} {m:Nat} {t:Ty} (h:o8 P k T (.arr m t)=true):∃ e k',P.underlying T=some (.array m e)/\1<=t.size/\o8 P k' e t=true:=by
 cases k with
 | zero=>simp [o8] at h
 | succ k =>
  obtain ⟨d,h1,h2⟩:=R8 h;simp only [o8,aAa,h1] at h;obtain ⟨_,h⟩:=h;cases d<;>first|(exact (aAy h).elim)|skip
  ·simp only [aAa] at h
   rw [aAd h.1.1] at h1;exact ⟨_,k,h1,aCy h.1.2,h.2⟩
  ·rename_i fs
   have h:n6 (o8 P k) fs.toList 0 (.arr m t)=true:=h;cases hf:fs.toList<;>(rw [hf] at h; simp [n6] at h)
theorem G5 {P:Program} {k:Nat} {T:TypeId} {o:Bool} {t:Ty} (h:o8 P k T (.d0 o t)=true):∃ e k',P.underlying T=some (.slice e)/\1<=t.size/\o8 P k' e t=true:=by
 cases k with
 | zero=>simp [o8] at h
 | succ k =>
  obtain ⟨d,h1,h2⟩:=R8 h;simp only [o8,aAa,h1] at h;obtain ⟨_,h⟩:=h;cases d<;>first|(exact (aAy h).elim)|skip
  ·simp only [aAa] at h
   exact ⟨_,k,h1,aCy h.1,h.2⟩
  ·rename_i fs
   have h:n6 (o8 P k) fs.toList 0 (.d0 o t)=true:=h;cases hf:fs.toList<;>(rw [hf] at h; simp [n6] at h)
theorem U9 {P:Program} {k:Nat} {T:TypeId} (h:o8 P k T .str=true):P.underlying T=some .string:=by
 cases k with
 | zero=>simp [o8] at h
 | succ k =>
  obtain ⟨d,h1,h2⟩:=R8 h;simp only [o8,aAa,h1] at h;obtain ⟨_,h⟩:=h;cases d<;>first|exact h1|(exact (aAy h).elim)|skip
  ·rename_i fs
   have h:n6 (o8 P k) fs.toList 0 .str=true:=h;cases hf:fs.toList<;>(rw [hf] at h; simp [n6] at h)
theorem Oy {P:Program} {k f:Nat} {T:TypeId} (h:o8 P k T (.fn f)=true):∃ a b c,P.underlying T=some (.func a b c):=by
 cases k with
 | zero=>simp [o8] at h
 | succ k =>
  obtain ⟨d,h1,h2⟩:=R8 h;simp only [o8,aAa,h1] at h;obtain ⟨_,h⟩:=h;cases d<;>first|exact ⟨_,_,_,h1⟩|(exact (aAy h).elim)|skip
  ·rename_i fs
   have h:n6 (o8 P k) fs.toList 0 (.fn f)=true:=h;cases hf:fs.toList<;>(rw [hf] at h; simp [n6] at h)
theorem EF {P:Program} {k:Nat} {T:TypeId} {o:Bool} {a b:Ty} (h:o8 P k T (.map o a b)=true):∃ K V k',P.underlying T=some (.map K V)/\a.shared=true/\b.shared=true/\o8 P k' K a=true/\o8 P k' V b=true:=by
 cases k with
 | zero=>simp [o8] at h
 | succ k =>
  obtain ⟨d,h1,h2⟩:=R8 h;simp only [o8,aAa,h1] at h;obtain ⟨_,h⟩:=h;cases d<;>first|(exact (aAy h).elim)|skip
  ·simp only [aAa] at h
   exact ⟨_,_,k,h1,h.1.1.1,h.1.1.2,h.1.2,h.2⟩
  ·rename_i fs
   have h:n6 (o8 P k) fs.toList 0 (.map o a b)=true:=h;cases hf:fs.toList<;>(rw [hf] at h; simp [n6] at h)
theorem JY {P:Program} {k:Nat} {T:TypeId} {o:Bool} {a:Ty} (h:o8 P k T (.box o none a)=true):∃ e k',P.underlying T=some (.pointer e)/\o8 P k' e a=true:=by
 cases k with
 | zero=>simp [o8] at h
 | succ k =>
  obtain ⟨d,h1,h2⟩:=R8 h;simp only [o8,aAa,h1] at h;obtain ⟨_,h⟩:=h;cases d<;>first|(exact (aAy h).elim)|skip
  ·exact ⟨_,k,h1,h⟩
  ·rename_i fs
   have h:n6 (o8 P k) fs.toList 0 (.box o none a)=true:=h;cases hf:fs.toList<;>(rw [hf] at h; simp [n6] at h)
theorem Sj {P:Program} {k:Nat} {T:TypeId} {o:Bool} {g:Nat} {a:Ty} (h:o8 P k T (.box o (some g) a)=true):∃ p q v,P.underlying T=some (.func p q v):=by
 cases k with
 | zero=>simp [o8] at h
 | succ k =>
  obtain ⟨d,h1,h2⟩:=R8 h;simp only [o8,aAa,h1] at h;obtain ⟨_,h⟩:=h;cases d<;>first|(exact (aAy h).elim)|skip
  ·rename_i fs
   have h:n6 (o8 P k) fs.toList 0 (.box o (some g) a)=true:=h;cases hf:fs.toList<;>(rw [hf] at h; simp [n6] at h)
  ·exact ⟨_,_,_,h1⟩
theorem xw {P:Program} {k:Nat} {T:TypeId} {kd:IntKind} (h:o8 P k T (.int kd)=true):P.underlying T=some (.int kd):=by
 cases k with
 | zero=>simp [o8] at h
 | succ k =>
  obtain ⟨d,h1,h2⟩:=R8 h;simp only [o8,aAa,h1] at h;obtain ⟨_,h⟩:=h;cases d<;>first|(exact (aAy h).elim)|skip
  ·rw [of_decide_eq_true h] at h1; exact h1
  ·rename_i fs
   have h:n6 (o8 P k) fs.toList 0 (.int kd)=true:=h;cases hf:fs.toList<;>(rw [hf] at h; simp [n6] at h)
theorem FO {P:Program} {k:Nat} {T:TypeId} {m:Nat} {t:Ty} (h:o8 P k T (.arr m t)=true) (b off:Nat) {kd:IntKind} {n:Int} (hn:0<=n/\n<m) :
  (Instr.indexAt T (.pointer (some ⟨b,off,none⟩)) (.int kd n)).run P w=.ok (.pointer (some ⟨b,off+n.toNat*t.size,none⟩)) w:=by
 obtain ⟨e,k',h1,h2,h3⟩:=Y0 h;simp [Instr.indexAt,asIntOf,p9 h1,Instr.sureAddr,hn,run_sizeOf h3,Addr.I1]
theorem W3 {P:Program} {k:Nat} {T:TypeId} {o:Bool} {t:Ty} (h:o8 P k T (.d0 o t)=true) (b off len cap:Nat) {kd:IntKind} {n:Int} (hn:0<=n/\n<len) :
  (Instr.indexAt T (.slice (some ⟨b,off,none⟩) len cap) (.int kd n)).run P w=.ok (.pointer (some ⟨b,off+n.toNat*t.size,none⟩)) w:=by
 obtain ⟨e,k',h1,h2,h3⟩:=G5 h;simp [Instr.indexAt,asIntOf,p9 h1,hn,run_sizeOf h3,Addr.I1]
end
end Go.Ex
namespace Go.Ex
section
variable {E:Env} {B:E6} {S:Nat->Prop} {ι:Ix} {s:St} {a:Act} {w:World} {hp:List (Nat×i6)} {H H':Array Go.Obj}
theorem Eh {α:Type} {n:Int} (h:0<=n/\n<(([]:List α).length:Int)):False:=by
 simp at h; omega
theorem C3 {x:Operand} (h:RS B S ι s a w) {v:AV} (e:s.ev x=v):VX w.heap S ι s.hp v [a.eval x]:=e▸h.ev x
theorem I9 {P:Program} {o:Oper} {sem:Sem Value} (he:execOp a.eval o=(do pure (.value (<- sem)))) (h:RS B S ι s a w) {v:AV} {val:Value} (hr:sem.run P w=.ok val w)
  (hv:VX w.heap S ι s.hp v [val]):y7 P B o a w v s:=y7.value (P0 he hr) h hv
theorem wG {i:Nat} {e e':i6} (h1:look i s.hp=some e) (h:s.obj i=some e'):e'=e:=by
 rw [St.obj,h1] at h; cases h; rfl
theorem H5 (h:HS B S ι hp w) {i:Nat} {e:i6} (hi:look i hp=some e) {p:List Step} (aM:x8 e.ty e.x p) {u:Ty} {y:u.den} (hg:j9 e.ty e.x p=some ⟨u,y⟩) {cs:List Value} (hc:Cells w.heap ι i e p u cs) :
  ∃ O2,(∀ c∈O2,c∈ι.own i)/\O2.Nodup/\g9 w.heap S u O2 cs y:=by
 obtain ⟨b,off,O2,k1,k2,k3,k4,_⟩:=(h.ob i e hi).part (Ct hc) h.slt aM hg;obtain ⟨b',aA,h1,rfl⟩:=hc;rw [k1] at h1; cases h1;exact ⟨O2,k2,k3,k4⟩
theorem G6 {i:Nat} {e:i6} {c:Nat} (h:c∈ι.own i):c∈l7 ι i e:=by cases e<;>simp [l7,h]
theorem j5.take {α:Type} {R:List Nat->List Value->α->Prop} {sz:Nat}:∀ {l:List α} {O:List Nat} {cs:List Value} (k:Nat),j5 R sz O cs l->∃ O1 O2,O=O1++O2/\j5 R sz O1 (cs.take (k*sz)) (l.take k)/\j5 R sz O2 (cs.drop (k*sz)) (l.drop k)
 | l,O,cs,0,h=>⟨[],O,rfl,by simp [j5],by simpa using h⟩
 | [],O,cs,k+1,⟨h1,h2⟩=>⟨[],[],by simp [h1],by simp [j5,h2],by simp [j5,h2]⟩
 | x::l,O,cs,k+1,⟨O1,O2,e,h1,h2⟩=>by
  obtain ⟨P1,P2,e',g1,g2⟩:=j5.take k h2;refine ⟨O1++P1,P2,by rw [e,e',aAl],⟨O1,P1,rfl,?_,?_⟩,?_⟩
  ·rw [aCn,aCc (by rw [aBf]; omega)]; exact h1
  ·rw [aDk,show (k+1)*sz - sz=k*sz from by rw [aBf]; omega]; exact g1
  ·rw [aBj,show sz+k*sz=(k+1)*sz from by rw [aBf]; omega] at g2
   exact g2
theorem j5.cut {α:Type} {R:List Nat->List Value->α->Prop} {sz:Nat} {l:List α} {O:List Nat} {cs:List Value} (a n:Nat) (h:j5 R sz O cs l):∃ O1 O2 O3,O=O1++(O2++O3)/\j5 R sz O2 ((cs.drop (a*sz)).take (n*sz)) ((l.drop a).take n):=by
 obtain ⟨O1,O2,e,_,h2⟩:=h.take a;obtain ⟨P1,P2,e',g1,_⟩:=h2.take n;exact ⟨O1,P1,P2,by rw [e,e'],g1⟩
theorem zE {α:Type} {lo hi:Int} {l:List α} (h0:0<=lo) (h2:hi<=(l.length:Int)):(o5 lo hi l).length=(hi - lo).toNat:=by
 simp only [o5,aAk,aAq];omega
def LB (S:Nat->Prop) (ι:Ix) (hp:List (Nat×i6)) (b:Nat):Prop:=S b\/∃ i e,look i hp=some e/\b∈l7 ι i e
def GU (H:Array Go.Obj) (S:Nat->Prop) (t:Ty) (l:List t.den) (A:Option Addr) (L:Nat->Prop):Prop :=
 l=[]\/∃ b off O,A=some ⟨b,off,none⟩/\L b/\off+l.length*t.size<=(w6 H b).length/\j5 (g9 H S t) t.size O (e8 H b off (l.length*t.size)) l/\∀ c∈O,L c
theorem Ep (h:HS B S ι s.hp w) {i:Nat} {p:List Step} {lo hi:Int} {v:Value} (hv:VX w.heap S ι s.hp (.sub i p lo hi) [v]) {t:Ty} {l:List t.den} (hw:s.view i p lo hi=some ⟨t,l⟩) :
  ∃ A c,v=.slice A l.length c/\GU w.heap S t l A (LB S ι s.hp)/\(l.length:Int)=hi - lo/\0<=lo/\lo<=hi/\∃ e,look i s.hp=some e/\x8 e.ty e.x p /\
   (l≠[]->∃ b off,A=some ⟨b,off,none⟩/\∀ n:Int,0<=n->n<l.length->∃ off2,Loc w.heap ι i e (p++[.idx (lo+n)])=some (b,off2)/\off2=off+n.toNat*t.size/\x8 e.ty e.x (p++[.idx (lo+n)])):=by
 obtain ⟨e,v',h1,h2,h3,h4,h5,h6⟩:=hv;cases h3;have aS:=h.ob i e h1;unfold St.view at hw;rcases h6 with ⟨t',l',a,cap,k1,k2,k3,c,A,k4,kA,k5,k6⟩|⟨n,t',l',b,off,k1,⟨k2,k2'⟩,k3,c,A,k4,kA,k5,k6⟩
 ·have hp:s.part i p=some ⟨.d0 true t',l'⟩:=by unfold St.part St.obj; rw [h1]; exact k1
  rw [hp] at hw;simp only [aAc,Sigma.mk.injEq] at hw;obtain ⟨rfl,hw⟩:=hw;have hw:=eq_of_heq hw;subst hw;have hlen:(o5 lo hi l').length=(hi - lo).toNat:=zE h4 k2;refine ⟨_,c,by rw [hlen]; exact k4,?_,by omega,h4,h5,e,h1,h2,?_⟩
  ·by_cases hz:o5 lo hi l'=[]
   ·exact .inl hz
   ·obtain ⟨O2,m1,m2,m3⟩:=H5 h h1 h2 k1 k3
    rcases m3 with ⟨_,_,hn⟩|⟨b1,o1,gL,O',c1,c2,c3,c4,c5,rfl,c7⟩
    ·exfalso; apply hz; rw [hn]; simp [o5]
    ·simp only [aBa,Value.slice.injEq,and_true] at c1
     obtain ⟨rfl,_,rfl⟩:=c1;have fi:0<(hi - lo).toNat:=by rw [<- hlen]; exact aCd.2 hz
     obtain ⟨P1,P2,P3,e1,g⟩:=c5.cut lo.toNat (hi - lo).toNat;have hle:lo.toNat*t'.size+(hi - lo).toNat*t'.size<=List.length l'*t'.size:=by rw [<- aBl]; exact aAm _ (by omega)
     rw [o6,n7 _ _ _ _ (by omega)] at g;refine .inr ⟨b1,o1+lo.toNat*t'.size,P2,?_,.inr ⟨i,e,h1,G6 (m1 b1 (by simp))⟩,?_,by rw [hlen]; exact g,λ c hc=>.inr ⟨i,e,h1,G6 (m1 c (by rw [e1]; simp [hc]))⟩⟩
     ·rw [kA (by omega),aBe,Addr.I1]
     ·rw [hlen]; omega
  ·intro hz
   obtain ⟨O2,m1,m2,m3⟩:=H5 h h1 h2 k1 k3;rcases m3 with ⟨_,_,hn⟩|⟨b1,o1,gL,O',c1,c2,c3,c4,c5,rfl,c7⟩
   ·exfalso; apply hz; rw [hn]; simp [o5]
   ·simp only [aBa,Value.slice.injEq,and_true] at c1
    obtain ⟨rfl,_,rfl⟩:=c1;have fi:0<(hi - lo).toNat:=by rw [<- hlen]; exact aCd.2 hz
    refine ⟨b1,o1+lo.toNat*t'.size,by rw [kA (by omega),aBe,Addr.I1],λ n da hn=>?_⟩;obtain ⟨b0,off0,q1,q2⟩:=k3;have hh:=(R3 b0 off0 _).1 q2.symm;refine ⟨o1+(lo+n).toNat*t'.size,wv (AR k1 q1 ?_) c7.free.lt,by rw [show (lo+n).toNat=lo.toNat+n.toNat from by omega,aBl]; omega,X7 k1 h2 ⟨⟨by omega,by omega⟩,O6⟩⟩;simp only [y8,hh,y9]
 ·have hp:s.part i p=some ⟨.arr n t',l'⟩:=by unfold St.part St.obj; rw [h1]; exact k1
  rw [hp] at hw;simp only [aAc,Sigma.mk.injEq] at hw;obtain ⟨rfl,hw⟩:=hw;have hw:=eq_of_heq hw;subst hw;obtain ⟨O2,m1,m2,m3,m4,m5,m6⟩:=N5 (K9 k3) aS h.slt h2 k1 k3;obtain ⟨hl,m3⟩:=m3;have hlen:(o5 lo hi l').length=(hi - lo).toNat:=zE h4 (by rw [hl]; exact k2);refine ⟨_,c,by rw [hlen]; exact k4,?_,by omega,h4,h5,e,h1,h2,?_⟩
  ·by_cases hz:o5 lo hi l'=[]
   ·exact .inl hz
   ·have fi:0<(hi - lo).toNat:=by rw [<- hlen]; exact aCd.2 hz
    obtain ⟨P1,P2,P3,e1,g⟩:=m3.cut lo.toNat (hi - lo).toNat;have hle:lo.toNat*t'.size+(hi - lo).toNat*t'.size<=n*t'.size:=by rw [<- aBl]; exact aAm _ (by omega)
    simp only [Ty.size] at g m4;rw [o6,n7 _ _ _ _ (by omega)] at g;refine .inr ⟨b,off+lo.toNat*t'.size,P2,?_,.inr ⟨i,e,h1,m5⟩,?_,by rw [hlen]; exact g,λ c hc=>.inr ⟨i,e,h1,G6 (m1 c (by rw [e1]; simp [hc]))⟩⟩
    ·rw [kA (by omega),aBe,Addr.I1]
    ·rw [hlen]; omega
  ·intro hz
   have fi:0<(hi - lo).toNat:=by rw [<- hlen]; exact aCd.2 hz
   refine ⟨b,off+lo.toNat*t'.size,by rw [kA (by omega),aBe,Addr.I1],λ m ie hm=>?_⟩;refine ⟨off+(lo+m).toNat*t'.size,CE k1 k3 (λ G=>by simp only [y8,y9]),by rw [show (lo+m).toNat=lo.toNat+m.toNat from by omega,aBl]; omega,X7 k1 h2 ⟨⟨by omega,by omega⟩,O6⟩⟩
theorem Ot {H:Array Go.Obj} {o:Bool} {t:Ty} {O:List Nat} {cs:List Value} {l:(Ty.d0 o t).den} (hR:g9 H S (.d0 o t) O cs l) {L:Nat->Prop} (hO:∀ c∈O,L c) (hS:∀ c,S c->L c) :
  ∃ A c,l5 (.d0 o t) cs=.slice A (List.length l) c/\GU H S t l A L:=by
 rcases hR with ⟨_,⟨a,c,rfl,_⟩,hn⟩|⟨b1,o1,gL,O',rfl,c2,c3,c4,c5,c6⟩
 ·have:List.length l=0:=by rw [hn]; rfl
  exact ⟨a,c,by rw [this]; rfl,.inl hn⟩
 ·refine ⟨_,_,rfl,.inr ⟨b1,o1,O',rfl,?_,c4,c5,?_⟩⟩
  ·cases o with
   | true=>exact hO b1 (by rw [c6.1]; simp)
   | false=>exact hS b1 c6.2.2
  ·cases o with
   | true=>intro c hc; exact hO c (by rw [c6.1]; simp [hc])
   | false=>intro c hc; rw [c6.2.1] at hc; cases hc
theorem Ek (h:HS B S ι s.hp w) {v:AV} {val:Value} (hv:VX w.heap S ι s.hp v [val]) {t:Ty} {l:List t.den} (hw:v.els s=some ⟨t,l⟩):∃ A c,val=.slice A l.length c/\GU w.heap S t l A (LB S ι s.hp):=by
 unfold AV.els at hw;split at hw
 ·rename_i o t' l'
  simp only [aAc,Sigma.mk.injEq] at hw;obtain ⟨rfl,hw⟩:=hw;have hw:=eq_of_heq hw;subst hw;obtain ⟨cs,e,hR⟩:=hv;have e:val=l5 (.d0 o t') cs:=by simpa using e
  obtain ⟨A,c,k1,k2⟩:=Ot hR (L:=LB S ι s.hp) (by simp) (λ c hc=>.inl hc);exact ⟨A,c,e.trans k1,k2⟩
 ·rename_i i p
  split at hw
  ·rename_i o t' l' hp
   simp only [aAc,Sigma.mk.injEq] at hw;obtain ⟨rfl,hw⟩:=hw;have hw:=eq_of_heq hw;subst hw;obtain ⟨e,u,y,cs,h1,h2,h3,h4,h5⟩:=hv;have hg:=I3 h1 hp;rw [h3] at hg; cases hg;have h5:val=l5 (.d0 o t') cs:=by simpa using h5
   obtain ⟨O2,m1,m2,m3⟩:=H5 h h1 h2 h3 h4;obtain ⟨A,c,k1,k2⟩:=Ot m3 (L:=LB S ι s.hp) (λ c hc=>.inr ⟨i,e,h1,G6 (m1 c hc)⟩) (λ c hc=>.inl hc);exact ⟨A,c,h5.trans k1,k2⟩
  ·cases hw
 ·obtain ⟨A,c,k1,k2,_⟩:=Ep h hv hw
  exact ⟨A,c,k1,k2⟩
 ·cases hw
theorem Es {t:Ty} {y:Option t.den} {val:Value} (hv:VX w.heap S ι s.hp (.val (.box false none t) y) [val]) (hy:y.isSome=true):VX w.heap S ι s.hp (.M1 t (y.getD t.s4)) [val]:=by
 obtain ⟨cs,e,hR⟩:=hv;rcases hR with ⟨rfl,_⟩|⟨z,b,off,O',rfl,rfl,h2,h3,_,rfl,h4⟩
 ·cases hy
 ·exact ⟨b,off,by simpa [l5,Ty.agg,xi] using e,h4,h2,h3⟩
theorem JZ {f:Nat} {t:Ty} {y:Option t.den} {val:Value} (hv:VX w.heap S ι s.hp (.val (.box false (some f) t) y) [val]) (hy:y.isSome=true):∃ p,val=.func (.func f) #[] #[p]/\VX w.heap S ι s.hp (.M1 t (y.getD t.s4)) [p]:=by
 obtain ⟨cs,e,hR⟩:=hv;rcases hR with ⟨rfl,_⟩|⟨z,b,off,O',rfl,rfl,h2,h3,_,rfl,h4⟩
 ·cases hy
 ·exact ⟨_,by simpa [l5,Ty.agg,xi] using e,b,off,rfl,h4,h2,h3⟩
theorem b1r (hE:D3 E B) (h:RS B S ι s a w) {o:Oper} {T:TypeId} {x:Operand} {n:Nat} (ho:o.op=.fieldAddr T x n):F1 E.P B o a w (m0 E o s):=by
 have he:execOp a.eval o=(do pure (.value (<- Instr.fieldAt T (a.eval x) n))):=by simp [execOp,ho]
 unfold m0;rw [ho];simp only
 split
 ·rename_i i p hx
  split
  ·rename_i u z cQ
   split
   ·rename_i r hc gD
    obtain ⟨e,b,off,h1,h2,h3,h4⟩:=C3 h hx;have hg:=I3 h1 cQ;have h4:a.eval x=.pointer (some ⟨b,off,none⟩):=by simpa using h4
    obtain ⟨u2,z2⟩:=r;exact I9 he h (by rw [h4]; exact AS (D6 hE hc) gD b off) ⟨e,b,off+S9 u n,h1,X7 hg h2 (yx gD),CE hg h3 (λ G=>yH gD),rfl⟩
   ·trivial
  ·trivial
 ·rename_i t y hx
  split
  ·rename_i u z hc hg
   obtain ⟨b,off,e,h1,h2,h3⟩:=C3 h hx;have e:a.eval x=.pointer (some ⟨b,off,none⟩):=by simpa using e
   have aM:=yx hg;obtain ⟨O1,O2,b',aA,e1,e2,e3,e4,e5,e6⟩:=focus h3 h2 aM hg
   have hO:O1=[]/\O2=[]:=by have:=e1.nil_eq; simpa using this.symm
   rw [yH hg] at e3; cases e3;refine I9 he h (by rw [e]; exact AS (D6 hE hc) hg b off) ⟨b,off+S9 t n,rfl,h1,e5,?_⟩;rw [hO.2] at e4; exact e4
  ·trivial
 ·rename_i t y hx
  split
  ·rename_i u z hc hg
   intro hy;obtain ⟨b,off,e,h1,h2,h3⟩:=Es (C3 h hx) hy;have e:a.eval x=.pointer (some ⟨b,off,none⟩):=by simpa using e
   have aM:=yx hg;obtain ⟨O1,O2,b',aA,e1,e2,e3,e4,e5,e6⟩:=focus h3 h2 aM hg
   have hO:O1=[]/\O2=[]:=by have:=e1.nil_eq; simpa using this.symm
   rw [yH hg] at e3; cases e3;refine I9 he h (by rw [e]; exact AS (D6 hE hc) hg b off) ⟨b,off+S9 t n,rfl,h1,e5,?_⟩;rw [hO.2] at e4; exact e4
  ·trivial
 ·trivial
theorem b1k (hE:D3 E B) (h:RS B S ι s a w) {o:Oper} {T:TypeId} {x y:Operand} (ho:o.op=.indexAddr T x y):F1 E.P B o a w (m0 E o s):=by
 have he:execOp a.eval o=(do pure (.value (<- Instr.indexAt T (a.eval x) (a.eval y)))):=by simp [execOp,ho]
 unfold m0;rw [ho];simp only
 split
 ·rename_i d p k n hx hy
  split
  ·rename_i m u z cQ
   split
   ·rename_i hc
    intro hn;obtain ⟨e,b,off,h1,h2,h3,h4⟩:=C3 h hx;have hg:=I3 h1 cQ;have h4:a.eval x=.pointer (some ⟨b,off,none⟩):=by simpa using h4
    obtain ⟨dF,_⟩:=VX.I4 (C3 h hy);exact I9 he h (by rw [h4,dF]; exact FO (D6 hE hc) b off hn) ⟨e,b,off+n.toNat*u.size,h1,X7 hg h2 ⟨hn,O6⟩,CE hg h3 (λ G=>by simp only [y8,y9]),rfl⟩
   ·trivial
  ·trivial
 ·rename_i m t z k n hx hy
  split
  ·rename_i hc
   intro hn;obtain ⟨b,off,e,h1,h2,h3⟩:=C3 h hx;have e:a.eval x=.pointer (some ⟨b,off,none⟩):=by simpa using e
   obtain ⟨dF,_⟩:=VX.I4 (C3 h hy);have aM:x8 (.arr m t) z [.idx n]:=⟨hn,by cases t<;>trivial⟩;have hg:j9 (.arr m t) z [.idx n]=some ⟨t,List.getD z (Int.toNat n) t.s4⟩:=by simp only [j9]
   obtain ⟨O1,O2,b',aA,e1,e2,e3,e4,e5,e6⟩:=focus h3 h2 aM hg
   have hO:O1=[]/\O2=[]:=by have:=e1.nil_eq; simpa using this.symm
   have e3':y8 w.heap (.arr m t) [.idx n] b off=some (b,off+Int.toNat n*t.size):=by simp only [y8]
   rw [e3'] at e3; cases e3;refine I9 he h (by rw [e,dF]; exact FO (D6 hE hc) b off hn) ⟨b,off+Int.toNat n*t.size,rfl,h1,e5,?_⟩;rw [hO.2] at e4; exact e4
  ·trivial
 ·rename_i t z k n hx hy
  split
  ·rename_i hc
   intro hn;obtain ⟨cs,e,hR⟩:=C3 h hx;have e:a.eval x=l5 (.d0 false t) cs:=by simpa using e
   obtain ⟨dF,_⟩:=VX.I4 (C3 h hy);rcases hR with ⟨_,_,hz⟩|⟨b1,o1,cap,O',c1,c2,c3,c4,c5,c6,c7,c8⟩
   ·subst hz; exact (Eh hn).elim
   ·have ga:a.eval x=.slice (some ⟨b1,o1,none⟩) (List.length z) cap:=by rw [e,c1]; rfl
    obtain ⟨b1',b2,b3,b4⟩:=E1 (sz:=t.size) hn;obtain ⟨P1,P2,P3,e1,g1,g2,g3⟩:=j5.split (d:=t.s4) (i:=Int.toNat n) b1' c5;have hle:t.size<=List.length z*t.size - Int.toNat n*t.size:=by omega
    rw [o6,n7 _ _ _ _ hle] at g2;have hP:P2=[]:=by rw [c7] at e1; have:=aBm.1 e1.symm; exact (aBm.1 this.2).1
    refine I9 he h (by rw [ga,dF]; exact W3 (D6 hE hc) b1 o1 _ cap hn) ⟨b1,o1+Int.toNat n*t.size,rfl,c8,by omega,?_⟩;rw [hP] at g2; exact g2
  ·trivial
 ·rename_i d p k n hx hy
  split
  ·rename_i u z cQ
   split
   ·rename_i hc
    intro hn;obtain ⟨e,u',y',cs,h1,h2,h3,h4,h5⟩:=C3 h hx;have hg:=I3 h1 cQ;rw [h3] at hg; cases hg;obtain ⟨dF,_⟩:=VX.I4 (C3 h hy);have h5:a.eval x=l5 (.d0 true u) cs:=by simpa using h5
    obtain ⟨O2,m1,m2,m3⟩:=H5 h.hs h1 h2 h3 h4;rcases m3 with ⟨_,_,hz⟩|⟨b1,o1,cap,O',rfl,c2,c3,c4,c5,c6,c7⟩
    ·subst hz; exact (Eh hn).elim
    ·have ga:a.eval x=.slice (some ⟨b1,o1,none⟩) (List.length z) cap:=h5
     obtain ⟨b0,off0,q1,q2⟩:=h4;have hh:=(R3 b0 off0 _).1 q2.symm;refine I9 he h (by rw [ga,dF]; exact W3 (D6 hE hc) b1 o1 _ cap hn) ⟨e,b1,o1+n.toNat*u.size,h1,X7 h3 h2 ⟨hn,O6⟩,wv (AR h3 q1 ?_) c7.free.lt,rfl⟩;simp only [y8,hh,y9]
   ·trivial
  ·trivial
 ·rename_i d p lo hi k n hx hy
  split
  ·rename_i u l dX
   split
   ·rename_i hc
    intro hn;have fj:@LE.le Int Int.instLEInt 0 n:=hn.1;have lQ:@LT.lt Int Int.instLTInt n (hi - lo):=hn.2;obtain ⟨A,c,k1,k2,k3,k4,k5,e,k6,k7,k8⟩:=Ep h.hs (C3 h hx) dX;obtain ⟨dF,_⟩:=VX.I4 (C3 h hy);have hz:l≠[]:=by rintro rfl; have k3:((0:Nat):Int)=hi - lo:=k3; omega
    obtain ⟨b,off,rfl,k9⟩:=k8 hz;obtain ⟨off2,q1,rfl,q3⟩:=k9 n hn.1 (by omega);exact I9 he h (by rw [k1,dF]; exact W3 (D6 hE hc) b off _ c (by omega)) ⟨e,b,_,k6,q3,q1,rfl⟩
   ·trivial
  ·trivial
 ·trivial
theorem Xb:∀ {t:Ty} {x:t.den} {n:Nat} {u:Ty} {z:u.den} {cs:List Value},g9 H S t [] cs x->j9 t x [.l8 n]=some ⟨u,z⟩->g9 H S u [] ((cs.drop (S9 t n)).take u.size) z/\t.agg=true:=by
 intro t
 induction t with
 | pair a c _ ihc =>
  intro x n u z cs hR h;obtain ⟨O1,O2,e,h1,h2⟩:=hR;have e1:O1=[]/\O2=[]:=by simpa using e.symm
  rw [e1.1] at h1; rw [e1.2] at h2;refine ⟨?_,rfl⟩
  match n,h with
  | 0,h =>
   have h:some (⟨a,x.1⟩:Sigma Ty.den)=some ⟨u,z⟩:=by rw [<- h]; simp only [j9]
   cases h;simpa [S9] using h1
  | n+1,h =>
   have:=(ihc (x:=x.2) h2 h).1;simpa [S9,aBj,aFq] using this
 | d0 o t _=>intro x n u z cs _ h; cases o<;>simp [j9] at h
 | _=>intro x n u z cs _ h; simp [j9] at h
theorem YN:∀ {t:Ty} {x:t.den} {n:Nat} {u:Ty} {z:u.den} {O:List Nat} {cs:List Value},g9 H S t O cs x->j9 t x [.l8 n]=some ⟨u,z⟩->∃ O2,(∀ c∈O2,c∈O)/\g9 H S u O2 ((cs.drop (S9 t n)).take u.size) z/\t.agg=true:=by
 intro t
 induction t with
 | pair a c _ ihc =>
  intro x n u z O cs hR h;obtain ⟨O1,O2,rfl,h1,h2⟩:=hR
  match n,h with
  | 0,h =>
   have h:some (⟨a,x.1⟩:Sigma Ty.den)=some ⟨u,z⟩:=by rw [<- h]; simp only [j9]
   cases h;exact ⟨O1,λ c hc=>by simp [hc],by simpa [S9] using h1,rfl⟩
  | n+1,h =>
   obtain ⟨O3,k1,k2,_⟩:=ihc (x:=x.2) h2 h;exact ⟨O3,λ c hc=>by simp [k1 c hc],by simpa [S9,aBj,aFq] using k2,rfl⟩
 | d0 o t _=>intro x n u z O cs _ h; cases o<;>simp [j9] at h
 | _=>intro x n u z O cs _ h; simp [j9] at h
theorem Xx:∀ {t:Ty} {x:t.den} {n:Nat} {u:Ty} {z:u.den},j9 t x [.l8 n]=some ⟨u,z⟩->S9 t n+u.size<=t.size:=by
 intro t
 induction t with
 | pair a c _ ihc =>
  intro x n u z h
  match n,h with
  | 0,h =>
   have h:some (⟨a,x.1⟩:Sigma Ty.den)=some ⟨u,z⟩:=by rw [<- h]; simp only [j9]
   cases h;simp [S9,Ty.size]
  | n+1,h =>
   have:=ihc (x:=x.2) h;simp only [S9,Ty.size]; omega
 | d0 o t _=>intro x n u z h; cases o<;>simp [j9] at h
 | _=>intro x n u z h; simp [j9] at h
theorem TK:∀ {t:Ty} {x:t.den} {p q:List Step} {u:Ty} {y:u.den} {r:Sigma Ty.den},j9 t x p=some ⟨u,y⟩->j9 u y q=some r->j9 t x (p++q)=some r:=by
 intro t
 induction t with
 | pair a c iha ihc =>
  intro x p q u y r h1 h2
  match p,h1 with
  | [],h1=>simp only [j9,aAc] at h1; cases h1; exact h2
  | .l8 0::p,h1=>exact iha h1 h2
  | .l8 (n+1)::p,h1=>exact ihc (p:=.l8 n::p) h1 h2
  | .idx i::p,h1=>simp [j9] at h1
 | arr n t ih =>
  intro x p q u y r h1 h2
  match p,h1 with
  | [],h1=>simp only [j9,aAc] at h1; cases h1; exact h2
  | .idx i::p,h1=>exact ih h1 h2
  | .l8 i::p,h1=>simp [j9] at h1
 | d0 o t ih =>
  intro x p q u y r h1 h2
  match p,h1 with
  | [],h1=>rw [C1] at h1; cases h1; exact h2
  | .idx i::p,h1=>cases o with
   | true=>exact ih h1 h2
   | false=>simp [j9] at h1
  | .l8 i::p,h1=>cases o<;>simp [j9] at h1
 | _ =>
  intro x p q u y r h1 h2
  match p,h1 with
  | [],h1=>simp only [j9,aAc] at h1; cases h1; exact h2
  | .idx i::p,h1=>simp [j9] at h1
  | .l8 i::p,h1=>simp [j9] at h1
theorem ya {P:Program} {k:Nat} {T:TypeId} {u:Ty} {cs:List Value} {off:Nat} {z:u.den} {O:List Nat} (h:o8 P k T u=true) (hR:g9 H S u O ((cs.drop off).take u.size) z) :
  (part T cs.toArray off).run P w=.ok (l5 u ((cs.drop off).take u.size)) w:=by
 have hl:=hR.length;simp only [part,Sem.run_bind,KL h,Result.andThen];cases hg:u.agg with
 | true =>
  simp only [if_true,Sem.run_bind,run_sizeOf h,Result.andThen];simp [l5,hg]
 | false =>
  have h1:u.size=1:=by cases u<;>simp_all [Ty.agg,Ty.size]
  rw [h1] at hl ⊢
  match hc:(cs.drop off).take 1,hl with
  | [c],_ =>
   have:cs[off]?=some c:=by
    have:((cs.drop off).take 1)[0]?=some c:=by rw [hc]; rfl
    simpa using this
   simp [this,l5,hg]
theorem c0K (h:RS B S ι s a w) {o:Oper} {op:UnOp} {T:TypeId} {x:Operand} {P:Program} (ho:o.op=.unOp op T x):F1 P B o a w (unA op (s.ev x) s):=by
 have he:execOp a.eval o=(do pure (.value (<- Op.unary op (a.eval x)))):=by simp [execOp,ho]
 unfold unA
 split
 ·rename_i b hx
  have:=VX.Ay (C3 h hx);exact I9 he h (by rw [this]; rfl) VX.bool
 ·rename_i k n hx
  obtain ⟨hv,_⟩:=VX.I4 (C3 h hx);exact FH (by rw [P0 he (w':=w) (val:=.int k (k.wrap (0 - n)))]; rw [hv]; rfl) h
 ·rename_i k n hx
  obtain ⟨hv,_⟩:=VX.I4 (C3 h hx);refine I9 he h (val:=.int k (vP k (if k.signed then -1 else k.max) n)) (by rw [hv]; rfl) (VX.int (U7 _ _))
 ·trivial
theorem b8C (hE:D3 E B) (h:RS B S ι s a w) {o:Oper} {T:TypeId} {x:Operand} {n:Nat} (ho:o.op=.field T x n):F1 E.P B o a w (m0 E o s):=by
 have he:execOp a.eval o=(do pure (.value (<- Instr.field T (a.eval x) n))):=by simp [execOp,ho]
 unfold m0;rw [ho];simp only
 split
 ·rename_i t y hx
  split
  ·rename_i u z hc hg
   obtain ⟨cs,e,hR⟩:=C3 h hx;have e:a.eval x=l5 t cs:=by simpa using e
   obtain ⟨fs,f,k',h1,h2,h3,h4,h5⟩:=LH (D6 hE hc) hg;obtain ⟨fy,dp⟩:=Xb hR hg;have:a.eval x=.agg cs.toArray:=by rw [e,l5,dp]; rfl
   refine I9 he h (val:=l5 u ((cs.drop (S9 t n)).take u.size)) ?_ ⟨_,rfl,fy⟩;rw [this];have:=ya (w:=w) h5 fy;simp [Instr.field,p9 h1,h2,asAgg,h3,this]
  ·trivial
 ·rename_i i p hx
  split
  ·rename_i t y cQ
   split
   ·rename_i u z hc hg
    obtain ⟨e,t',y',cs,h1,h2,h3,h4,h5⟩:=C3 h hx;have dO:=I3 h1 cQ;rw [h3] at dO; cases dO;have h5:a.eval x=l5 t cs:=by simpa using h5
    obtain ⟨fs,f,k',q1,q2,q3,q4,q5⟩:=LH (D6 hE hc) hg;obtain ⟨O2,m1,m2,m3⟩:=H5 h.hs h1 h2 h3 h4;obtain ⟨O3,m4,fy,dp⟩:=YN m3 hg;have ga:a.eval x=.agg cs.toArray:=by rw [h5,l5,dp]; rfl
    have aP:=ya (w:=w) q5 fy;have hr:(Instr.field T (a.eval x) n).run E.P w=.ok (l5 u ((cs.drop (S9 t n)).take u.size)) w:=by
     rw [ga];simp [Instr.field,p9 q1,q2,asAgg,q3,aP]
    split
    ·rename_i hs
     have:=fy.O7 hs;subst this;exact I9 he h hr ⟨_,rfl,fy⟩
    ·refine I9 he h hr ⟨e,u,z,_,h1,X7 h3 h2 (yx hg),TK h3 hg,?_,rfl⟩
     obtain ⟨b0,off0,g1,rfl⟩:=h4;refine ⟨b0,off0+S9 t n,AR h3 g1 (yH hg),?_⟩;have:=m3.length;have hle:=Xx hg;rw [o6,n7 _ _ _ _ (by omega)]
   ·trivial
  ·trivial
 ·trivial
end
end Go.Ex
namespace Go.Ex
section
variable {E:Env} {B:E6} {S S':Nat->Prop} {ι:Ix} {s:St} {a:Act} {w:World} {hp:List (Nat×i6)} {H H':Array Go.Obj}
theorem Ty.Ab (t:Ty):t.sh.sh=t.sh:=by
 induction t with
 | pair a b iha ihb=>simp only [Ty.sh,iha,ihb]
 | arr n t ih=>simp only [Ty.sh,ih]
 | d0 o t ih=>simp only [Ty.sh,ih]
 | hole t ih=>simp only [Ty.sh,ih]
 | B9 t ih=>simp only [Ty.sh,ih]
 | box o g t ih=>simp only [Ty.sh,ih]
 | _=>rfl
theorem Ri {A A' C C':Type} (ha:A=A') (hc:C=C') (h:(A×C)=(A'×C')) (x:A×C):cast h x=(cast ha x.1,cast hc x.2):=by subst ha; subst hc; rfl
theorem zu {A A':Type} (ha:A=A') (h:List A=List A') (l:List A):cast h l=l.map (cast ha):=by
 subst ha;show l=List.map (λ x=>x) l;simp
theorem Yl {A A':Type} (ha:A=A') (h:Option A=Option A') (x:Option A):cast h x=x.map (cast ha):=by
 subst ha;show x=Option.map (λ x=>x) x;simp
theorem j5.map {α β:Type} {R:List Nat->List Value->α->Prop} {R':List Nat->List Value->β->Prop} {sz:Nat} {f:α->β} {L:List Nat} (hr:∀ O cs x,(∀ b∈O,b∈L)->R O cs x->R' [] cs (f x)) :
  ∀ {l:List α} {O:List Nat} {cs:List Value},(∀ b∈O,b∈L)->j5 R sz O cs l->j5 R' sz [] cs (l.map f)
 | [],_,_,_,⟨_,h⟩=>⟨rfl,h⟩
 | _::_,_,_,hO,⟨O1,O2,e,h1,h2⟩=>by
  subst e;exact ⟨[],[],rfl,hr _ _ _ (λ b hb=>hO b (by simp [hb])) h1,j5.map hr (λ b hb=>hO b (by simp [hb])) h2⟩
theorem g9.vS:∀ {u:Ty} {O:List Nat} {cs:List Value} {y:u.den},g9 H S u O cs y->(∀ b∈O,S' b)->(∀ b,S b->S' b)->u.W4=true->g9 H S' u.sh [] cs (cast (E9 u).symm y):=by
 intro u
 induction u with
 | int k=>intro O cs y h _ _ _; exact ⟨rfl,h.2⟩
 | bool=>intro O cs y h _ _ _; exact ⟨rfl,h.2⟩
 | str=>intro O cs y h _ _ _; exact ⟨rfl,h.2⟩
 | unit=>intro O cs y h _ _ _; exact ⟨rfl,h.2⟩
 | fn f=>intro O cs y h _ _ _; exact ⟨rfl,h.2⟩
 | map o k v =>
  rintro O cs y h hO hS hn;show g9 H S' (.map false k v) [] cs y;rcases h with h|⟨l,b,es,ck,h0,h2,h3,h4,h5⟩
  ·exact .inl ⟨h.1,rfl,h.2.2⟩
  have hb:S' b:=by
   cases o with
   | true=>exact hO b (by rw [h5]; simp)
   | false=>exact hS b h5.2
  exact .inr ⟨l,b,es,ck,h0,h2,h3,h4.mono (λ _ _ h=>h.u5 (λ _ _=>rfl) hS) (λ _ _ h=>h.u5 (λ _ _=>rfl) hS),rfl,hb⟩
 | box o g t ih =>
  rintro O cs y h hO hS hn;have e:=Yl (E9 t).symm (E9 (.box o g t)).symm y;refine Eq.subst (motive:=λ z=>g9 H S' (.box false g t.sh) [] cs z) e.symm ?_;rcases h with ⟨rfl,_,h⟩|⟨z,b,off,O',rfl,h1,h2,h3,h4⟩
  ·exact .inl ⟨rfl,rfl,h⟩
  have hb:S' b:=by
   cases o with
   | true=>exact hO b (by rw [h4.1]; simp)
   | false=>exact hS b h4.2.2
  have gK:∀ c∈O',S' c:=by
   intro c hc;cases o with
   | true=>exact hO c (by rw [h4.1]; simp [hc])
   | false=>rw [h4.2.1] at hc; cases hc
  exact .inr ⟨_,b,off,[],rfl,h1,by rw [S6]; exact h2,by rw [S6]; exact ih h3 gK hS hn,rfl,rfl,hb⟩
 | pair a c iha ihc =>
  rintro O cs y ⟨O1,O2,rfl,h1,h2⟩ hO hS hn;simp only [Ty.W4,aAa] at hn;have e:=Ri (E9 a).symm (E9 c).symm (E9 (.pair a c)).symm y;refine Eq.subst (motive:=λ z=>g9 H S' (.pair a.sh c.sh) [] cs z) e.symm ?_;exact ⟨[],[],rfl,by rw [S6]; exact iha h1 (λ b hb=>hO b (by simp [hb])) hS hn.1,by rw [S6]; exact ihc h2 (λ b hb=>hO b (by simp [hb])) hS hn.2⟩
 | arr n t ih =>
  rintro O cs y ⟨h1,h2⟩ hO hS hn;have e:=zu (E9 t).symm (E9 (.arr n t)).symm y;refine Eq.subst (motive:=λ z=>g9 H S' (.arr n t.sh) [] cs z) e.symm ?_;refine ⟨by rw [aAn]; exact h1,?_⟩;rw [S6];exact j5.map (L:=O) (λ O1 cs x hL hr=>ih hr (λ b hb=>hO b (hL b hb)) hS hn) (λ _ h=>h) h2
 | d0 o t ih =>
  rintro O cs y h hO hS hn;have e:=zu (E9 t).symm (E9 (.d0 o t)).symm y;refine Eq.subst (motive:=λ z=>g9 H S' (.d0 false t.sh) [] cs z) e.symm ?_;rcases h with ⟨_,⟨a,c,h2,fG⟩,h3⟩|⟨b,off,cap,O',c1,c2,c3,c4,c5,c6⟩
  ·subst h3; exact .inl ⟨rfl,⟨a,c,h2,λ h=>by cases h⟩,rfl⟩
  ·have hb:S' b:=by
    cases o with
    | true=>exact hO b (by rw [c6.1]; simp)
    | false=>exact hS b c6.2.2
   have gK:∀ c∈O',c∈O:=by
    intro c hc;cases o with
    | true=>rw [c6.1]; simp [hc]
    | false=>rw [c6.2.1] at hc; cases hc
   refine .inr ⟨b,off,cap,[],by rw [aAn]; exact c1,by rw [aAn]; exact c2,⟨c3.1,λ h=>by cases h⟩,by rw [aAn,S6]; exact c4,?_,rfl,rfl,hb⟩;rw [aAn,S6];exact j5.map (L:=O) (λ O1 cs x hL hr=>ih hr (λ b hb=>hO b (hL b hb)) hS hn) gK c5
 | hole t ih=>intro O cs y _ _ _ hn; cases hn
 | B9 t ih=>intro O cs y _ _ _ hn; cases hn
theorem Ty.Nw (t:Ty):t.shH.sh=t.sh:=by
 induction t with
 | pair a b iha ihb=>simp only [Ty.shH,Ty.sh,iha,ihb]
 | arr n t ih=>simp only [Ty.shH,Ty.sh,Ty.Ab]
 | d0 o t ih=>simp only [Ty.shH,Ty.sh,Ty.Ab]
 | B9 t ih=>simp only [Ty.shH,Ty.sh,Ty.Ab]
 | box o g t ih=>simp only [Ty.shH,Ty.sh,Ty.Ab]
 | _=>rfl
theorem JU (t:Ty):t.shH.size=t.size:=F9 (Ty.Nw t)
theorem g9.Vp:∀ {u:Ty} {O:List Nat} {cs:List Value} {y:u.den},g9 H S u O cs y->(∀ b∈O,S' b)->(∀ b,S b->S' b)->u.okH=true->g9 H S' u.shH [] cs (cast (BS u).symm y):=by
 intro u
 induction u with
 | pair a c iha ihc =>
  rintro O cs y ⟨O1,O2,rfl,h1,h2⟩ hO hS hn;simp only [Ty.okH,aAa] at hn;have e:=Ri (BS a).symm (BS c).symm (BS (.pair a c)).symm y;refine Eq.subst (motive:=λ z=>g9 H S' (.pair a.shH c.shH) [] cs z) e.symm ?_;exact ⟨[],[],rfl,by rw [JU]; exact iha h1 (λ b hb=>hO b (by simp [hb])) hS hn.1,by rw [JU]; exact ihc h2 (λ b hb=>hO b (by simp [hb])) hS hn.2⟩
 | hole t ih=>intro O cs y h _ _ _; exact ⟨rfl,h.2⟩
 | B9 t ih=>intro O cs y h _ _ hn; cases hn
 | arr n t ih=>intro O cs y h hO hS hn; exact g9.vS (u:=.arr n t) h hO hS hn
 | d0 o t ih=>intro O cs y h hO hS hn; exact g9.vS (u:=.d0 o t) h hO hS hn
 | box o g t ih=>intro O cs y h hO hS hn; exact g9.vS (u:=.box o g t) h hO hS hn
 | map o k v=>intro O cs y h hO hS hn; exact g9.vS (u:=.map o k v) h hO hS hn
 | int k=>intro O cs y h _ _ _; exact ⟨rfl,h.2⟩
 | bool=>intro O cs y h _ _ _; exact ⟨rfl,h.2⟩
 | str=>intro O cs y h _ _ _; exact ⟨rfl,h.2⟩
 | unit=>intro O cs y h _ _ _; exact ⟨rfl,h.2⟩
 | fn f=>intro O cs y h _ _ _; exact ⟨rfl,h.2⟩
theorem j5.Gk {α β:Type} {R:List Nat->List Value->α->Prop} {R':List Nat->List Value->β->Prop} {sz:Nat} {f:α->β} (hr:∀ O cs x,R O cs x->R' O cs (f x)) :
  ∀ {l:List α} {O:List Nat} {cs:List Value},j5 R sz O cs l->j5 R' sz O cs (l.map f)
 | [],_,_,⟨h0,h⟩=>⟨h0,h⟩
 | _::_,_,_,⟨O1,O2,e,h1,h2⟩=>⟨O1,O2,e,hr _ _ _ h1,j5.Gk hr h2⟩
theorem yO:∀ {u t:Ty},vJ u t=true->t.size=u.size/\u.isB=t.isB:=by
 have base:∀ {u t:Ty},decide (u=t)=true->t.size=u.size/\u.isB=t.isB:=by
  intro u t h;have e:=of_decide_eq_true h;subst e;exact ⟨rfl,rfl⟩
 intro u
 induction u with
 | pair a b iha ihb =>
  intro t h;cases t with
  | pair c d =>
   have h:(vJ a c && vJ b d)=true:=h;rw [aAa] at h;exact ⟨by simp only [Ty.size,(iha h.1).1,(ihb h.2).1],rfl⟩
  | _=>exact base h
 | arr n a ih =>
  intro t h;cases t with
  | arr m b =>
   have h:(Nat.beq n m && vJ a b)=true:=h;rw [aAa] at h;have e:=aAd h.1;subst e;exact ⟨by simp only [Ty.size,(ih h.2).1],rfl⟩
  | _=>exact base h
 | d0 o a ih =>
  intro t h;cases t with
  | d0 o2 b=>exact ⟨rfl,rfl⟩
  | B9 b=>exact ⟨rfl,rfl⟩
  | _=>cases o<;>exact base h
 | _=>intro t h; cases t<;>exact base h
theorem j5.Ms {α β:Type} {R:List Nat->List Value->α->Prop} {R':List Nat->List Value->β->Prop} {sz:Nat} {f:α->β} (hr:∀ O cs x,R' O cs (f x)->R O cs x) :
  ∀ {l:List α} {O:List Nat} {cs:List Value},j5 R' sz O cs (l.map f)->j5 R sz O cs l
 | [],_,_,⟨h0,h⟩=>⟨h0,h⟩
 | _::_,_,_,⟨O1,O2,e,h1,h2⟩=>⟨O1,O2,e,hr _ _ _ h1,j5.Ms hr h2⟩
theorem Xt:∀ {u t:Ty} {y:u.den} {O:List Nat} {cs:List Value},vJ u t=true->g9 H S u O cs y->g9 H S t O cs (msV u t y):=by
 have base:∀ {u t:Ty} {y:u.den} {O:List Nat} {cs:List Value},decide (u=t)=true->g9 H S u O cs y->g9 H S t O cs (if h:u=t then h▸y else t.s4):=by
  intro u t y O cs h hR;have e:=of_decide_eq_true h;subst e;rw [dif_pos rfl];exact hR
 intro u
 induction u with
 | pair a b iha ihb =>
  intro t y O cs h hR;cases t with
  | pair c d =>
   have h:(vJ a c && vJ b d)=true:=h;rw [aAa] at h;obtain ⟨P1,P2,rfl,r1,r2⟩:=hR;exact ⟨P1,P2,rfl,by rw [(yO h.1).1]; exact iha h.1 r1,by rw [(yO h.1).1]; exact ihb h.2 r2⟩
  | _=>exact base h hR
 | arr n a ih =>
  intro t y O cs h hR;cases t with
  | arr m b =>
   have h:(Nat.beq n m && vJ a b)=true:=h;rw [aAa] at h;have e:=aAd h.1;subst e;show g9 H S (.arr n b) O cs (if h:a=b then h▸y else List.map (msV a b) y)
   split
   ·rename_i e; subst e; exact hR
   ·obtain ⟨h1,h2⟩:=hR
    refine ⟨by rw [aAn]; exact h1,?_⟩;rw [(yO h.2).1];exact j5.Gk (λ _ _ _ q=>ih h.2 q) h2
  | _=>exact base h hR
 | d0 o a ih =>
  intro t y O cs h hR;cases t with
  | d0 o2 b =>
   cases o with
   | false=>exact base h hR
   | true=>cases o2 with
    | false=>exact base h hR
    | true =>
     have h:vJ a b=true:=h;show g9 H S (.d0 true b) O cs (if h:a=b then h▸y else List.map (msV a b) y)
     split
     ·rename_i e; subst e; exact hR
     ·have hR:g9 H S (.d0 true a) O cs y:=hR
      rcases hR with ⟨h1,h2,h3⟩|⟨c,off,cap,O',c1,c2,c3,c4,c5,c6,c7⟩
      ·have h3:y=[]:=h3
       rw [h3]; exact .inl ⟨h1,h2,rfl⟩
      ·refine .inr ⟨c,off,cap,O',by rw [aAn]; exact c1,by rw [aAn]; exact c2,c3,by rw [aAn,(yO h).1]; exact c4,?_,c6,by rw [(yO h).1,<- (yO h).2]; exact c7⟩
       rw [aAn,(yO h).1];exact j5.Gk (λ _ _ _ q=>ih h q) c5
  | B9 b =>
   have e:a=b:=by cases o<;>exact of_decide_eq_true h
   subst e;cases o with
   | false=>show g9 H S (.B9 a) O cs (if h:a=a then (0,h▸y,[]) else (0,[],[])); rw [dif_pos rfl]; exact hR
   | true=>show g9 H S (.B9 a) O cs (if h:a=a then (1,h▸y,[]) else (1,[],[])); rw [dif_pos rfl]; exact hR
  | _=>cases o<;>exact base h hR
 | _=>intro t y O cs h hR; cases t<;>exact base h hR
theorem Zb:∀ {u t:Ty} {y:u.den} {z:t.den} {O:List Nat} {cs:List Value},yV u t y=some z->g9 H S u O cs y->∃ O1 D,O.Perm (O1++D)/\t.size=u.size/\∀ S':Nat->Prop,(∀ b,S b->S' b)->(∀ b∈D,S' b)->g9 H S' t O1 cs z:=by
 have base:∀ {u t:Ty} {y:u.den} {z:t.den} {O:List Nat} {cs:List Value},(if h:u=t then some (I8 h y) else if h:u.sh=t then (match u.W4 with
   | true=>some (cast ((E9 u).symm.trans (congrArg Ty.den h)) y)
   | false=>none) else (match vJ u t with
   | true=>some (msV u t y)
   | false=>none))=some z->g9 H S u O cs y->∃ O1 D,O.Perm (O1++D)/\t.size=u.size/\∀ S':Nat->Prop,(∀ b,S b->S' b)->(∀ b∈D,S' b)->g9 H S' t O1 cs z:=by
  intro u t y z O cs h hR;split at h
  ·rename_i e
   subst e;cases h;exact ⟨O,[],by simp,rfl,λ S' hS _=>hR.u5 (λ _ _=>rfl) hS⟩
  ·split at h
   ·rename_i e
    subst e;split at h
    ·rename_i hn
     cases h;exact ⟨[],O,by simp,S6 u,λ S' hS hD=>hR.vS hD hS hn⟩
    ·cases h
   ·split at h
    ·rename_i hm
     cases h;exact ⟨O,[],by simp,(yO hm).1,λ S' hS _=>(Xt hm hR).u5 (λ _ _=>rfl) hS⟩
    ·cases h
 intro u
 induction u with
 | pair a b iha ihb =>
  intro t y z O cs h hR;cases t with
  | pair c d =>
   simp only [yV] at h;split at h
   ·rename_i x1 x2 h1 h2
    cases h;obtain ⟨P1,P2,rfl,r1,r2⟩:=hR;obtain ⟨A1,D1,e1,s1,k1⟩:=iha h1 r1;obtain ⟨A2,D2,e2,s2,k2⟩:=ihb h2 r2;refine ⟨A1++A2,D1++D2,?_,by simp only [Ty.size,s1,s2],λ S' hS hD=>⟨A1,A2,rfl,?_,?_⟩⟩
    ·refine (e1.append e2).trans ?_
     rw [aAl,aAl];refine aBs _ ?_;rw [<- aAl,<- aAl];exact aHh _ aCz
    ·rw [s1]; exact k1 S' hS (λ b hb=>hD b (by simp [hb]))
    ·rw [s1]; exact k2 S' hS (λ b hb=>hD b (by simp [hb]))
   ·cases h
  | _=>exact base h hR
 | _=>intro t y z O cs h hR; cases t<;>exact base h hR
def HG (ι:Ix) (hp:List (Nat×i6)) (i b:Nat):Prop:=∃ e,look i hp=some e/\b∈l7 ι i e
theorem Ov (h:HS B S ι s.hp w) {i:Nat} {p:List Step} {lo hi:Int} {v:Value} (hv:VX w.heap S ι s.hp (.sub i p lo hi) [v]) {t:Ty} {l:List t.den} (hw:s.view i p lo hi=some ⟨t,l⟩) :
  ∃ A c,v=l5 (.d0 false t.sh) [.slice A l.length c]/\(l=[]\/∃ b off O,A=some ⟨b,off,none⟩/\HG ι s.hp i b/\off+l.length*t.size<=(w6 w.heap b).length/\j5 (g9 w.heap S t) t.size O (e8 w.heap b off (l.length*t.size)) l/\(∀ c∈O,HG ι s.hp i c)/\(l.length<=c/\c<=maxLen)):=by
 obtain ⟨e,v',h1,h2,h3,h4,h5,h6⟩:=hv;cases h3;have aS:=h.ob i e h1;unfold St.view at hw;rcases h6 with ⟨t',l',a,cap,k1,k2,k3,c,A,k4,kA,k5,k6⟩|⟨n,t',l',b,off,k1,⟨k2,k2'⟩,k3,c,A,k4,kA,k5,k6⟩
 ·have hp:s.part i p=some ⟨.d0 true t',l'⟩:=by unfold St.part St.obj; rw [h1]; exact k1
  rw [hp] at hw;simp only [aAc,Sigma.mk.injEq] at hw;obtain ⟨rfl,hw⟩:=hw;have hw:=eq_of_heq hw;subst hw;have hlen:(o5 lo hi l').length=(hi - lo).toNat:=zE h4 k2;refine ⟨_,c,by rw [hlen]; exact k4,?_⟩;by_cases hz:o5 lo hi l'=[]
  ·exact .inl hz
  ·obtain ⟨O2,m1,m2,m3⟩:=H5 h h1 h2 k1 k3
   rcases m3 with ⟨_,_,hn⟩|⟨b1,o1,gL,O',c1,c2,c3,c4,c5,rfl,c7⟩
   ·exfalso; apply hz; rw [hn]; simp [o5]
   ·simp only [aBa,Value.slice.injEq,and_true] at c1
    obtain ⟨rfl,_,rfl⟩:=c1;have fi:0<(hi - lo).toNat:=by rw [<- hlen]; exact aCd.2 hz
    obtain ⟨P1,P2,P3,e1,g⟩:=c5.cut lo.toNat (hi - lo).toNat;have hle:lo.toNat*t'.size+(hi - lo).toNat*t'.size<=List.length l'*t'.size:=by rw [<- aBl]; exact aAm _ (by omega)
    rw [o6,n7 _ _ _ _ (by omega)] at g;refine .inr ⟨b1,o1+lo.toNat*t'.size,P2,by rw [kA (by omega),aBe,Addr.I1],⟨e,h1,G6 (m1 b1 (by simp))⟩,by rw [hlen]; omega,by rw [hlen]; exact g,λ c hc=>⟨e,h1,G6 (m1 c (by rw [e1]; simp [hc]))⟩,by rw [hlen]; exact k5,by have:=c3.1; omega⟩
 ·have hp:s.part i p=some ⟨.arr n t',l'⟩:=by unfold St.part St.obj; rw [h1]; exact k1
  rw [hp] at hw;simp only [aAc,Sigma.mk.injEq] at hw;obtain ⟨rfl,hw⟩:=hw;have hw:=eq_of_heq hw;subst hw;obtain ⟨O2,m1,m2,m3,m4,m5,m6⟩:=N5 (K9 k3) aS h.slt h2 k1 k3;obtain ⟨hl,m3⟩:=m3;have hlen:(o5 lo hi l').length=(hi - lo).toNat:=zE h4 (by rw [hl]; exact k2);refine ⟨_,c,by rw [hlen]; exact k4,?_⟩;by_cases hz:o5 lo hi l'=[]
  ·exact .inl hz
  ·have fi:0<(hi - lo).toNat:=by rw [<- hlen]; exact aCd.2 hz
   obtain ⟨P1,P2,P3,e1,g⟩:=m3.cut lo.toNat (hi - lo).toNat;have hle:lo.toNat*t'.size+(hi - lo).toNat*t'.size<=n*t'.size:=by rw [<- aBl]; exact aAm _ (by omega)
   simp only [Ty.size] at g m4;rw [o6,n7 _ _ _ _ (by omega)] at g;exact .inr ⟨b,off+lo.toNat*t'.size,P2,by rw [kA (by omega),aBe,Addr.I1],⟨e,h1,m5⟩,by rw [hlen]; omega,by rw [hlen]; exact g,λ c hc=>⟨e,h1,G6 (m1 c (by rw [e1]; simp [hc]))⟩,by rw [hlen]; exact k5,by omega⟩
theorem AE:∀ t:Ty,t.rdT.size=t.size:=by
 intro t
 induction t with
 | pair a b iha ihb=>simp only [Ty.rdT,Ty.size,iha,ihb]
 | arr n t ih=>simp only [Ty.rdT,Ty.size,ih]
 | _=>rfl
theorem Wm (t:Ty):t.rdT.agg=t.agg:=by cases t<;>rfl
theorem IU:∀ {u:Ty} {O:List Nat} {cs:List Value} {y:u.den},g9 H S u O cs y->(∀ b∈O,S' b)->(∀ b,S b->S' b)->u.okM=true->g9 H S' u.rdT [] cs (rdV u y):=by
 have d0:∀ {o:Bool} {u v:Ty} {f:u.den->v.den} {O:List Nat} {cs:List Value} {y:List u.den},v.size=u.size->(∀ {O:List Nat} {cs:List Value} {y:u.den},g9 H S u O cs y->(∀ b∈O,S' b)->g9 H S' v [] cs (f y)) ->
   g9 H S (.d0 o u) O cs y->(∀ b∈O,S' b)->(∀ b,S b->S' b)->g9 H S' (.d0 false v) [] cs (y.map f):=by
  intro o u v f O cs y aW ih h hO hS;rcases h with ⟨_,⟨a,c,h2,fG⟩,h3⟩|⟨b,off,cap,O',c1,c2,c3,c4,c5,c6⟩
  ·have h3:y=[]:=h3
   subst h3; exact .inl ⟨rfl,⟨a,c,h2,λ h=>by cases h⟩,rfl⟩
  ·have hb:S' b:=by
    cases o with
    | true=>exact hO b (by rw [c6.1]; simp)
    | false=>exact hS b c6.2.2
   have gK:∀ c∈O',c∈O:=by
    intro c hc;cases o with
    | true=>rw [c6.1]; simp [hc]
    | false=>rw [c6.2.1] at hc; cases hc
   refine .inr ⟨b,off,cap,[],by rw [aAn]; exact c1,by rw [aAn]; exact c2,⟨c3.1,λ h=>by cases h⟩,by rw [aAn,aW]; exact c4,?_,rfl,rfl,hb⟩;rw [aAn,aW];exact j5.map (L:=O) (λ O1 cs x hL hr=>ih hr (λ b hb=>hO b (hL b hb))) gK c5
 intro u
 induction u with
 | int k=>intro O cs y h _ _ _; exact ⟨rfl,h.2⟩
 | bool=>intro O cs y h _ _ _; exact ⟨rfl,h.2⟩
 | str=>intro O cs y h _ _ _; exact ⟨rfl,h.2⟩
 | unit=>intro O cs y h _ _ _; exact ⟨rfl,h.2⟩
 | fn f=>intro O cs y h _ _ _; exact ⟨rfl,h.2⟩
 | map o k v=>intro O cs y h hO hS hn; exact g9.vS (u:=.map o k v) h hO hS hn
 | box o g t=>intro O cs y h hO hS hn; exact g9.vS (u:=.box o g t) h hO hS hn
 | hole t=>intro O cs y h hO hS hn; cases hn
 | pair a c iha ihc =>
  rintro O cs y ⟨O1,O2,rfl,h1,h2⟩ hO hS hn;simp only [Ty.okM,aAa] at hn;exact ⟨[],[],rfl,by rw [AE]; exact iha h1 (λ b hb=>hO b (by simp [hb])) hS hn.1,by rw [AE]; exact ihc h2 (λ b hb=>hO b (by simp [hb])) hS hn.2⟩
 | arr n t ih =>
  rintro O cs y h hO hS hn;by_cases hh:t.W4=true
  ·have:=g9.vS (S':=S') (u:=.arr n t) h hO hS hh
   show g9 H S' (.arr n t.rdT) [] cs (if h:t.W4=true then cast (congrArg List (xT h)) y else List.map (rdV t) y);rw [dif_pos hh];have e:=IT t hh;revert this;generalize xT hh=e2;revert e2;rw [e];intro e2 this;exact this
  ·show g9 H S' (.arr n t.rdT) [] cs (if h:t.W4=true then cast (congrArg List (xT h)) y else List.map (rdV t) y)
   rw [dif_neg hh];refine ⟨by rw [aAn]; exact h.1,?_⟩;rw [AE];exact j5.map (L:=O) (λ O1 cs x hL hr=>ih hr (λ b hb=>hO b (hL b hb)) hS hn) (λ _ h=>h) h.2
 | d0 o t ih =>
  rintro O cs y h hO hS hn;by_cases hh:t.W4=true
  ·have:=g9.vS (S':=S') (u:=.d0 o t) h hO hS hh
   show g9 H S' (.d0 false t.rdT) [] cs (if h:t.W4=true then cast (congrArg List (xT h)) y else List.map (rdV t) y);rw [dif_pos hh];have e:=IT t hh;revert this;generalize xT hh=e2;revert e2;rw [e];intro e2 this;exact this
  ·show g9 H S' (.d0 false t.rdT) [] cs (if h:t.W4=true then cast (congrArg List (xT h)) y else List.map (rdV t) y)
   rw [dif_neg hh];exact d0 (AE t) (λ hr hO=>ih hr hO hS hn) h hO hS
 | B9 t ih =>
  rintro O cs ⟨n,l,m⟩ h hO hS hn;show g9 H S' (.d0 false t.sh) [] cs (cast (congrArg List (E9 t).symm) l);rw [zu (E9 t).symm];have ih:∀ {O:List Nat} {cs:List Value} {y:t.den},g9 H S t O cs y->(∀ b∈O,S' b)->g9 H S' t.sh [] cs (cast (E9 t).symm y):=λ hr hO=>hr.vS hO hS hn
  match n,h with
  | 0,h=>exact d0 (o:=false) (S6 t) ih h hO hS
  | 1,h=>exact d0 (o:=true) (S6 t) ih h hO hS
  | n+2,⟨b,off,O',c1,c2,c3,c4,c5⟩ =>
   have hb:S' b:=by
    cases n with
    | zero=>exact hO b (by rw [c5.1]; simp)
    | succ n=>exact hS b c5.2.2
   have gK:∀ c∈O',c∈O:=by
    intro c hc;cases n with
    | zero=>rw [c5.1]; simp [hc]
    | succ n=>rw [c5.2.1] at hc; cases hc
   rw [aAe,aBl] at c3 c4;obtain ⟨P1,P2,P3,e1,g⟩:=c4.cut 0 l.length;simp only [aFa,aCb,aDd] at g;refine .inr ⟨b,off,List.length l+List.length m,[],by rw [aAn]; exact c1,by rw [aAn]; omega,⟨c2.1,λ h=>by cases h⟩,by rw [aAn,S6]; omega,?_,rfl,rfl,hb⟩;rw [aAn,S6];have g2:j5 (g9 H S t) t.size P2 (e8 H b off (l.length*t.size)) l:=by
    rw [n7 _ _ _ _ (by omega)] at g;exact g
   exact j5.map (L:=O) (λ O1 cs x hL hr=>ih hr (λ b hb=>hO b (hL b hb))) (λ c hc=>gK c (by rw [e1]; simp [hc])) g2
theorem XF {a t:Ty} {y:(Ty.B9 a).den} {x:t.den} (h:rdS a t y=some x):t.size=1/\t.agg=false/\∀ {O:List Nat} {cs:List Value},g9 H S (.B9 a) O cs y->(∀ b∈O,S' b)->(∀ b,S b->S' b)->g9 H S' t [] cs x:=by
 unfold rdS at h;split at h
 ·rename_i b
  split at h
  ·rename_i e
   subst e;split at h
   ·rename_i hn
    obtain ⟨n,l,m⟩:=y;cases h;refine ⟨rfl,rfl,λ {O cs} hR hO hS=>?_⟩;show g9 H S' (.B9 a.sh) [] cs (shF n,cast (congrArg List (E9 a).symm) l,cast (congrArg List (E9 a).symm) m);have h0:=IU (S':=S') hR hO hS hn
    match n,hR with
    | 0,hR=>exact h0
    | 1,hR=>exact h0
    | n+2,⟨b,off,O',c1,c2,c3,c4,c5⟩ =>
     have hb:S' b:=by
      cases n with
      | zero=>exact hO b (by rw [c5.1]; simp)
      | succ n=>exact hS b c5.2.2
     have gK:∀ c∈O',c∈O:=by
      intro c hc;cases n with
      | zero=>rw [c5.1]; simp [hc]
      | succ n=>rw [c5.2.1] at hc; cases hc
     have hlen:∀ l:List a.den,List.length (cast (congrArg List (E9 a).symm) l:List a.sh.den)=l.length:=λ l=>by rw [zu (E9 a).symm,aAn]
     have cp:((cast (congrArg List (E9 a).symm) l:List a.sh.den)++(cast (congrArg List (E9 a).symm) m:List a.sh.den))=(l++m).map (cast (E9 a).symm):=by
      rw [zu (E9 a).symm,zu (E9 a).symm,aEx]
     refine ⟨b,off,[],by rw [hlen,hlen]; exact c1,by rw [hlen,hlen]; exact c2,by rw [cp,aAn,S6]; exact c3,?_,rfl,rfl,hb⟩;rw [cp,aAn,S6];exact j5.map (L:=O) (λ O1 cs x hL hr=>hr.vS (λ b hb=>hO b (hL b hb)) hS hn) gK c4
   ·cases h
  ·cases h
 ·cases h
theorem XE {t u:Ty} {y:u.den} {x:t.den} (h:rdM t u y=some x):t.size=u.size/\t.agg=u.agg/\∀ {O:List Nat} {cs:List Value},g9 H S u O cs y->(∀ b∈O,S' b)->(∀ b,S b->S' b)->g9 H S' t [] cs x:=by
 unfold rdM at h;split at h
 ·rename_i hm
  split at h
  ·rename_i e
   subst e;cases h;exact ⟨AE u,Wm u,λ hR hO hS=>IU hR hO hS hm⟩
  ·split at h
   ·exact XF h
   ·cases h
 ·cases h
theorem KN {t:Ty} {r:Option (Sigma Ty.den)} {x:t.den} (h:xN t r=some x):∃ u y,r=some ⟨u,y⟩:=by
 unfold xN at h;split at h
 ·exact ⟨_,_,rfl⟩
 ·cases h
theorem BZ {t u:Ty} (h:t.agg=u.agg) (cs:List Value):l5 t cs=l5 u cs:=by simp only [l5,h]
theorem Ez {t u:Ty} {y:u.den} {x:t.den} (h:xN t (some ⟨u,y⟩)=some x):t.size=u.size/\t.agg=u.agg/\∀ {O:List Nat} {cs:List Value},g9 H S u O cs y->(∀ b∈O,S' b)->(∀ b,S b->S' b)->g9 H S' t [] cs x:=by
 simp only [xN] at h;split at h
 ·rename_i hn
  split at h
  ·rename_i e
   subst e;cases h;exact ⟨JU u,Ea (Ty.Nw u),λ hR hO hS=>hR.Vp hO hS hn⟩
  ·cases h
 ·exact XE h
theorem Zs {t u:Ty} {l:List u.den} {x:t.den} (h:xN t (some ⟨.d0 true u,l⟩)=some x):∃ (t':Ty) (f:u.den->t'.den) (e:t=.d0 false t'),I8 e x=l.map f/\t'.size=u.size /\
  ∀ {O:List Nat} {cs:List Value} {y:u.den},g9 H S u O cs y->(∀ b∈O,S' b)->(∀ b,S b->S' b)->g9 H S' t' [] cs (f y):=by
 simp only [xN] at h;split at h
 ·rename_i hn
  split at h
  ·rename_i e
   subst e;cases h;exact ⟨u.sh,cast (E9 u).symm,rfl,zu (E9 u).symm _ l,S6 u,λ hR hO hS=>hR.vS hO hS hn⟩
  ·cases h
 ·rename_i hn
  unfold rdM at h;split at h
  ·rename_i hm
   split at h
   ·rename_i e
    subst e;cases h;refine ⟨u.rdT,rdV u,rfl,?_,AE u,λ hR hO hS=>IU hR hO hS hm⟩;show (if h:u.W4=true then cast (congrArg List (xT h)) l else List.map (rdV u) l)=List.map (rdV u) l;rw [dif_neg (λ e=>by rw [show (Ty.d0 true u).okH=u.W4 from rfl,e] at hn; cases hn)]
   ·cases h
  ·cases h
theorem Iu {v:AV} {t:Ty} {x:t.den} {val:Value} (h:v.as t=some x) (hv:VX H S ι hp v [val]):∃ cs,val=l5 t cs/\g9 H S t [] cs x:=by
 unfold AV.as at h;split at h
 ·rename_i u y
  split at h
  ·rename_i hu; subst hu; cases h
   obtain ⟨cs,e,hR⟩:=hv;exact ⟨cs,by simpa using e,hR⟩
  ·cases h
 ·split at h
  ·cases h
   have:[val]=[Value.slice none 0 0]:=hv;exact ⟨[.slice none 0 0],by simpa [l5,Ty.agg] using this,.inl ⟨rfl,⟨none,0,rfl,λ _=>rfl⟩,rfl⟩⟩
  ·cases h
 ·cases h
def N4 (ι:Ix) (hp:List (Nat×i6)) (g:List Nat) (b:Nat):Prop:=∃ i e,i∈g/\look i hp=some e/\b∈l7 ι i e
theorem Oc (h:HS B S ι s.hp w) {v:AV} {t:Ty} {x:t.den} {val:Value} (hx:v.asV s t=some x) (hv:VX w.heap S ι s.hp v [val]) {S1:Nat->Prop} (hS:∀ b,S b->S1 b) (hL:∀ b,N4 ι s.hp v.G8 b->S1 b) :
  ∃ cs,val=l5 t cs/\g9 w.heap S1 t [] cs x:=by
 unfold AV.asV at hx;split at hx
 ·rename_i i p
  obtain ⟨u,y,hp⟩:=KN hx;unfold St.vI at hx;rw [hp] at hx;obtain ⟨e,u',y',cs,h1,h2,h3,h4,h5⟩:=hv;have hg:=I3 h1 hp;rw [h3] at hg; cases hg;obtain ⟨O2,k1,_,k2⟩:=H5 h h1 h2 h3 h4;obtain ⟨_,g2,g3⟩:=Ez (H:=w.heap) (S:=S) (S':=S1) hx;exact ⟨cs,by rw [BZ g2]; simpa using h5,g3 k2 (λ b hb=>hL b ⟨i,e,by simp [AV.G8],h1,G6 (k1 b hb)⟩) hS⟩
 ·rename_i i p lo hi
  split at hx
  ·rename_i u l hw
   obtain ⟨t',f,e,hf,aW,hr⟩:=Zs (H:=w.heap) (S:=S) (S':=S1) hx;subst e;have hf:x=l.map f:=hf;subst hf;have rN:∀ b,(S b\/HG ι s.hp i b)->S1 b:=λ b hb=>hb.elim (hS b) (λ⟨e,h1,h2⟩=>hL b ⟨i,e,by simp [AV.G8],h1,h2⟩);obtain ⟨A,c,k1,k2⟩:=Ov h hv hw;refine ⟨[.slice A l.length c],k1,?_⟩;rcases k2 with rfl|⟨b,off,O,rfl,hb,h4,h5,h6,h7⟩
   ·exact .inl ⟨rfl,⟨A,c,rfl,λ h=>by cases h⟩,rfl⟩
   ·refine .inr ⟨b,off,c,[],by rw [aAn],by rw [aAn]; exact h7.1,⟨h7.2,λ h=>by cases h⟩,by rw [aAn,aW]; exact h4,?_,rfl,rfl,rN b (.inr hb)⟩
    rw [aAn,aW];exact j5.map (L:=O) (λ O1 cs x oC hq=>hr hq (λ b hb=>rN b (.inr (h6 b (oC b hb)))) hS) (λ _ h=>h) h5
  ·cases hx
 ·rename_i u x'
  split at hx
  ·rename_i hu; subst hu; cases hx
   obtain ⟨cs,e,hR⟩:=hv;exact ⟨cs,by simpa using e,hR.u5 (λ _ _=>rfl) hS⟩
  ·obtain ⟨cs,e,hR⟩:=hv
   obtain ⟨_,g2,g3⟩:=Ez (H:=w.heap) (S:=S) (S':=S1) hx;exact ⟨cs,by rw [BZ g2]; simpa using e,g3 hR (by simp) hS⟩
 ·obtain ⟨cs,e,hR⟩:=Iu hx hv
  exact ⟨cs,e,hR.u5 (λ _ _=>rfl) hS⟩
theorem IL (h:HS B S ι s.hp w) {v:AV} {t:Ty} {x:t.den} {val:Value} (hx:v.asR s t=some x) (hv:VX w.heap S ι s.hp v [val]) {S1:Nat->Prop} (hS:∀ b,S b->S1 b) (hL:∀ b,N4 ι s.hp v.G8 b->S1 b) :
  Ha w.heap S1 t val x:=by
 unfold AV.asR at hx;split at hx
 ·rename_i i p
  obtain ⟨u,y,hp⟩:=KN hx;unfold St.vI at hx;rw [hp] at hx;obtain ⟨e,b,off,h1,h2,h3,h4⟩:=hv;have hg:=I3 h1 hp;obtain ⟨O2,m1,m2,m3,m4,m5,_⟩:=N5 (K9 h3) (h.ob i e h1) h.slt h2 hg h3;obtain ⟨g1,g2,g3⟩:=Ez (H:=w.heap) (S:=S) (S':=S1) hx;refine ⟨b,off,by simpa using h4,hL b ⟨i,e,by simp [AV.G8],h1,m5⟩,by rw [g1]; exact m4,?_⟩;rw [g1];exact g3 m3 (λ b hb=>hL b ⟨i,e,by simp [AV.G8],h1,G6 (m1 b hb)⟩) hS
 ·rename_i u x'
  split at hx
  ·rename_i hu; subst hu; cases hx
   obtain ⟨b,off,e,h1,h2,h3⟩:=hv;exact ⟨b,off,by simpa using e,hS b h1,h2,h3.u5 (λ _ _=>rfl) hS⟩
  ·cases hx
 ·rename_i i p
  split at hx
  ·rename_i u
   split at hx
   ·rename_i x0 ir
    cases hx;obtain ⟨u',y,hp⟩:=KN ir;unfold St.vI at ir;rw [hp] at ir;obtain ⟨b0,off0,v0,e0,lW,iY,ep,e,b,off,h1,h2,h3,h4⟩:=hv;have hg:=I3 h1 hp;obtain ⟨O2,m1,m2,m3,m4,m5,_⟩:=N5 (K9 h3) (h.ob i e h1) h.slt h2 hg h3;obtain ⟨g1,g2,g3⟩:=Ez (H:=w.heap) (S:=S) (S':=S1) ir;obtain rfl:v0=.pointer (some ⟨b,off,none⟩):=by simpa using h4
    have hk:=g3 m3 (λ b hb=>hL b ⟨i,e,by simp [AV.G8],h1,G6 (m1 b hb)⟩) hS;refine ⟨b0,off0,by simpa using e0,hS _ lW,iY,?_⟩;rw [show e8 w.heap b0 off0 (Ty.box false none u).size=[.pointer (some ⟨b,off,none⟩)] from ep];exact .inr ⟨_,b,off,[],rfl,rfl,by rw [g1]; exact m4,by rw [g1]; exact hk,rfl,rfl,hL b ⟨i,e,by simp [AV.G8],h1,m5⟩⟩
   ·cases hx
  ·cases hx
 ·cases hx
theorem Qz (h:HS B S ι s.hp w) {S1:Nat->Prop} (hS:∀ b,S b->S1 b):∀ {ts:List Ty} {v:AV} {x:DL ts} {vs:List Value},AV.yf s ts v=some x->VX w.heap S ι s.hp v vs->(∀ b,N4 ι s.hp v.G8 b->S1 b)->RdL w.heap S1 ts vs x
 | [],v,x,vs,hx,hv,_=>by
  cases v<;>simp only [AV.yf] at hx<;>first|cases hx|skip
  exact hv
 | t::ts,v,x,vs,hx,hv,hL=>by
  cases v<;>simp only [AV.yf] at hx<;>first|cases hx|skip
  rename_i a b;split at hx
  ·rename_i x1 x2 h1 h2
   cases hx;obtain ⟨v,us,rfl,ha,hb⟩:=hv;exact ⟨v,us,rfl,IL h h1 ha hS (λ c hc=>hL c (by obtain ⟨i,e,q1,q2⟩:=hc; exact ⟨i,e,by simp [AV.G8,q1],q2⟩)),Qz h hS h2 hb (λ c hc=>hL c (by obtain ⟨i,e,q1,q2⟩:=hc; exact ⟨i,e,by simp [AV.G8,q1],q2⟩))⟩
  ·cases hx
theorem Pl {H:Array Go.Obj} {t':Ty} {O2:List Nat} {A:Option Addr} {cap:Nat} {x':List t'.den} {lo hi:Int} {v:Value} (m3:g9 H S (.d0 true t') O2 [.slice A (List.length x') cap] x') (m2:O2.Nodup) (h4:0<=lo) (h5:lo<=hi) (k2:hi<=(List.length x':Int)) (hv:AY t'.size A cap lo hi v) :
  ∃ O cs,v=l5 (.d0 true t') cs/\g9 H S (.d0 true t') O cs (o5 lo hi x')/\O.Nodup/\∀ b∈O,b∈O2:=by
 obtain ⟨c,A',k4,kA,k5,k6⟩:=hv;have hlen:(o5 lo hi x').length=(hi - lo).toNat:=zE h4 k2;by_cases hc:c=0
 ·refine ⟨[],[.slice A' 0 0],?_,.inl ⟨rfl,⟨A',0,rfl,λ _=>rfl⟩,?_⟩,aAw,by simp⟩
  ·rw [k4,hc]
   have:(hi - lo).toNat=0:=by omega
   rw [this]; rfl
  ·exact aCj.1 (by omega)
 ·rcases m3 with ⟨_,⟨a2,c2,q1,q2⟩,hn⟩|⟨b1,o1,gL,O',c1,c2,c3,c4,c5,rfl,c7⟩
  ·exfalso
   simp only [aBa,Value.slice.injEq,and_true] at q1;have:=q2 rfl;omega
  ·simp only [aBa,Value.slice.injEq,and_true] at c1
   obtain ⟨rfl,_,rfl⟩:=c1;obtain ⟨P1,P2,P3,e1,g1⟩:=c5.cut lo.toNat (hi - lo).toNat;have hle:lo.toNat*t'.size+(hi - lo).toNat*t'.size<=List.length x'*t'.size:=by rw [<- aBl]; exact aAm _ (by omega)
   have cO:(lo.toNat+c)*t'.size<=cap*t'.size:=aAm _ (aFb k6);rw [aBl] at cO;rw [o6,n7 _ _ _ _ (by omega)] at g1;have aJ:(b1::P2).Nodup:=by
    rw [e1] at m2;have h1:=aAs.1 m2;refine aAs.2 ⟨λ hb=>h1.1 (by simp [hb]),(aAg.1 (aAg.1 h1.2).2.1).1⟩
   refine ⟨b1::P2,[.slice (some ⟨b1,o1+lo.toNat*t'.size,none⟩) (o5 lo hi x').length c],?_,.inr ⟨b1,o1+lo.toNat*t'.size,c,P2,rfl,by rw [hlen]; exact k5,⟨by have:=c3.1; omega,λ _=>by omega⟩,by rw [hlen]; omega,by rw [hlen]; exact g1,rfl,c7.mono (by omega)⟩,aJ,λ b hb=>?_⟩
   ·rw [k4,kA hc,hlen,aBe,Addr.I1]; rfl
   ·rcases aAp.1 hb with rfl|hb
    ·simp
    ·rw [e1]; simp [hb]
theorem Az (h:HS B S ι s.hp w) {v:AV} {val:Value} {t:Ty} {x:t.den} {g:List Nat} (hg:v.vl s=some (⟨t,x⟩,g)) (hv:VX w.heap S ι s.hp v [val]) :
  ∃ O cs,val=l5 t cs/\g9 w.heap S t O cs x/\O.Nodup/\∀ b∈O,N4 ι s.hp g b:=by
 unfold AV.vl at hg;split at hg
 ·cases hg
  obtain ⟨cs,e,hR⟩:=hv;exact ⟨[],cs,by simpa using e,hR,aAw,by simp⟩
 ·rename_i i
  split at hg
  ·rename_i t' x' aS
   cases hg;obtain ⟨e,u,y,cs,h1,h2,h3,h4,h5⟩:=hv;obtain rfl:=wG h1 aS;rw [C1] at h3; cases h3;obtain ⟨O2,m1,m2,m3⟩:=H5 h h1 h2 C1 h4;have h5:val=l5 t cs:=by simpa [i6.ty] using h5
   exact ⟨O2,cs,h5,m3,m2,λ b hb=>⟨i,_,by simp,h1,G6 (m1 b hb)⟩⟩
  ·cases hg
 ·rename_i i lo hi
  split at hg
  ·rename_i t' x' aS
   cases hg;obtain ⟨e,v,h1,h2,h3,h4,h5,h6⟩:=hv;obtain rfl:=wG h1 aS;cases h3;rcases h6 with ⟨t1,l,A,cap,k1,k2,k3,k4⟩|⟨n,t1,l,b,off,k1,_,k3,_⟩
   ·have k1:j9 (.d0 true t') x' []=some ⟨.d0 true t1,l⟩:=k1
    rw [C1] at k1; cases k1;obtain ⟨O2,m1,m2,m3⟩:=H5 h h1 h2 C1 k3;obtain ⟨O,cs,q1,q2,q3,q4⟩:=Pl m3 m2 h4 h5 k2 k4;exact ⟨O,cs,q1,q2,q3,λ b hb=>⟨i,_,by simp,h1,G6 (m1 b (q4 b hb))⟩⟩
   ·exfalso
    simp only [Loc,Place,y9,VR] at k3;simp at k3
  ·cases hg
 ·cases hg
theorem Fg (h:HS B S ι s.hp w) {v:AV} {val:Value} {t:Ty} {x:t.den} {g:List Nat} (hg:v.vL s=some (⟨t,x⟩,g)) (hv:VX w.heap S ι s.hp v [val]) :
  ∃ O cs,val=l5 t cs/\g9 w.heap S t O cs x/\O.Nodup/\∀ b∈O,N4 ι s.hp g b:=by
 unfold AV.vL at hg;split at hg
 ·rename_i i
  split at hg
  ·rename_i t' x' aS
   cases hg;obtain ⟨e,u,y,cs,h1,h2,h3,h4,h5⟩:=hv;obtain rfl:=wG h1 aS;rw [C1] at h3; cases h3;obtain ⟨O2,m1,m2,m3⟩:=H5 h h1 h2 C1 h4;have h5:val=l5 t cs:=by simpa [i6.ty] using h5
   exact ⟨O2,cs,h5,m3,m2,λ b hb=>⟨i,_,by simp,h1,G6 (m1 b hb)⟩⟩
  ·exact Az h hg hv
 ·rename_i f
  cases hg;obtain ⟨us,e,rfl⟩:=hv;have e:val=.func (.func f) #[] #[]:=by simpa using e
  exact ⟨[],[fnV f true],e,⟨rfl,rfl⟩,aAw,by simp⟩
 ·exact Az h hg hv
theorem N4.mono {g g':List Nat} {b:Nat} (h:N4 ι hp g b) (hs:∀ i∈g,i∈g'):N4 ι hp g' b:=by
 obtain ⟨i,e,h1,h2⟩:=h; exact ⟨i,e,hs i h1,h2⟩
def PK.reads:PK->Bool
 | .own _|.rw _|.mu _|.rcs _ _|.el _=>false
 | _=>true
theorem Wp (h:HS B S ι s.hp w) {S1:Nat->Prop} (hS:∀ b,S b->S1 b) {k:PK} {v:AV} {x:k.den} {val:Value} {g m:List Nat} (hx:v.R7 s k=some (x,g,m)) (hv:VX w.heap S ι s.hp v [val])
  (hL:k.reads=true->∀ b,N4 ι s.hp v.G8 b->S1 b) :
  ∃ L,Mq w.heap S1 k val x L/\L.Nodup/\(∀ b∈L,N4 ι s.hp (g++m) b)/\∀ i∈m,∀ e,look i s.hp=some e->∀ b∈l7 ι i e,b∈L:=by
 cases k with
 | v t =>
  simp only [AV.R7] at hx;split at hx
  ·rename_i y hy; cases hx
   obtain ⟨cs,e,hR⟩:=Oc h hy hv hS (hL rfl);exact ⟨[],⟨rfl,cs,e,hR⟩,aAw,by simp,by simp⟩
  ·cases hx
 | rd t =>
  simp only [AV.R7] at hx;split at hx
  ·rename_i y hy; cases hx
   exact ⟨[],⟨rfl,IL h hy hv hS (hL rfl)⟩,aAw,by simp,by simp⟩
  ·cases hx
 | C7 f ts =>
  cases v<;>simp only [AV.R7] at hx<;>first|cases hx|skip
  rename_i f' l;cases hb:Nat.beq f f' with
  | false=>rw [hb] at hx; cases hx
  | true =>
   rw [hb] at hx;simp only at hx;have tr:=aAd hb;split at hx
   ·rename_i y hy; cases hx
    obtain ⟨us,e,sg⟩:=hv;exact ⟨[],⟨rfl,us,by simpa [tr] using e,Qz h hS hy sg (λ b hb=>hL rfl b hb)⟩,aAw,by simp,by simp⟩
   ·cases hx
 | rcs f n=>simp only [AV.R7] at hx; cases hx
 | el q=>simp only [AV.R7] at hx; cases hx
 | W6 =>
  simp only [AV.R7] at hx;split at hx
  ·cases hx
   exact ⟨[],⟨rfl,by simpa using (show [val]=[Value.slice none 0 0] from hv)⟩,aAw,by simp,by simp⟩
  ·cases hx
 | own t =>
  simp only [AV.R7] at hx;split at hx
  ·split at hx
   ·rename_i y hy; cases hx
    obtain ⟨cs,e,hR⟩:=Iu hy hv;exact ⟨[],⟨cs,e,hR.u5 (λ _ _=>rfl) hS⟩,aAw,by simp,by simp⟩
   ·cases hx
  ·split at hx
   ·rename_i u y l hg
    split at hx
    ·rename_i hu; subst hu; cases hx
     obtain ⟨O,cs,e,hR,aJ,hO⟩:=Fg h hg hv;exact ⟨O,⟨cs,e,hR.u5 (λ _ _=>rfl) hS⟩,aJ,λ b hb=>(hO b hb).mono (by simp),by simp⟩
    ·cases hx
   ·cases hx
 | rw t =>
  simp only [AV.R7] at hx;split at hx
  ·rename_i i
   split at hx
   ·rename_i u y aS
    split at hx
    ·rename_i hu; subst hu; cases hx
     obtain ⟨e,b,off,h1,h2,h3,h4⟩:=hv;obtain rfl:=wG h1 aS;obtain ⟨⟨O,hO,hR⟩,hf,aJ⟩:=h.ob i _ h1;have hl:(ι.root i).1=b/\(ι.root i).2=off:=by
      have:=(C8 h3).1;simp only [Place,y9,VR,aAc,aAx] at this;exact this
     obtain ⟨rfl,rfl⟩:=hl;refine ⟨(ι.root i).1::O,⟨_,_,O,by simpa using h4,hR.u5 (λ _ _=>rfl) hS,hf,rfl⟩,?_,?_,?_⟩
     ·exact ((hO.cons _).nodup_iff).2 aJ
     ·intro c hc
      refine ⟨i,_,by simp,h1,?_⟩;simp only [l7];exact ((hO.cons _).mem_iff).1 hc
     ·intro j hj e' eD c hc
      simp only [aAp,aDq,or_false] at hj;subst hj;rw [h1] at eD; cases eD;exact ((hO.cons _).mem_iff).2 hc
    ·cases hx
   ·cases hx
  ·cases hx
 | mu t =>
  simp only [AV.R7] at hx;split at hx
  ·rename_i i
   split at hx
   ·rename_i u y aS
    split at hx
    ·rename_i hu; subst hu; cases hx
     obtain ⟨e,u',y',cs,h1,h2,h3,h4,h5⟩:=hv;obtain rfl:=wG h1 aS;rw [C1] at h3; cases h3;obtain ⟨⟨O,hO,hR⟩,aJ⟩:=h.ob i _ h1;have hcs:=U4 h4 hR.length;have h5:val=l5 (.d0 true t) cs:=by simpa [i6.ty] using h5
     refine ⟨O,⟨cs,h5,by rw [hcs]; exact hR.u5 (λ _ _=>rfl) hS⟩,(hO.nodup_iff).2 aJ,?_,?_⟩
     ·intro c hc
      exact ⟨i,_,by simp,h1,hO.mem_iff.1 hc⟩
     ·intro j hj e' eD c hc
      simp only [aAp,aDq,or_false] at hj;subst hj;rw [h1] at eD; cases eD;exact hO.mem_iff.2 hc
    ·cases hx
   ·cases hx
  ·cases hx
end
end Go.Ex
namespace Go.Ex
section
variable {E:Env} {B:E6} {S S':Nat->Prop} {ι:Ix} {s:St} {a:Act} {w:World} {hp:List (Nat×i6)} {H H':Array Go.Obj}
theorem CS:∀ {l:List Nat},wV l=true->l.Nodup
 | [],_=>aAw
 | a::l,h=>by
  simp only [wV,aAa,aAt] at h;refine aAs.2 ⟨λ hm=>?_,CS h.2⟩;have:=h.1;simp [hm] at this
theorem Rk:∀ {l m:List Nat},Df l m=true->∀ i∈l,i∉m
 | [],_,_,i,hi=>by cases hi
 | a::l,m,h,i,hi=>by
  simp only [Df,aAa,aAt] at h;rcases aAp.1 hi with rfl|hi
  ·intro hm; have:=h.1; simp [hm] at this
  ·exact Rk h.2 i hi
theorem JC (h:HS B S ι s.hp w) {S1:Nat->Prop} (hS:∀ b,S b->S1 b):∀ {ks:List PK} {v:AV} {x:DK ks} {vs:List Value} {g m:List Nat},AV.vu s ks v=some (x,g,m)->VX w.heap S ι s.hp v vs->(g++m).Nodup ->
  (∀ b,N4 ι s.hp (T9.loose ks v) b->S1 b)->∃ L,V3 w.heap S1 ks vs x L/\L.Nodup/\(∀ b∈L,N4 ι s.hp (g++m) b)/\∀ i∈m,∀ e,look i s.hp=some e->∀ b∈l7 ι i e,b∈L
 | [],v,x,vs,g,m,hx,hv,_,_=>by
  cases v<;>simp only [AV.vu] at hx<;>first|cases hx|skip
  exact ⟨[],⟨hv,rfl⟩,aAw,by simp,by simp⟩
 | k::ks,v,x,vs,g,m,hx,hv,aJ,hL=>by
  cases v<;>simp only [AV.vu] at hx<;>first|cases hx|skip
  rename_i a b;split at hx
  ·rename_i x1 g1 m1 x2 g2 m2 h1 h2
   cases hx;obtain ⟨v,us,rfl,ha,hb⟩:=hv;have fj:∀ i,i∈g1++m1->i∉g2++m2:=by
    intro i hi cN;simp only [aAi] at hi cN;have ij:=aAg.1 aJ;have hg:=aAg.1 ij.1;have hm:=aAg.1 ij.2.1;rcases hi with hi|hi<;>rcases cN with cN|cN
    ·exact hg.2.2 i hi i cN rfl
    ·exact ij.2.2 i (by simp [hi]) i (by simp [cN]) rfl
    ·exact ij.2.2 i (by simp [cN]) i (by simp [hi]) rfl
    ·exact hm.2.2 i hi i cN rfl
   have cY:(g2++m2).Nodup:=by
    have ij:=aAg.1 aJ;have hg:=aAg.1 ij.1;have hm:=aAg.1 ij.2.1;exact aAg.2 ⟨hg.2.1,hm.2.1,λ i hi j hj=>ij.2.2 i (by simp [hi]) j (by simp [hj])⟩
   obtain ⟨L1,k1,k2,k3,k4⟩:=Wp h hS h1 ha (λ hr c hc=>hL c (by
    obtain ⟨i,e,q1,q2⟩:=hc;refine ⟨i,e,?_,q2⟩;cases k<;>first|(show i∈a.G8++T9.loose ks b; exact aBb _ q1)|(exfalso; simp [PK.reads] at hr; done)))
   obtain ⟨L2,n1,n2,n3,n4⟩:=JC h hS h2 hb cY (λ c hc=>hL c (by
    obtain ⟨i,e,q1,q2⟩:=hc;refine ⟨i,e,?_,q2⟩;cases k<;>first|(show i∈a.G8++T9.loose ks b; exact aBr _ q1)|(show i∈T9.loose ks b; exact q1)))
   refine ⟨L1++L2,⟨v,us,L1,L2,rfl,rfl,k1,n1⟩,aAg.2 ⟨k2,n2,?_⟩,?_,?_⟩
   ·rintro c hc d hd rfl
    obtain ⟨i,e,q1,q2,q3⟩:=k3 c hc;obtain ⟨j,e',r1,r2,r3⟩:=n3 c hd;have bS:i≠j:=by rintro rfl; exact fj i q1 r1
    exact h.dj i j e e' q2 r2 bS c q3 r3
   ·intro c hc
    rcases aAi.1 hc with hc|hc
    ·exact (k3 c hc).mono (by simp; intro i hi; rcases hi with hi|hi<;>simp [hi])
    ·exact (n3 c hc).mono (by simp; intro i hi; rcases hi with hi|hi<;>simp [hi])
   ·intro i hi e he c hc
    rcases aAi.1 hi with hi|hi
    ·exact aBb _ (k4 i hi e he c hc)
    ·exact aBr _ (n4 i hi e he c hc)
  ·cases hx
theorem Ce {s:St}:∀ {ks:List PK} {v:AV} {r:DK ks×List Nat×List Nat},AV.vu s ks v=some r->ks.any PK.lnk=false
 | [],_,_,_=>rfl
 | k::ks,v,r,hx=>by
  cases v<;>simp only [AV.vu] at hx<;>first|cases hx|skip
  split at hx
  ·rename_i x1 g1 m1 x2 g2 m2 h1 h2
   rw [aFl,Ce h2,aDi];cases k<;>first|rfl|(simp only [AV.R7] at h1; cases h1)
  ·cases hx
theorem g9.K0:∀ {t:Ty} {O:List Nat} {cs:List Value} {x:t.den},t.K0=true->g9 H S t O cs x->g9 H S' t O cs x:=by
 intro t
 induction t with
 | int k=>intro O cs x _ h; exact h
 | bool=>intro O cs x _ h; exact h
 | str=>intro O cs x _ h; exact h
 | unit=>intro O cs x _ h; exact h
 | fn f=>intro O cs x _ h; exact h
 | hole t _=>intro O cs x _ h; exact h
 | B9 t _=>intro O cs x hn; cases hn
 | map o k v ihk ihv =>
  rintro O cs x hn h;simp only [Ty.K0,aAa] at hn;rcases h with h|⟨l,b,es,ck,h0,h2,h3,h4,h5⟩
  ·exact .inl h
  refine .inr ⟨l,b,es,ck,h0,h2,h3,h4.mono (λ _ _ h=>ihk hn.1.2 h) (λ _ _ h=>ihv hn.2 h),?_⟩;rw [hn.1.1] at h5 ⊢;exact h5
 | box o g t ih =>
  rintro O cs x hn h;simp only [Ty.K0,aAa] at hn;rcases h with h|⟨y,b,off,O',h0,h1,h2,h3,h4⟩
  ·exact .inl h
  refine .inr ⟨y,b,off,O',h0,h1,h2,ih hn.2 h3,?_⟩;rw [hn.1] at h4 ⊢;exact h4
 | pair a c iha ihc =>
  rintro O cs x hn ⟨O1,O2,e,h1,h2⟩;simp only [Ty.K0,aAa] at hn;exact ⟨O1,O2,e,iha hn.1 h1,ihc hn.2 h2⟩
 | arr n t ih =>
  rintro O cs x hn ⟨h1,h2⟩;exact ⟨h1,j5.mono (L:=O) (λ _ h=>h) (λ _ _ _ _ h=>ih hn h) h2⟩
 | d0 o t ih =>
  rintro O cs x hn h;simp only [Ty.K0,aAa] at hn;rcases h with h|⟨b,off,cap,O',c1,c2,c3,c4,c5,c6⟩
  ·exact .inl h
  ·rw [hn.1] at c6
   refine .inr ⟨b,off,cap,O',c1,c2,c3,c4,j5.mono (L:=O') (λ _ h=>h) (λ _ _ _ _ h=>ih hn.2 h) c5,?_⟩;rw [hn.1]; exact c6
theorem M3.mono {T:Nat->Prop}:∀ {ts:List Ty} {O:List Nat} {vs:List Value} {x:DL ts},M3 H S ts O vs x->(∀ b,S b->T b)->M3 H T ts O vs x
 | [],_,_,_,h,_=>h
 | _::_,_,_,_,⟨v,us,O1,O2,cs,e1,e2,e3,h1,h2⟩,hT=>⟨v,us,O1,O2,cs,e1,e2,e3,h1.u5 (λ _ _=>rfl) hT,M3.mono h2 hT⟩
theorem M3.K0:∀ {ts:List Ty} {O:List Nat} {vs:List Value} {x:DL ts},ts.all Ty.K0=true->M3 H S ts O vs x->M3 H S' ts O vs x
 | [],_,_,_,_,h=>h
 | t::ts,_,_,_,hn,⟨v,us,O1,O2,cs,e1,e2,e3,h1,h2⟩=>by
  simp only [aCt,aAa] at hn;exact ⟨v,us,O1,O2,cs,e1,e2,e3,h1.K0 hn.1,M3.K0 hn.2 h2⟩
theorem H4.K0:∀ {ks:List PK} {vs:List Value} {y:DL (E8 ks)} {L:List Nat},(E8 ks).all Ty.K0=true->H4 H S ks vs y L->H4 H S' ks vs y L
 | [],_,_,_,_,h=>h
 | .rw t::ks,_,_,_,hn,⟨b,off,O,us,L',e1,e2,e3,e4,e5⟩=>by
  simp only [E8,aCt,aAa] at hn;exact ⟨b,off,O,us,L',e1,e2.K0 hn.1,e3,e4,H4.K0 hn.2 e5⟩
 | .mu t::ks,_,_,_,hn,⟨cs,O,us,L',e1,e1',e2,e4,e5⟩=>by
  simp only [E8,aCt,aAa] at hn;exact ⟨cs,O,us,L',e1,e1',e2.K0 hn.1,e4,H4.K0 hn.2 e5⟩
 | .v _::ks,_,_,_,hn,⟨v,us,e,h⟩=>⟨v,us,e,H4.K0 (ks:=ks) hn h⟩
 | .rd _::ks,_,_,_,hn,⟨v,us,e,h⟩=>⟨v,us,e,H4.K0 (ks:=ks) hn h⟩
 | .C7 _ _::ks,_,_,_,hn,⟨v,us,e,h⟩=>⟨v,us,e,H4.K0 (ks:=ks) hn h⟩
 | .W6::ks,_,_,_,hn,⟨v,us,e,h⟩=>⟨v,us,e,H4.K0 (ks:=ks) hn h⟩
 | .rcs _ _::ks,_,_,_,hn,⟨v,us,e,h⟩=>⟨v,us,e,H4.K0 (ks:=ks) hn h⟩
 | .el _::ks,_,_,_,hn,⟨v,us,e,h⟩=>⟨v,us,e,H4.K0 (ks:=ks) hn h⟩
 | .own _::ks,_,_,_,hn,⟨v,us,e,h⟩=>⟨v,us,e,H4.K0 (ks:=ks) hn h⟩
theorem Yb:∀ {t:Ty} {p:List Step} {b off:Nat} {G G':Array Go.Obj},xE p=true->y8 G t p b off=y8 G' t p b off:=by
 intro t
 induction t with
 | pair a c iha ihc =>
  intro p b off G G' h
  match p,h with
  | [],_=>rfl
  | .l8 0::p,h=>exact iha h
  | .l8 (n+1)::p,h=>exact ihc (p:=.l8 n::p) h
  | .idx i::p,h=>cases h
 | d0 o t ih =>
  intro p b off G G' h
  match p,h with
  | [],_=>rw [y9,y9]
  | .l8 i::p,_=>cases o<;>simp [y8]
  | .idx i::p,h=>cases h
 | _ =>
  intro p b off G G' h
  match p,h with
  | [],_=>rw [y9,y9]
  | .l8 i::p,_=>simp [y8]
  | .idx i::p,h=>cases h
theorem Xz:∀ {t:Ty} {p:List Step} {x y:t.den},xE p=true->x8 t x p->x8 t y p:=by
 intro t
 induction t with
 | pair a c iha ihc =>
  intro p x y h ho
  match p,h,ho with
  | [],_,_=>trivial
  | .l8 0::p,h,ho=>exact iha (x:=x.1) h ho
  | .l8 (n+1)::p,h,ho=>exact ihc (p:=.l8 n::p) (x:=x.2) h ho
  | .idx i::p,h,_=>cases h
 | d0 o t ih =>
  intro p x y h ho
  match p,h,ho with
  | [],_,_=>exact O6
  | .l8 i::p,_,ho=>cases o<;>simp [x8] at ho
  | .idx i::p,h,_=>cases h
 | _ =>
  intro p x y h ho
  match p,h,ho with
  | [],_,_=>exact O6
  | .l8 i::p,_,ho=>simp [x8] at ho
  | .idx i::p,h,_=>cases h
def BF (e e':i6):Prop:=(∃ t x x',e=.var t x/\e'=.var t x')\/(∃ t x x',e=.own (.d0 true t) x/\e'=.own (.d0 true t) x')\/(∃ o k v x x',e=.own (.map o k v) x/\e'=.own (.map o k v) x')
theorem RS.renew (h:RS B S ι s a w) {i:Nat} {e e':i6} (he:look i s.hp=some e) (eP:BF e e') {F:List Nat} (hF:F2 B S ι s.hp w F) {L:List Nat} {w':World} (k:D0 L w w') (uf:∀ b∈L,b∈l7 ι i e\/b∈F) (hS:∀ b,S b->S' b)
  (iR:∀ b,S' b->S b\/((w.heap.size<=b\/b∈L)/\b<w'.heap.size)) {O':List Nat} (aS:OB w'.heap S' (ι.C6 i O') i e') (gK:∀ c∈l7 (ι.C6 i O') i e',¬ S' c/\(w.heap.size<=c\/c∈L)/\c<w'.heap.size) :
  RS B S' (ι.C6 i O') ((s.X3 i e.vB).w8 i e') a w':=by
 have cF:e≠.M0:=by rcases eP with ⟨_,_,_,h,_⟩|⟨_,_,_,h,_⟩|⟨_,_,_,_,_,h,_⟩<;>(rw [h]; intro h; cases h)
 have eS:∀ b∈L,¬ S b/\(B.w0.heap.size<=b\/B.M b)/\b<w.heap.size/\∀ j ej,j≠i->look j s.hp=some ej->b∉l7 ι j ej:=by
  intro b hb;rcases uf b hb with h1|h1
  ·obtain ⟨q1,q2,q3⟩:=h.hs.bl i e he b h1
   exact ⟨q1,q2,q3,λ j ej hj di=>h.hs.dj i j e ej he di (Ne.symm hj) b h1⟩
  ·obtain ⟨q1,q2,q3,q4⟩:=hF.2 b h1
   exact ⟨q1,q2,q3,λ j ej _ di=>q4 j ej di⟩
 have hold:∀ {b:Nat},((∃ j ej,j≠i/\look j s.hp=some ej/\b∈l7 ι j ej)\/S b)->w'.heap[b]?=w.heap[b]?:=by
  intro b hb;refine k.frame b (hb.elim (λ⟨j,ej,_,h1,h2⟩=>(h.hs.bl j ej h1 b h2).2.2) (h.hs.slt b)) (λ ou=>?_);obtain ⟨q1,_,_,q4⟩:=eS b ou;rcases hb with ⟨j,ej,h0,h1,h2⟩|hb
  ·exact q4 j ej h0 h1 h2
  ·exact q1 hb
 have dH:∀ c∈l7 (ι.C6 i O') i e',(¬ S' c/\(B.w0.heap.size<=c\/B.M c)/\c<w'.heap.size)/\∀ j ej,j≠i->look j s.hp=some ej->c∉l7 ι j ej:=by
  intro c hc;obtain ⟨q1,q2,q3⟩:=gK c hc;rcases q2 with q2|q2
  ·exact ⟨⟨q1,.inl (aAv h.hs.size q2),q3⟩,λ j ej _ di cx=>by have:=(h.hs.bl j ej di c cx).2.2; omega⟩
  ·obtain ⟨r1,r2,r3,r4⟩:=eS c q2
   exact ⟨⟨q1,r2,q3⟩,r4⟩
 have bm:∀ j,j≠i->F0 ι (ι.C6 i O') j:=λ j hj=>X6 hj _;have qP:HS B S' (ι.C6 i O') (Ex.put i e' s.hp) w':=by
  refine ⟨k.os.trans h.hs.os,k.tape.trans h.hs.tape,k.out.trans h.hs.out,aAv h.hs.size k.size,?_,?_,λ b hb=>hS b (h.hs.s0 b hb),?_,?_,?_,?_,?_⟩
  ·intro c hc hm
   rw [k.frame c (aAr hc h.hs.size) (λ qt=>by rcases (eS c qt).2.1 with h1|h1; omega; exact hm h1)];exact h.hs.frame c hc hm
  ·intro b hb
   rcases iR b hb with h1|h1
   ·exact aAr (h.hs.slt b h1) k.size
   ·exact h1.2
  ·intro b hb
   rcases iR b hb with h1|h1
   ·exact h.hs.s1 b h1
   ·rcases h1.1 with h2|h2
    ·exact .inr (.inl (aAv h.hs.size h2))
    ·exact .inr (eS b h2).2.1
  ·intro j ej hj
   rw [o7] at hj;by_cases e1:j=i
   ·subst e1; rw [if_pos rfl] at hj; cases hj; exact aS
   ·rw [if_neg e1] at hj
    exact (bm j e1).ob.2 ((h.hs.ob j ej hj).u5 (λ b hb=>hold (hb.imp (λ hb=>⟨j,ej,e1,hj,hb⟩) id)) hS)
  ·intro j ej hj c hc
   rw [o7] at hj;by_cases e1:j=i
   ·subst e1; rw [if_pos rfl] at hj; cases hj; exact (dH c hc).1
   ·rw [if_neg e1] at hj
    rw [(bm j e1).l7] at hc;obtain ⟨q1,q2,q3⟩:=h.hs.bl j ej hj c hc;refine ⟨λ hs=>?_,q2,aAr q3 k.size⟩;rcases iR c hs with h1|⟨h1|h1,_⟩
    ·exact q1 h1
    ·omega
    ·exact (eS c h1).2.2.2 j ej e1 hj hc
  ·intro j l ej el hj hl iZ c hc
   rw [o7] at hj hl;by_cases e1:j=i
   ·subst e1
    rw [if_pos rfl] at hj; cases hj;rw [if_neg (Ne.symm iZ)] at hl;rw [(bm l (Ne.symm iZ)).l7];exact (dH c hc).2 l el (Ne.symm iZ) hl
   ·rw [if_neg e1] at hj
    rw [(bm j e1).l7] at hc;by_cases e2:l=i
    ·subst e2
     rw [if_pos rfl] at hl; cases hl;exact λ cU=>(dH c cU).2 j ej e1 hj hc
    ·rw [if_neg e2] at hl
     rw [(bm l e2).l7];exact h.hs.dj j l ej el hj hl iZ c hc
  ·intro q hq
   obtain ⟨k0,⟨e1,k1⟩,k2,k3⟩:=h.hs.pin q hq;refine ⟨k0,?_,k2,k3⟩;rw [o7];by_cases e2:q.1=i
   ·exact ⟨_,by rw [if_pos e2]⟩
   ·exact ⟨e1,by rw [if_neg e2]; exact k1⟩
 refine ⟨qP,h.dfr,h.sz,?_⟩;intro t v hv;simp only [St.w8,St.X3,P9,aCl] at hv;obtain ⟨v0,eY,rfl⟩:=hv;refine VX.map (λ c hc=>hold (.inr hc)) hS (λ v vs hr hm dv=>?_) (h.fr t v0 eY);unfold AV.xQ;have cA:=VX.one hr dv;cases bZ:v.i8 i with
 | false =>
  have bt:∀ j,v.i8 j=true->j≠i:=by rintro j hj rfl; rw [bZ] at hj; cases hj
  have bQ:VX w'.heap S' ι (del i s.hp) v vs:=by
   refine VX.grow (λ c dY=>hold ?_) hS h.hs.slt (λ j ej hj=>?_) (VX.other (cE:=del i s.hp) (λ j hj=>by rw [L8,if_neg (bt j hj)]) (λ j _=>F0.refl ι j) dv)
   ·rcases dY with ⟨j,ej,hj,gR⟩|dY
    ·rw [L8] at hj
     split at hj
     ·cases hj
     ·rename_i dG
      exact .inl ⟨j,ej,dG,hj,gR⟩
    ·exact .inr dY
   ·rw [L8] at hj
    split at hj
    ·cases hj
    ·exact h.hs.ob j ej hj
  exact VX.other (λ j hj=>by simp only [St.w8,o7,L8,if_neg (bt j hj)]; rfl) (λ j hj=>bm j (bt j hj)) bQ
 | true =>
  simp only;cases v<;>simp only [AV.ref] at hr<;>try cases hr
  ·rename_i j q
   have dG:i=j:=aAd bZ;subst dG;cases gQ:xE q with
   | false=>simp only [gQ]; exact cA
   | true =>
    simp only [gQ];obtain ⟨ej,b2,off2,k1,k2,k3,k4⟩:=dv;rw [he] at k1; cases k1;rcases eP with ⟨t0,x0,x1,rfl,rfl⟩|⟨t0,x0,x1,rfl,rfl⟩|⟨o0,k0,v0,x0,x1,rfl,rfl⟩
    ·obtain ⟨p1,p2⟩:=C8 k3
     refine ⟨.var t0 x1,b2,off2,by simp [St.w8,o7],Xz gQ k2,wv ?_ (aAr p2 k.size),k4⟩;simp only [Place,VR,VH,Ix.C6,i6.ty] at p1 ⊢;rw [Yb (G':=w.heap) gQ]; exact p1
    ·exfalso
     obtain ⟨p1,p2⟩:=C8 k3;cases q with
     | nil =>
      simp only [Place,y9,VR,aAc,aAx] at p1;omega
     | cons st q =>
      cases st with
      | l8 n=>have k2:x8 (.d0 true t0) x0 (.l8 n::q):=k2; simp [x8] at k2
      | idx n=>cases gQ
    ·exfalso
     obtain ⟨p1,p2⟩:=C8 k3;cases q with
     | nil =>
      simp only [Place,y9,VR,aAc,aAx] at p1;omega
     | cons st q =>
      cases st with
      | l8 n=>have k2:x8 (.map o0 k0 v0) x0 (.l8 n::q):=k2; simp [x8] at k2
      | idx n=>cases gQ
  ·rename_i j q
   have dG:i=j:=aAd bZ;subst dG;cases q with
   | cons st q=>exact cA
   | nil =>
    rcases eP with ⟨t0,x0,x1,rfl,rfl⟩|⟨t0,x0,x1,rfl,rfl⟩|⟨o0,k0,v0,x0,x1,rfl,rfl⟩
    ·exact cA
    ·obtain ⟨ej,u2,y2,cs2,k1,k2,k3,k4,k5⟩:=dv
     rw [he] at k1; cases k1;rw [C1] at k3; cases k3;obtain ⟨⟨O1,_,jK⟩,_⟩:=h.hs.ob i _ he;have dW:=U4 k4 jK.length;exact ⟨.own (.d0 true t0) x1,.d0 true t0,x1,cs2,by simp [St.w8,o7],O6,C1,AO (show ι.cells i=cs2 from dW.symm) (by rw [dW]; exact jK.length),k5⟩
    ·obtain ⟨ej,u2,y2,cs2,k1,k2,k3,k4,k5⟩:=dv
     rw [he] at k1; cases k1;rw [C1] at k3; cases k3;obtain ⟨⟨O1,_,jK⟩,_⟩:=h.hs.ob i _ he;have dW:=U4 k4 jK.length;exact ⟨.own (.map o0 k0 v0) x1,.map o0 k0 v0,x1,cs2,by simp [St.w8,o7],O6,C1,AO (show ι.cells i=cs2 from dW.symm) (by rw [dW]; exact jK.length),k5⟩
  ·rename_i j q lo hi
   have dG:i=j:=aAd bZ;subst dG;cases q with
   | cons st q=>exact cA
   | nil =>
    rcases eP with ⟨t0,x0,x1,rfl,rfl⟩|⟨t0,x0,x1,rfl,rfl⟩|⟨o0,k0,v0,x0,x1,rfl,rfl⟩
    ·exact cA
    ·obtain ⟨ej,v2,k1,k2,k3,k4,k5,k6⟩:=dv
     rw [he] at k1; cases k1;obtain ⟨⟨O1,_,jK⟩,_⟩:=h.hs.ob i _ he;rcases k6 with ⟨t',l,a',cap,g1,g2,g3,g4⟩|⟨n,t',l,b2,off2,g1,g2,g3,g4⟩
     ·have g1:j9 (.d0 true t0) x0 []=some ⟨.d0 true t',l⟩:=g1
      rw [C1] at g1; cases g1;have dW:=U4 g3 jK.length;have hlen:List.length x1=List.length x0:=by
       obtain ⟨⟨O'',_,iS⟩,_⟩:=aS;have cU:(ι.C6 i O').cells i=[.slice a' (List.length x0) cap]:=(show ι.cells i=_ from dW.symm);rw [cU] at iS;rcases iS with ⟨_,⟨a2,c2,h1,_⟩,h3⟩|⟨b3,o3,cap3,O3,c1,_⟩
       ·simp only [aBa,Value.slice.injEq,and_true] at h1
        subst h3;simp [h1.2.1]
       ·simp only [aBa,Value.slice.injEq,and_true] at c1
        exact c1.2.1.symm
      refine ⟨.own (.d0 true t0) x1,v2,by simp [St.w8,o7],O6,k3,k4,k5,.inl ⟨t0,x1,a',cap,C1,by rw [hlen]; exact g2,?_,g4⟩⟩;rw [hlen];exact AO (show ι.cells i=_ from dW.symm) rfl
     ·exfalso
      simp only [Loc,Place,y9,VR] at g3;simp at g3
    ·exfalso
     obtain ⟨ej,v2,k1,k2,k3,k4,k5,k6⟩:=dv;rw [he] at k1; cases k1;rcases k6 with ⟨t',l,a',cap,g1,_⟩|⟨n,t',l,b2,off2,g1,_⟩
     ·have g1:j9 (.map o0 k0 v0) x0 []=some ⟨.d0 true t',l⟩:=g1
      rw [C1] at g1; cases g1
     ·have g1:j9 (.map o0 k0 v0) x0 []=some ⟨.arr n t',l⟩:=g1
      rw [C1] at g1; cases g1
end
end Go.Ex
