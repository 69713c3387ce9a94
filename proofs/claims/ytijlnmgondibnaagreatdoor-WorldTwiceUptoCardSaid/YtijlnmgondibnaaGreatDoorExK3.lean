import Derived.Test.YtijlnmgondibnaaGreatDoorExK2
import Derived.Laws.IdiomCopy
import Derived.Laws.Strings
import Derived.Laws.CopyRow
set_option linter.unusedVariables false
set_option linter.unusedSimpArgs false
set_option linter.unusedSectionVars false
namespace Go.Ex
section
variable (H:Array Go.Obj) (S:Nat->Prop)
def GO (t:Ty) (v:Value) (x:t.den):Prop :=
 ∃ b off,v=.pointer (some ⟨b,off,none⟩)/\S b/\off+t.size<=(x8 H b).length/\i6 H S t [] (e8 H b off t.size) x
def RdL:(ts:List Ty)->List Value->DL ts->Prop
 | [],vs,_=>vs=[]
 | t::ts,vs,x=>∃ v us,vs=v::us/\GO H S t v x.1/\RdL ts us x.2
def LQ:(k:PK)->Value->k.den->List Nat->Prop
 | .v t,v,x,L=>L=[]/\∃ cs,v=s5 t cs/\i6 H S t [] cs x
 | .rd t,v,x,L=>L=[]/\GO H S t v x
 | .D3 f ts,v,x,L=>L=[]/\∃ us,v=.func (.func f) #[] us.toArray/\RdL H S ts us x
 | .own t,v,x,L=>∃ cs,v=s5 t cs/\i6 H S t L cs x
 | .rw t,v,x,L=>∃ b off O,v=.pointer (some ⟨b,off,none⟩)/\i6 H S t O (e8 H b off t.size) x/\P5 H b (off+t.size)/\L=b::O
 | .mu t,v,x,L=>∃ cs,v=s5 (.d8 true t) cs/\i6 H S (.d8 true t) L cs x
 | .W3,v,_,L=>L=[]/\v=.slice none 0 0
 | .rcs _ _,_,_,L=>L=[]
 | .el _,_,_,L=>L=[]
def V0:(ks:List PK)->List Value->DK ks->List Nat->Prop
 | [],vs,_,L=>vs=[]/\L=[]
 | k::ks,vs,x,L=>∃ v us L1 L2,vs=v::us/\L=L1++L2/\LQ H S k v x.1 L1/\V0 ks us x.2 L2
def M4:(ts:List Ty)->List Nat->List Value->DL ts->Prop
 | [],O,vs,_=>O=[]/\vs=[]
 | t::ts,O,vs,x=>∃ v us O1 O2 cs,vs=v::us/\O=O1++O2/\v=s5 t cs/\i6 H S t O1 cs x.1/\M4 ts O2 us x.2
def H3:(ks:List PK)->List Value->DL (F6 ks)->List Nat->Prop
 | [],vs,_,L=>vs=[]/\L=[]
 | .rw t::ks,vs,y,L=>∃ b off O us L',vs=.pointer (some ⟨b,off,none⟩)::us/\i6 H S t O (e8 H b off t.size) y.1/\P5 H b (off+t.size)/\L=(b::O)++L'/\H3 ks us y.2 L'
 | .mu t::ks,vs,y,L=>∃ cs O us L',vs=s5 (.d8 true t) cs::us/\cs.length=1/\i6 H S (.d8 true t) O cs y.1/\L=O++L'/\H3 ks us y.2 L'
 | .v _::ks,vs,y,L=>∃ v us,vs=v::us/\H3 ks us y L
 | .rd _::ks,vs,y,L=>∃ v us,vs=v::us/\H3 ks us y L
 | .D3 _ _::ks,vs,y,L=>∃ v us,vs=v::us/\H3 ks us y L
 | .own _::ks,vs,y,L=>∃ v us,vs=v::us/\H3 ks us y L
 | .W3::ks,vs,y,L=>∃ v us,vs=v::us/\H3 ks us y L
 | .rcs _ _::ks,vs,y,L=>∃ v us,vs=v::us/\H3 ks us y L
 | .el _::ks,vs,y,L=>∃ v us,vs=v::us/\H3 ks us y L
def vr:(ks:List PK)->Option (Sigma Ty.den)->List Value->List Value->DK ks->Prop
 | [],_,_,_,_=>True
 | .rcs f n::ks,_,pre,vs,x=>(∃ us b off,vs=Value.pointer (some ⟨b,off,none⟩)::us/\S b/\off+1<=(x8 H b).length/\e8 H b off 1=[.func (.func f) #[] ((pre.take n).reverse++[Value.pointer (some ⟨b,off,none⟩)]).toArray]/\n<=pre.length) /\
   vr ks none (vs.take 1++pre) (vs.drop 1) x.2
 | .el q::ks,c,pre,vs,x=>(∃ t y b0 off0 pre' b off us,c=some ⟨t,y⟩/\pre=Value.pointer (some ⟨b0,off0,none⟩)::pre'/\vs=Value.pointer (some ⟨b,off,none⟩)::us/\B8 t y (q++[.idx x.1])/\C2 H t (q++[.idx x.1]) b0 off0=some (b,off)/\b<H.size) /\
   vr ks none (vs.take 1++pre) (vs.drop 1) x.2
 | .rw t::ks,_,pre,vs,x=>vr ks (some ⟨t,x.1⟩) (vs.take 1++pre) (vs.drop 1) x.2
 | .v _::ks,_,pre,vs,x=>vr ks none (vs.take 1++pre) (vs.drop 1) x.2
 | .rd _::ks,_,pre,vs,x=>vr ks none (vs.take 1++pre) (vs.drop 1) x.2
 | .D3 _ _::ks,_,pre,vs,x=>vr ks none (vs.take 1++pre) (vs.drop 1) x.2
 | .own _::ks,_,pre,vs,x=>vr ks none (vs.take 1++pre) (vs.drop 1) x.2
 | .mu _::ks,_,pre,vs,x=>vr ks none (vs.take 1++pre) (vs.drop 1) x.2
 | .W3::ks,_,pre,vs,x=>vr ks none (vs.take 1++pre) (vs.drop 1) x.2
end
def PK.lnk:PK->Bool
 | .rcs _ _|.el _=>true
 | _=>false
theorem CG {H:Array Go.Obj} {S:Nat->Prop}:∀ {ks:List PK} {c:Option (Sigma Ty.den)} {pre vs:List Value} {x:DK ks},ks.any PK.lnk=false->vr H S ks c pre vs x
 | [],_,_,_,_,_=>trivial
 | k::ks,c,pre,vs,x,h=>by
  rw [List.any_cons,Bool.or_eq_false_iff] at h;cases k<;>first|(exfalso; simp [PK.lnk] at h; done)|exact CG (ks:=ks) h.2
def wE:List Value->Value
 | [v]=>v
 | us=>.tuple us.toArray
structure F9 (L:List Nat) (w w':World):Prop where
 os:w'.os=w.os
 tape:W7 w w'
 out:w'.output=w.output
 size:w.heap.size<=w'.heap.size
 frame:∀ c,c<w.heap.size->c∉L->w'.heap[c]?=w.heap[c]?
def xA (w:World) (S:Nat->Prop) (rs:List Ty) (ps:List PK) (vs:List Value) (L:List Nat) (y:DL rs) (z:DL (F6 ps)) (e:Ending) (w':World):Prop :=
 ∃ us O Lo S',e=.returned (wE us)/\F9 L w w'/\(∀ b,S b->S' b)/\(∀ b,S' b->S b\/((w.heap.size<=b\/b∈L)/\b<w'.heap.size)) /\
  M4 w'.heap S' rs O us y/\H3 w'.heap S' ps vs z Lo/\(O++Lo).Nodup/\∀ b∈O++Lo,¬ S' b/\(w.heap.size<=b\/b∈L)/\b<w'.heap.size
def HX:List (String×(Array Value->Prop)) :=
 [("internal/strconv.uint64pow10",λ cs=>cs=(((List.range 20).map λ i=>((10^i:Nat):Int)).map λ z=>Value.int .u64 z).toArray),
 ("internal/bytealg.MaxLen",λ cs=>∃ m,cs[0]?=some (.int .i64 m))]
def vm (P:Program) (w:World) (S:Nat->Prop):Prop:=∀ x∈HX,∀ g,P.globalNamed x.1=some g->S g/\∃ cs,w.var? P x.1=some cs/\x.2 cs
theorem vm.mono {P:Program} {w w':World} {S S':Nat->Prop} (h:vm P w S) (hH:∀ b,S b->w'.heap[b]?=w.heap[b]?) (hS:∀ b,S b->S' b):vm P w' S':=by
 intro x hx g hg;obtain ⟨h1,cs,h2,h3⟩:=h x hx g hg;refine ⟨hS _ h1,cs,?_,h3⟩;unfold World.var? at h2 ⊢;rw [hg,Option.bind_some] at h2 ⊢;rw [hH _ h1];exact h2
theorem vm.sub {P:Program} {w:World} {S S':Nat->Prop} (h:vm P w S) (hS:∀ b,S b->S' b):vm P w S':=h.mono (λ _ _=>rfl) hS
theorem vm.none {P:Program} {w:World} {S:Nat->Prop} (h:(HX.all λ x=>(P.globalNamed x.1).isNone)=true):vm P w S:=by
 intro x hx g hg;have:=List.all_eq_true.1 h x hx;rw [hg] at this;cases this
def GlB (P:Program) (B:F3):Prop:=vm P B.w0 B.S0/\∀ b,B.S0 b->b<B.w0.heap.size/\¬ B.M b
theorem GlB.at_ {P:Program} {B:F3} {S:Nat->Prop} {ι:Ix} {hp:List (Nat×i7)} {w:World} (h:GlB P B) (hs:HS B S ι hp w):vm P w S :=
 h.1.mono (λ b hb=>hs.frame b (h.2 b hb).1 (h.2 b hb).2) hs.s0
structure r9.Valid (P:Program) (f:FuncId) (c:r9):Prop where
 ent:∃ fn,P.funcs[f]?=some fn/\(fn.name == "runtime.NumGoroutine")=false/\fn.body.isNone=false
 run:∀ (w:World) (S:Nat->Prop) (vs:List Value) (x:DK c.ps) (L:List Nat),(∀ b,S b->b<w.heap.size)->vm P w S->c.pre x->V0 w.heap S c.ps vs x L->vr w.heap S c.ps none [] vs x->L.Nodup->(∀ b∈L,¬ S b/\b<w.heap.size) ->
  Calls P f vs.toArray w (xA w S c.rs c.ps vs L (c.fn x) (c.out x))
 fresh:c.new=true->∀ (w:World) (S:Nat->Prop) (vs:List Value) (x:DK c.ps) (L:List Nat),(∀ b,S b->b<w.heap.size)->vm P w S->c.pre x->V0 w.heap S c.ps vs x L->vr w.heap S c.ps none [] vs x->L.Nodup->(∀ b∈L,¬ S b/\b<w.heap.size) ->
  Calls P f vs.toArray w (λ e w'=>∃ us O Lo S',e=.returned (wE us)/\F9 L w w'/\(∀ b,S b->S' b)/\(∀ b,S' b->S b\/((w.heap.size<=b\/b∈L)/\b<w'.heap.size)) /\
   M4 w'.heap S' c.rs O us (c.fn x)/\H3 w'.heap S' c.ps vs (c.out x) Lo/\(O++Lo).Nodup/\(∀ b∈O++Lo,¬ S' b/\(w.heap.size<=b\/b∈L)/\b<w'.heap.size) /\
   M4 w'.heap (λ b=>S' b/\w.heap.size<=b) c.rs O us (c.fn x))
def Uo (p:List Step):(ps:List PK)->DK ps->Prop
 | .rw t::_,x=>B8 t x.1 p
 | _,_=>True
def Um (p:List Step) (H H':Array Go.Obj):(ps:List PK)->List Value->DL (F6 ps)->Prop
 | .rw t::_,vs,z=>(match vs with
  | .pointer (some ⟨b,off,none⟩)::_=>B8 t z.1 p/\C2 H' t p b off=C2 H t p b off
  | _=>True)
 | _,_,_=>True
def r9.Kept (P:Program) (f:FuncId) (c:r9) (pat:List (Option Nat)):Prop :=
 ∀ (w:World) (S:Nat->Prop) (vs:List Value) (x:DK c.ps) (L:List Nat),(∀ b,S b->b<w.heap.size)->vm P w S->c.pre x->V0 w.heap S c.ps vs x L->vr w.heap S c.ps none [] vs x->L.Nodup->(∀ b∈L,¬ S b/\b<w.heap.size) ->
  ∀ p,pm pat p=true->Uo p c.ps x->Calls P f vs.toArray w (λ e w'=>xA w S c.rs c.ps vs L (c.fn x) (c.out x) e w'/\Um p w.heap w'.heap c.ps vs (c.out x))
structure C0 (E:Env):Prop where
 tt:∀ T i,look T E.tt=some i->xr E.P (T,i)=true
 E4:∀ f c,look f E.E4=some c->c.Valid E.P f
 kept:∀ f c pat,look f E.E4=some c->look f E.keeps=some pat->c.Kept E.P f pat
structure D9 (E:Env) (B:F3):Prop extends C0 E where
 gb:GlB E.P B
section
variable {E:Env} {B:F3} {S:Nat->Prop} {ι:Ix} {s:St} {a:Act} {w:World}
theorem RS.get (h:RS B S ι s a w) (t:Nat):VX w.heap S ι s.hp (s.get t) [a.tmps.getD t (B.gd t)]:=by
 unfold St.get;cases hl:look t s.fr with
 | none=>exact ⟨_,rfl⟩
 | some v=>exact h.fr t v hl
theorem VX.const (v:Value) {H:Array Go.Obj} {hp:List (Nat×i7)}:VX H S ι hp (ofConst v) [v]:=by
 unfold ofConst
 split
 ·rename_i k n
  split
  ·rename_i h; exact ⟨[.int k n],rfl,rfl,rfl,h⟩
  ·rfl
 ·rename_i b; exact ⟨[.bool b],rfl,rfl,rfl⟩
 ·rename_i s
  split
  ·rename_i h
   refine ⟨[.string s],rfl,rfl,?_,by simpa using h⟩;simp
  ·rfl
 ·rfl
theorem RS.ev (h:RS B S ι s a w) (x:Operand):VX w.heap S ι s.hp (s.ev x) [a.eval x]:=by
 cases x with
 | tmp t =>
  show VX w.heap S ι s.hp (match Nat.beq t J7 with|true=>.any|false=>s.get t) [a.tmps.getD t undef];have:=h.get t;unfold F3.gd at this;cases hb:Nat.beq t J7 with
  | true=>exact ⟨_,rfl⟩
  | false=>rw [hb] at this; exact this
 | const v=>exact VX.const v
 | global g=>exact ⟨_,rfl⟩
 | func f=>exact ⟨[],by simp [Act.eval],rfl⟩
theorem RS.K5 (h:RS B S ι s a w):∀ l:List Operand,VX w.heap S ι s.hp (s.K5 l) (l.map a.eval)
 | []=>rfl
 | x::l=>⟨_,_,rfl,h.ev x,h.K5 l⟩
theorem RS.put (h:RS B S ι s a w) {d:Option Nat} (hd:H7 B.n d=true) {v:AV} {val:Value} (hv:VX w.heap S ι s.hp v [val]):RS B S ι (s.put d v) (a.put d val) w:=by
 cases d with
 | none=>exact h
 | some d =>
  have bj:d<B.n:=by simpa [H7,Nat.blt_eq] using hd
  refine ⟨h.hs,h.dfr,by simpa [Act.put] using h.sz,?_⟩;intro t v' ht;simp only [St.put,o7] at ht;simp only [Act.put];by_cases e:t=d
  ·subst e
   rw [if_pos rfl] at ht; cases ht;have:t<a.tmps.size:=by rw [h.sz]; exact bj
   show VX w.heap S ι s.hp v [_];simpa [Array.getD,this,Array.getElem?_setIfInBounds] using hv
  ·rw [if_neg e] at ht
   have:=h.fr t v' ht;show VX w.heap S ι s.hp v' [_];simpa [Array.getD_eq_getD_getElem?,Array.getElem?_setIfInBounds_ne (Ne.symm e)] using this
def C4 (P:Program) (B:F3) (o:Oper) (a:Act) (w:World) (v:AV) (s':St):Prop :=
 ∀ (next:Act->World->Prop) (Q:Exit->Act->World->Prop),
  (∀ S' ι' w' val,RS B S' ι' s' a w'->VX w'.heap S' ι' s'.hp v [val]->next (a.put o.dst val) w')->o.wp P a w next Q
theorem C4.value {P:Program} {o:Oper} {v:AV} {val:Value} (hr:(execOp a.eval o).run P w=.ok (.value val) w) (h:RS B S ι s a w) (hv:VX w.heap S ι s.hp v [val]) :
  C4 P B o a w v s:=by
 intro next Q hn
 unfold Oper.wp;rw [hr];exact hn S ι w val h hv
theorem E1 (hE:D9 E B) {T:TypeId} {u:Ty} (h:J8 E T u=true):p9 E.P 100 T u=true:=by
 unfold J8 at h;split at h
 ·rename_i i hi
  have h1:=hE.tt T i hi;simp only [xr,Bool.and_eq_true] at h1;exact XC (Eu (of_decide_eq_true h).symm (XB h1.1))
 ·cases h
theorem s9 (hE:D9 E B) {T:TypeId} {i:TI} (h:look T E.tt=some i):p9 E.P 100 T i.ty=true:=by
 have h1:=hE.tt T i h;simp only [xr,Bool.and_eq_true] at h1;exact h1.1
theorem N3 {b off n:Nat} {j:Nat} {v:Value} (h:(e8 w.heap b off n)[j]?=some v):w.cell? ⟨b,off+j,none⟩=some v:=by
 simp only [e8,List.getElem?_take,List.getElem?_drop] at h;split at h
 ·unfold x8 at h
  split at h
  ·rename_i arr T fz e
   simp [World.cell?,e] ;simpa using h
  ·simp at h
 ·cases h
theorem Addr.I2 (b off n:Nat):(⟨b,off,none⟩:Addr).add n=⟨b,off+n,none⟩:=by
 unfold Addr.add
 split
 ·subst_vars; simp
 ·rfl
theorem CU {P:Program} {T:TypeId} {t:Ty} {n:Nat} (ht:p9 P n T t=true) {b off:Nat} {O:List Nat} {x:t.den} (hR:i6 w.heap S t O (e8 w.heap b off t.size) x) :
  (loadVar T ⟨b,off,none⟩).run P w=.ok (s5 t (e8 w.heap b off t.size)) w:=by
 have hl:=hR.length;simp only [loadVar,Sem.run_bind,Kn ht,Result.andThen];cases hg:t.agg with
 | true =>
  simp only [if_true,Sem.run_bind,run_sizeOf ht,Result.andThen];have:=run_loadCells_list (P:=P) w ⟨b,off,none⟩ (e8 w.heap b off t.size) (λ j v h=>by rw [Addr.I2]; exact N3 h);rw [hl] at this;rw [this];simp [s5,hg]
 | false =>
  have h1:t.size=1:=by cases t<;>simp_all [Ty.agg,Ty.size]
  rw [h1] at hl ⊢
  match hc:e8 w.heap b off 1,hl with
  | [c],_ =>
   have:=N3 (w:=w) (b:=b) (off:=off) (n:=1) (j:=0) (v:=c) (by rw [hc]; rfl);simp only [Nat.add_zero] at this;simp [run_load,this,s5,hg]
theorem P0 {P:Program} {o:Oper} {sem:Sem Value} {val:Value} {w':World} (h:execOp a.eval o=(do pure (.value (<- sem)))) (hr:sem.run P w=.ok val w') :
  (execOp a.eval o).run P w=.ok (.value val) w':=by
 rw [h]; simp [hr]
theorem I5 {i:Nat} {e:i7} (h1:look i s.hp=some e) {p:List Step} {r:Sigma Ty.den} (h:s.part i p=some r):j9 e.ty e.x p=some r:=by
 unfold St.part St.obj at h;rw [h1] at h;exact h
theorem Nu (hE:D9 E B) {T:TypeId} (ht:Mv (look T E.tt)=true) {l:AV} {val:Value} (hv:VX w.heap S ι s.hp (.bx l) [val]) :
  ∃ u,(Instr.loadAt T val).run E.P w=.ok u w/\VX w.heap S ι s.hp l [u]:=by
 obtain ⟨b,off,u,e,hb,h1,h2,h3⟩:=hv;refine ⟨u,?_,h3⟩;obtain rfl:val=.pointer (some ⟨b,off,none⟩):=by simpa using e
 obtain ⟨t,sn,dy⟩:∃ t,p9 E.P 100 T t=true/\t.agg=false:=by
  cases hl:look T E.tt with
  | none=>rw [hl] at ht; cases ht
  | some i =>
   rw [hl] at ht;refine ⟨i.ty,s9 hE hl,?_⟩;obtain ⟨ty,n⟩:=i;cases ty<;>first|rfl|cases ht
 have:=N3 (w:=w) (b:=b) (off:=off) (n:=1) (j:=0) (v:=u) (by rw [h2]; rfl);simp only [Nat.add_zero] at this;simp [Instr.loadAt,Instr.sureAddr,loadVar,Kn sn,dy,run_load,this]
theorem b76 (hE:D9 E B) (h:RS B S ι s a w) {o:Oper} {T:TypeId} {x:Operand} (ho:o.op=.load T x) {v:AV} {s':St} (hl:Z1 E T (s.ev x) s=.ok v s') :
  C4 E.P B o a w v s':=by
 have he:execOp a.eval o=(do pure (.value (<- Instr.loadAt T (a.eval x)))):=by simp [execOp,ho]
 have hv:=h.ev x;unfold Z1 at hl;split at hl
 ·rename_i t y hx
  rw [hx] at hv;obtain ⟨b,off,e,hb,hr,hR⟩:=hv;split at hl
  ·rename_i hc
   cases hl;have e:a.eval x=.pointer (some ⟨b,off,none⟩):=by simpa using e
   refine C4.value (P0 he (w':=w) (val:=s5 t (e8 w.heap b off t.size)) ?_) h ⟨_,rfl,hR⟩;rw [e];simp [Instr.loadAt,Instr.sureAddr,CU (E1 hE hc) hR]
  ·cases hl
 ·rename_i l hx
  rw [hx] at hv;split at hl
  ·rename_i ht
   cases hl;obtain ⟨val,k1,k2⟩:=Nu (hE:=hE) ht hv;exact C4.value (P0 he k1) h k2
  ·cases hl
 ·rename_i i p hx
  rw [hx] at hv;obtain ⟨e,b,off,h1,h2,h3,h4⟩:=hv;have h4:a.eval x=.pointer (some ⟨b,off,none⟩):=by simpa using h4
  split at hl
  ·rename_i u y cV
   have hg:=I5 h1 cV;obtain ⟨O2,k1,k2,k3,k4,k5⟩:=N5 (L8 h3) (h.hs.ob i e h1) h.hs.slt h2 hg h3;split at hl
   ·rename_i hc
    have hr:(Instr.loadAt T (a.eval x)).run E.P w=.ok (s5 u (e8 w.heap b off u.size)) w:=by
     rw [h4]; simp [Instr.loadAt,Instr.sureAddr,CU (E1 hE hc) k3]
    split at hl
    ·rename_i hs
     cases hl;have:=k3.O7 hs;subst this;exact C4.value (P0 he hr) h ⟨_,rfl,k3⟩
    ·cases hl
     have hp:=D4 h3;exact C4.value (P0 he hr) h ⟨e,u,y,_,h1,h2,hg,⟨b,off,hp.1,(l6 (G8 hp.2) _ _).symm⟩,rfl⟩
   ·cases hl
  ·cases hl
 ·cases hl
theorem U6 (k:IntKind) (n:Int):u7 k (k.wrap n):=by
 unfold u7 IntKind.wrap IntKind.min IntKind.max;have h1:(0:Int)<2^k.bits:=by cases k<;>decide
 have h2:=Int.emod_nonneg n (b:=2^k.bits) (by omega);have h3:=Int.emod_lt_of_pos n h1;cases k<;>simp [IntKind.signed,IntKind.bits] at*<;> (try split)<;>omega
theorem U0 {k:IntKind} {n:Int} (h:u7 k n):k.wrap n=n:=by
 unfold u7 IntKind.min IntKind.max at h;unfold IntKind.wrap;cases k<;>simp [IntKind.signed,IntKind.bits] at*<;> (try split)<;>omega
theorem VX.int {H:Array Go.Obj} {hp:List (Nat×i7)} {k:IntKind} {n:Int} (h:u7 k n):VX H S ι hp (.val (.int k) n) [.int k n]:=⟨[.int k n],rfl,rfl,rfl,h⟩
theorem VX.bool {H:Array Go.Obj} {hp:List (Nat×i7)} {b:Bool}:VX H S ι hp (.val .bool b) [.bool b]:=⟨[.bool b],rfl,rfl,rfl⟩
theorem VX.str {H:Array Go.Obj} {hp:List (Nat×i7)} {l:yY} (h:l.length<=maxLen):VX H S ι hp (.val .str l) [.string ⟨l.toArray⟩]:=⟨[.string ⟨l.toArray⟩],rfl,rfl,rfl,h⟩
theorem VX.I6 {H:Array Go.Obj} {hp:List (Nat×i7)} {k:IntKind} {n:Int} {v:Value} (h:VX H S ι hp (.val (.int k) n) [v]):v=.int k n/\u7 k n:=by
 obtain ⟨cs,e,_,rfl,h2⟩:=h;exact ⟨by simpa [s5,Ty.agg] using e,h2⟩
theorem VX.Aw {H:Array Go.Obj} {hp:List (Nat×i7)} {b:Bool} {v:Value} (h:VX H S ι hp (.val .bool b) [v]):v=.bool b:=by
 obtain ⟨cs,e,_,rfl⟩:=h;simpa [s5,Ty.agg] using e
theorem VX.zp {H:Array Go.Obj} {hp:List (Nat×i7)} {l:yY} {v:Value} (h:VX H S ι hp (.val .str l) [v]):v=.string ⟨l.toArray⟩/\l.length<=maxLen:=by
 obtain ⟨cs,e,_,rfl,h2⟩:=h;exact ⟨by simpa [s5,Ty.agg] using e,h2⟩
def G1 (P:Program) (B:F3) (o:Oper) (a:Act) (w:World):OR->Prop
 | .fail _=>True
 | .ok v s=>C4 P B o a w v s
 | .G6 p v s=>p->C4 P B o a w v s
theorem G1.pure {P:Program} {o:Oper} {sem:Sem Value} (he:execOp a.eval o=(do pure (.value (<- sem)))) (h:RS B S ι s a w) {v:AV} {val:Value} (hr:sem.run P w=.ok val w)
  (hv:VX w.heap S ι s.hp v [val]):C4 P B o a w v s:=C4.value (P0 he hr) h hv
theorem a24 {P:Program} {o:Oper} {k:IntKind} {r:Int} (he:(execOp a.eval o).run P w=.ok (.value (.int k (k.wrap r))) w) (h:RS B S ι s a w):G1 P B o a w (arith k r s):=by
 unfold arith
 split
 ·intro hk
  exact C4.value (by rw [he,U0 hk]) h (VX.int hk)
 ·exact C4.value he h (VX.int (U6 _ _))
theorem U1 {P:Program} {o:Oper} {op:BinOp} {T T':TypeId} {x y:Operand} (ho:o.op=.binOp op T x y T') (hg:(eqGuard op T x y (a.eval x) (a.eval y)).run P w=.ok () w) {r:Result Value}
  (hr:(binOp op T (a.eval x) (a.eval y)).run P w=r):(execOp a.eval o).run P w=r.andThen λ v w'=>.ok (.value v) w':=by
 simp only [execOp,ho,Sem.run_bind,hg,Result.andThen,hr];cases r<;>rfl
theorem c1J (h:RS B S ι s a w) {o:Oper} {op:BinOp} {T T':TypeId} {x y:Operand} (ho:o.op=.binOp op T x y T') {P:Program} {k k':IntKind} {m n:Int}
  (hx:a.eval x=.int k m) (bx:u7 k m) (hy:a.eval y=.int k' n) (by_:u7 k' n):G1 P B o a w (xy op k m k' n s):=by
 have hg:(eqGuard op T x y (a.eval x) (a.eval y)).run P w=.ok () w:=by rw [hx,hy]; cases op<;>rfl
 have run:∀ {r:Result Value},(binOp op T (.int k m) (.int k' n)).run P w=r->(execOp a.eval o).run P w=r.andThen λ v w'=>.ok (.value v) w':=by
  intro r hr;exact U1 ho hg (by rw [hx,hy]; exact hr)
 have h0:k.min<=0:=by cases k<;>decide
 have h1:0<=k.max:=by cases k<;>decide
 unfold xy
 split
 ·intro hn
  have:¬ n<0:=by omega
  exact C4.value (by rw [run (r:=.ok (.int k (k.wrap (m*2^(min n.toNat k.bits)))) w)]; rfl; simp [binOp,Op.shift,this]) h (VX.int (U6 _ _))
 ·intro hn
  have:¬ n<0:=by omega
  generalize hc:min n.toNat k.bits=c;have hp:(0:Int)<2^c:=Int.pow_pos (by decide);have hb:u7 k (m / 2^c):=by
   unfold u7 at *
   refine ⟨?_,?_⟩
   ·apply (Int.le_ediv_iff_mul_le hp).2
    by_cases hm:m<0
    ·have:k.min*2^c<=k.min*1:=Int.mul_le_mul_of_nonpos_left h0 (by omega)
     omega
    ·have:k.min*2^c<=0:=Int.mul_nonpos_of_nonpos_of_nonneg h0 (Int.le_of_lt hp)
     omega
   ·by_cases hm:m<0
    ·have:=Int.ediv_neg_of_neg_of_pos hm hp
     omega
    ·have:=Int.ediv_le_self (2^c) (a:=m) (by omega)
     omega
  refine C4.value (by rw [run (r:=.ok (.int k (m / 2^c)) w)]; rfl; simp [binOp,Op.shift,this,hc,Int.fdiv_eq_ediv_of_nonneg _ (Int.le_of_lt hp)]) h (VX.int hb)
 ·rename_i sM sK
  split
  ·rename_i hk; subst hk
   split
   ·exact a24 (by rw [run (r:=.ok (.int k (k.wrap (m+n))) w)]; rfl; simp [binOp,Op.intArith]) h
   ·exact a24 (by rw [run (r:=.ok (.int k (k.wrap (m - n))) w)]; rfl; simp [binOp,Op.intArith]) h
   ·exact a24 (by rw [run (r:=.ok (.int k (k.wrap (m*n))) w)]; rfl; simp [binOp,Op.intArith]) h
   ·intro hn
    have hq:u7 k (m.tdiv n):=by
     unfold u7 at *
     by_cases hm:m<0
     ·have e:m.tdiv n=-((-m) / n):=by rw [<- Int.neg_neg m,Int.neg_tdiv,Int.tdiv_eq_ediv_of_nonneg (by omega)]; simp
      have:=Int.ediv_nonneg (a:=-m) (b:=n) (by omega) (by omega);have:=Int.ediv_le_self n (a:=-m) (by omega);omega
     ·rw [Int.tdiv_eq_ediv_of_nonneg (by omega)]
      have:=Int.ediv_nonneg (a:=m) (b:=n) (by omega) (by omega);have:=Int.ediv_le_self n (a:=m) (by omega);omega
    exact C4.value (by rw [run (r:=.ok (.int k (m.tdiv n)) w)]; rfl; simp [binOp,Op.intDiv,show n≠0 by omega,U0 hq]) h (VX.int hq)
   ·intro hn
    have hq:u7 k (m.tmod n):=by
     unfold u7 at *
     by_cases hm:m<0
     ·have e:m.tmod n=-((-m) % n):=by rw [<- Int.neg_neg m,Int.neg_tmod,Int.tmod_eq_emod_of_nonneg (by omega)]; simp
      have:=Int.emod_nonneg (-m) (b:=n) (by omega);have:(-m) % n<=-m:=by
       have:=Int.emod_add_mul_ediv (-m) n;have:=Int.mul_nonneg (Int.le_of_lt hn) (Int.ediv_nonneg (a:=-m) (b:=n) (by omega) (by omega));omega
      omega
     ·rw [Int.tmod_eq_emod_of_nonneg (by omega)]
      have:=Int.emod_nonneg m (b:=n) (by omega);have:m % n<=m:=by
       have:=Int.emod_add_mul_ediv m n;have:=Int.mul_nonneg (Int.le_of_lt hn) (Int.ediv_nonneg (a:=m) (b:=n) (by omega) (by omega));omega
      omega
    exact C4.value (by rw [run (r:=.ok (.int k (m.tmod n)) w)]; rfl; simp [binOp,Op.intDiv,show n≠0 by omega]) h (VX.int hq)
   ·exact C4.value (by rw [run (r:=.ok (.int k (U2 k m n)) w)]; rfl; simp [binOp,Op.intBits,U2]) h (VX.int (U6 _ _))
   ·exact C4.value (by rw [run (r:=.ok (.int k (bOr k m n)) w)]; rfl; simp [binOp,Op.intBits,bOr]) h (VX.int (U6 _ _))
   ·exact C4.value (by rw [run (r:=.ok (.int k (vG k m n)) w)]; rfl; simp [binOp,Op.intBits,vG]) h (VX.int (U6 _ _))
   ·exact C4.value (by rw [run (r:=.ok (.int k (S3 k m n)) w)]; rfl; simp [binOp,Op.intBits,S3]) h (VX.int (U6 _ _))
   ·exact C4.value (by rw [run (r:=.ok (.bool (decide (m=n))) w)]; rfl; simp [binOp,Op.intCmp]; rfl) h VX.bool
   ·exact C4.value (by rw [run (r:=.ok (.bool (decide (m≠n))) w)]; rfl; simp [binOp,Op.intCmp]; rfl) h VX.bool
   ·exact C4.value (by rw [run (r:=.ok (.bool (decide (m<n))) w)]; rfl; simp [binOp,Op.intCmp]) h VX.bool
   ·exact C4.value (by rw [run (r:=.ok (.bool (decide (m<=n))) w)]; rfl; simp [binOp,Op.intCmp]) h VX.bool
   ·exact C4.value (by rw [run (r:=.ok (.bool (decide (n<m))) w)]; rfl; simp [binOp,Op.intCmp]) h VX.bool
   ·exact C4.value (by rw [run (r:=.ok (.bool (decide (n<=m))) w)]; rfl; simp [binOp,Op.intCmp]) h VX.bool
   ·trivial
  ·trivial
theorem b7W {P:Program} {T:TypeId} {m n:yY} (hn:m.length+n.length<=maxLen):(binOp .add T (.string ⟨m.toArray⟩) (.string ⟨n.toArray⟩)).run P w=.ok (.string ⟨(m++n).toArray⟩) w:=by
 have h2:¬ ((((ByteArray.mk m.toArray).size+(ByteArray.mk n.toArray).size:Nat):Int) > IntKind.i64.max):=by
  have e1:(ByteArray.mk m.toArray).size=m.length:=by simp [ByteArray.size]
  have e2:(ByteArray.mk n.toArray).size=n.length:=by simp [ByteArray.size]
  rw [e1,e2];have:IntKind.i64.max=((maxLen:Nat):Int):=by decide
  omega
 have e:(ByteArray.mk m.toArray)++(ByteArray.mk n.toArray)=ByteArray.mk (m++n).toArray:=by
  apply ByteArray.ext; simp
 simp only [binOp,Op.stringOp,h2,if_false,e];rfl
theorem c1I (h:RS B S ι s a w) {o:Oper} {op:BinOp} {T T':TypeId} {x y:Operand} (ho:o.op=.binOp op T x y T') {P:Program} {m n:yY}
  (hx:a.eval x=.string ⟨m.toArray⟩) (hy:a.eval y=.string ⟨n.toArray⟩):G1 P B o a w (yR op m n s):=by
 have hg:(eqGuard op T x y (a.eval x) (a.eval y)).run P w=.ok () w:=by rw [hx,hy]; cases op<;>rfl
 have run:∀ {r:Result Value},(binOp op T (.string ⟨m.toArray⟩) (.string ⟨n.toArray⟩)).run P w=r->(execOp a.eval o).run P w=r.andThen λ v w'=>.ok (.value v) w':=by
  intro r hr;exact U1 ho hg (by rw [hx,hy]; exact hr)
 unfold yR
 split
 ·exact C4.value (by rw [run (r:=.ok (.bool (decide (m=n))) w)]; rfl; simp [binOp,Op.stringOp,ByteArray.toList_mk,Bool.beq_eq_decide_eq]) h VX.bool
 ·exact C4.value (by rw [run (r:=.ok (.bool (decide (m≠n))) w)]; rfl; simp [binOp,Op.stringOp,ByteArray.toList_mk,Bool.beq_eq_decide_eq]) h VX.bool
 ·intro hn
  refine C4.value (by rw [run (r:=.ok (.string ⟨(m++n).toArray⟩) w)]; rfl; exact b7W hn) h (VX.str (by simpa using hn))
 ·trivial
theorem EZ {P:Program} {n:Nat} {T:TypeId} (hT:p9 P n T .bool=true):P.underlying T=some .bool:=by
 obtain ⟨d,h1,h2⟩:=R6 hT;cases n with
 | zero=>simp [p9] at hT
 | succ n =>
  simp only [p9,Bool.and_eq_true,h1] at hT;obtain ⟨_,hT⟩:=hT;cases d<;>first|exact h1|(exact (Bool.false_ne_true hT).elim)|skip
  rename_i fs;have hT:n7 (p9 P n) fs.toList 0 .bool=true:=hT;cases hf:fs.toList with
  | nil=>rw [hf] at hT; simp [n7] at hT
  | cons f l=>rw [hf] at hT; simp [n7] at hT
theorem run_equalIn_bool {P:Program} {T:TypeId} (h1:P.underlying T=some .bool) (d:Nat) (m n:Bool):(Op.equalIn (d+1) T (.bool m) (.bool n)).run P w=.ok (m == n) w:=by
 simp [Op.equalIn,w8 h1]
theorem Sx {P:Program} {n:Nat} {T:TypeId} (hT:p9 P n T .bool=true) (m n:Bool):(Op.equal T (.bool m) (.bool n)).run P w=.ok (m == n) w :=
 run_equalIn_bool (EZ hT) 9999 m n
theorem c1H (h:RS B S ι s a w) {W:Bool} {o:Oper} {op:BinOp} {T T':TypeId} {x y:Operand} (ho:o.op=.binOp op T x y T') {P:Program} {k k':IntKind} {m n:Int}
  (hx:a.eval x=.int k m) (bx:u7 k m) (hy:a.eval y=.int k' n) (by_:u7 k' n):G1 P B o a w (xz W op k m k' n s):=by
 unfold xz
 split
 ·split
  ·rename_i hk; subst hk
   have hg:(eqGuard .add T x y (a.eval x) (a.eval y)).run P w=.ok () w:=by rw [hx,hy]; rfl
   exact C4.value (by rw [U1 ho hg (r:=.ok (.int k (k.wrap (m+n))) w)]; rfl; rw [hx,hy]; simp [binOp,Op.intArith]) h (VX.int (U6 _ _))
  ·trivial
 ·exact c1J h ho hx bx hy by_
theorem c1L (hE:D9 E B) (h:RS B S ι s a w) {o:Oper} {op:BinOp} {T T':TypeId} {x y:Operand} (ho:o.op=.binOp op T x y T'):G1 E.P B o a w (xZ E T op (s.ev x) (s.ev y) s):=by
 have hx:=h.ev x;have hy:=h.ev y;unfold xZ
 split
 ·rename_i k m k' n e1 e2
  rw [e1] at hx; rw [e2] at hy;obtain ⟨hx,bx⟩:=VX.I6 hx;obtain ⟨hy,by_⟩:=VX.I6 hy;exact c1H h ho hx bx hy by_
 ·rename_i m n e1 e2
  rw [e1] at hx; rw [e2] at hy;have hx:=VX.Aw hx;have hy:=VX.Aw hy;have hg:(eqGuard op T x y (a.eval x) (a.eval y)).run E.P w=.ok () w:=by rw [hx,hy]; cases op<;>rfl
  split
  ·rename_i hc
   exact C4.value (by rw [U1 ho hg (r:=.ok (.bool (m == n)) w)]; rfl; rw [hx,hy]; simp [binOp,Sx (E1 hE hc)]) h VX.bool
  ·rename_i hc
   exact C4.value (by rw [U1 ho hg (r:=.ok (.bool (m != n)) w)]; rfl; rw [hx,hy]; simp [binOp,Sx (E1 hE hc)]; cases (m:Bool)<;>cases (n:Bool)<;>rfl) h VX.bool
  ·trivial
 ·rename_i m n e1 e2
  rw [e1] at hx; rw [e2] at hy;exact c1I h ho (VX.zp hx).1 (VX.zp hy).1
 ·trivial
end
end Go.Ex
namespace Go.Ex
section
variable {E:Env} {B:F3} {S S':Nat->Prop} {ι:Ix} {s:St} {a:Act} {w:World} {hp:List (Nat×i7)}
def Ix.U7 (ι:Ix) (d:Nat) (r:Nat×Nat) (o:List Nat):Ix:={ ι with root:=λ i=>if i=d then r else ι.root i,own:=λ i=>if i=d then o else ι.own i }
def Ix.V4 (ι:Ix) (d:Nat) (cs:List Value) (o:List Nat):Ix:={ ι with cells:=λ i=>if i=d then cs else ι.cells i,own:=λ i=>if i=d then o else ι.own i }
def Ix.D8 (ι:Ix) (d:Nat) (o:List Nat):Ix:={ ι with own:=λ i=>if i=d then o else ι.own i }
def F8 (ι ι':Ix) (i:Nat):Prop:=ι'.root i=ι.root i/\ι'.cells i=ι.cells i/\ι'.own i=ι.own i
theorem F8.ob {ι':Ix} {i:Nat} (h:F8 ι ι' i) {H:Array Go.Obj} {e:i7}:OB H S ι' i e↔OB H S ι i e:=by
 obtain ⟨h1,h2,h3⟩:=h;cases e<;>simp only [OB,h1,h2,h3]
theorem F8.l7 {ι':Ix} {i:Nat} (h:F8 ι ι' i) {e:i7}:l7 ι' i e=l7 ι i e:=by
 obtain ⟨h1,h2,h3⟩:=h;cases e<;>simp only [Ex.l7,h1,h3]
theorem F8.vh {ι':Ix} {i:Nat} (h:F8 ι ι' i) {H:Array Go.Obj} {e:i7}:VH H ι' i e=VH H ι i e:=by
 obtain ⟨h1,h2,h3⟩:=h;cases e<;>simp only [VH,h2]
theorem F8.place {ι':Ix} {i:Nat} (h:F8 ι ι' i) {H:Array Go.Obj} {e:i7} {p:List Step}:Place H ι' i e p=Place H ι i e p:=by
 have hv:=h.vh (H:=H) (e:=e);obtain ⟨h1,h2,h3⟩:=h;cases e<;>simp only [Place,VR,h1,hv]
theorem F8.loc {ι':Ix} {i:Nat} (h:F8 ι ι' i) {H:Array Go.Obj} {e:i7} {p:List Step}:Loc H ι' i e p=Loc H ι i e p:=by
 simp only [Loc,h.place]
theorem F8.Bu {ι':Ix} {i:Nat} (h:F8 ι ι' i) {H:Array Go.Obj} {e:i7} {p:List Step} {u:Ty} {cs:List Value}:Cells H ι' i e p u cs↔Cells H ι i e p u cs:=by
 simp only [Cells,h.place,h.vh]
theorem F8.refl (ι:Ix) (i:Nat):F8 ι ι i:=⟨rfl,rfl,rfl⟩
theorem Lb {i d:Nat} (h:i≠d) (r:Nat×Nat) (o:List Nat):F8 ι (ι.U7 d r o) i:=by simp [F8,Ix.U7,h]
theorem FD {i d:Nat} (h:i≠d) (cs:List Value) (o:List Nat):F8 ι (ι.V4 d cs o) i:=by simp [F8,Ix.V4,h]
theorem X7 {i d:Nat} (h:i≠d) (o:List Nat):F8 ι (ι.D8 d o) i:=by simp [F8,Ix.D8,h]
theorem VX.other {ι':Ix} {cK:List (Nat×i7)} {H:Array Go.Obj} {v:AV} (hl:∀ i,v.j5 i=true->look i cK=look i hp) (hs:∀ i,v.j5 i=true->F8 ι ι' i) {vs:List Value} (h:VX H S ι hp v vs):VX H S ι' cK v vs:=by
 have:=VX.map (H':=H) (S':=S) (ι':=ι') (cK:=cK) (f:=λ u=>u) (λ _ _=>rfl) (λ _ h=>h) ?_ h
 ·rwa [AV.map_id] at this
 ·intro u vs hu hm h
  cases u<;>simp only [AV.ref] at hu<;>try cases hu
  ·rename_i i p
   have hi:=hm i (by simp [AV.j5]);obtain ⟨e,b,off,h1,h2,h3,h4⟩:=h;exact ⟨e,b,off,(hl i hi).trans h1,h2,(hs i hi).loc.trans h3,h4⟩
  ·rename_i i p
   have hi:=hm i (by simp [AV.j5]);obtain ⟨e,u,y,cs,h1,h2,h3,h4,h5⟩:=h;exact ⟨e,u,y,cs,(hl i hi).trans h1,h2,h3,(hs i hi).Bu.2 h4,h5⟩
  ·rename_i i p lo cY
   have hi:=hm i (by simp [AV.j5]);obtain ⟨e,v,h1,h2,h3,h4,h5,h6⟩:=h;refine ⟨e,v,(hl i hi).trans h1,h2,h3,h4,h5,?_⟩;rcases h6 with ⟨t,l,a,cap,k1,k2,k3,k4⟩|⟨n,t,l,b,off,k1,k2,k3,k4⟩
   ·exact .inl ⟨t,l,a,cap,k1,k2,(hs i hi).Bu.2 k3,k4⟩
   ·exact .inr ⟨n,t,l,b,off,k1,k2,(hs i hi).loc.trans k3,k4⟩
theorem Cb {H:Array Go.Obj} {o:Go.Obj} {b:Nat} (h:b<H.size):(H.push o)[b]?=H[b]?:=by
 rw [Array.getElem?_push,if_neg (by omega)]
theorem EB {H:Array Go.Obj} {o:Go.Obj}:(H.push o)[H.size]?=some o:=by simp
def H9 (w:World) (o:Go.Obj):World:={ w with heap:=w.heap.push o }
theorem HS.Mf (h:HS B S ι hp w) {b:Nat} (hb:(∃ i e,look i hp=some e/\b∈l7 ι i e)\/S b):b<w.heap.size:=by
 rcases hb with ⟨i,e,h1,h2⟩|hb
 ·exact (h.bl i e h1 b h2).2.2
 ·exact h.slt b hb
def G5 (B:F3) (S:Nat->Prop) (ι:Ix) (hp:List (Nat×i7)) (w:World) (O:List Nat):Prop :=
 O.Nodup/\∀ b∈O,¬ S b/\(B.w0.heap.size<=b\/B.M b)/\b<w.heap.size/\∀ i e,look i hp=some e->b∉l7 ι i e
theorem G5.nil:G5 B S ι hp w []:=⟨List.nodup_nil,by simp⟩
theorem G5.sub {O O':List Nat} (h:G5 B S ι hp w O) (hn:O'.Nodup) (hs:∀ b∈O',b∈O):G5 B S ι hp w O':=⟨hn,λ b hb=>h.2 b (hs b hb)⟩
theorem G5.append {O O':List Nat} (h:G5 B S ι hp w O) (h':G5 B S ι hp w O') (hd:∀ b∈O,b∉O'):G5 B S ι hp w (O++O') :=
 ⟨List.nodup_append.2 ⟨h.1,h'.1,λ a ha _b hb e=>hd a ha (e▸hb)⟩,λ b hb=>(List.mem_append.1 hb).elim (h.2 b) (h'.2 b)⟩
theorem HS.Z5 (h:HS B S ι hp w) {O:List Nat} (hF:G5 B S ι hp w O) {w':World} (k:F9 O w w'):HS B S ι hp w':=by
 have bj:∀ {b},((∃ i e,look i hp=some e/\b∈l7 ι i e)\/S b)->w'.heap[b]?=w.heap[b]?:=by
  intro _ hb;refine k.frame _ (h.Mf hb) (λ hO=>?_);rcases hb with ⟨i,e,h1,h2⟩|hb
  ·exact (hF.2 _ hO).2.2.2 i e h1 h2
  ·exact (hF.2 _ hO).1 hb
 refine ⟨k.os.trans h.os,k.tape.trans h.tape,k.out.trans h.out,Nat.le_trans h.size k.size,?_,λ b hb=>Nat.lt_of_lt_of_le (h.slt b hb) k.size,h.s0,h.s1,?_,?_,h.dj,h.pin⟩
 ·intro c hc hm
  rw [k.frame c (Nat.lt_of_lt_of_le hc h.size) (λ hO=>by rcases (hF.2 c hO).2.1 with h1|h1; omega; exact hm h1)];exact h.frame c hc hm
 ·intro i e hi
  exact (h.ob i e hi).w6 (λ b hb=>bj (hb.imp (λ hb=>⟨i,e,hi,hb⟩) id)) (λ _ h=>h)
 ·intro i e hi b hb
  obtain ⟨h1,h2,h3⟩:=h.bl i e hi b hb;exact ⟨h1,h2,Nat.lt_of_lt_of_le h3 k.size⟩
theorem VX.Z5 (h:HS B S ι hp w) {O:List Nat} (hF:G5 B S ι hp w O) {w':World} (k:F9 O w w') {v:AV} {vs:List Value} (hv:VX w.heap S ι hp v vs):VX w'.heap S ι hp v vs:=by
 refine VX.grow (λ b hb=>k.frame b (h.Mf hb) (λ hO=>?_)) (λ _ h=>h) h.slt h.ob hv;rcases hb with ⟨i,e,h1,h2⟩|hb
 ·exact (hF.2 b hO).2.2.2 i e h1 h2
 ·exact (hF.2 b hO).1 hb
theorem RS.Z5 (h:RS B S ι s a w) {O:List Nat} (hF:G5 B S ι s.hp w O) {w':World} (k:F9 O w w'):RS B S ι s a w' :=
 ⟨h.hs.Z5 hF k,h.dfr,h.sz,λ t v hv=>VX.Z5 h.hs hF k (h.fr t v hv)⟩
theorem G5.Z5 {O O':List Nat} (h:G5 B S ι hp w O') {w':World} (k:F9 O w w'):G5 B S ι hp w' O' :=
 ⟨h.1,λ b hb=>⟨(h.2 b hb).1,(h.2 b hb).2.1,Nat.lt_of_lt_of_le (h.2 b hb).2.2.1 k.size,(h.2 b hb).2.2.2⟩⟩
theorem F9.push (o:Go.Obj):F9 [] w (H9 w o):=⟨rfl,.refl w,rfl,by simp [H9],λ c hc _=>Cb hc⟩
theorem F9.drew:F9 [] w w.drew:=⟨rfl,⟨rfl,Nat.le_succ _⟩,rfl,Nat.le_refl _,λ _ _ _=>rfl⟩
theorem F9.mono {O O':List Nat} {w':World} (h:F9 O w w') (ho:∀ b∈O,b∈O'):F9 O' w w':=⟨h.os,h.tape,h.out,h.size,λ c hc hn=>h.frame c hc (λ hO=>hn (ho c hO))⟩
theorem F9.trans {O O':List Nat} {w' w'':World} (h:F9 O w w') (h':F9 O' w' w'') (ho:∀ b∈O',b∈O\/w.heap.size<=b):F9 O w w'' :=
 ⟨h'.os.trans h.os,h'.tape.trans h.tape,h'.out.trans h.out,Nat.le_trans h.size h'.size,λ c hc hn=>(h'.frame c (Nat.lt_of_lt_of_le hc h.size) (λ hO=>by rcases ho c hO with h1|h1; exact hn h1; omega)).trans (h.frame c hc hn)⟩
theorem HS.add (h:HS B S ι hp w) {d:Nat} {e:i7} {ι':Ix} {O:List Nat} (hd:look d hp=none) (hs:∀ i,i≠d->F8 ι ι' i) (aX:OB w.heap S ι' d e) (hb:∀ b∈l7 ι' d e,b∈O) (hF:G5 B S ι hp w O) :
  HS B S ι' (Ex.put d e hp) w:=by
 refine ⟨h.os,h.tape,h.out,h.size,h.frame,h.slt,h.s0,h.s1,?_,?_,?_,?_⟩
 ·intro i e' h1
  rw [o7] at h1;by_cases e1:i=d
  ·subst e1; rw [if_pos rfl] at h1; cases h1; exact aX
  ·rw [if_neg e1] at h1; exact (hs i e1).ob.2 (h.ob i e' h1)
 ·intro i e' h1 b cX
  rw [o7] at h1;by_cases e1:i=d
  ·subst e1; rw [if_pos rfl] at h1; cases h1
   obtain ⟨k1,k2,k3,_⟩:=hF.2 b (hb b cX);exact ⟨k1,k2,k3⟩
  ·rw [if_neg e1] at h1
   rw [(hs i e1).l7] at cX;exact h.bl i e' h1 b cX
 ·intro i j ei ej h1 h2 bS b cX
  rw [o7] at h1 h2;by_cases e1:i=d
  ·subst e1
   rw [if_neg (Ne.symm bS)] at h2;rw [if_pos rfl] at h1; cases h1;rw [(hs j (Ne.symm bS)).l7];exact (hF.2 b (hb b cX)).2.2.2 j ej h2
  ·rw [if_neg e1] at h1
   rw [(hs i e1).l7] at cX;by_cases e2:j=d
   ·subst e2
    rw [if_pos rfl] at h2; cases h2;exact λ eA=>(hF.2 b (hb b eA)).2.2.2 i ei h1 cX
   ·rw [if_neg e2] at h2
    rw [(hs j e2).l7];exact h.dj i j ei ej h1 h2 bS b cX
 ·intro q hq
  obtain ⟨k0,⟨e',k1⟩,k2,k3⟩:=h.pin q hq;have bG:q.1≠d:=by rintro e1; rw [e1,hd] at k1; cases k1
  exact ⟨k0,⟨e',by rw [o7,if_neg bG]; exact k1⟩,by rw [(hs _ bG).1]; exact k2,by rw [(hs _ bG).2.1]; exact k3⟩
theorem EW {d:Nat} (h:s.fresh d=true):look d s.hp=none/\∀ m v,look m s.fr=some v->v.j5 d=false:=by
 simp only [St.fresh,Bool.and_eq_true,Option.isNone_iff_eq_none] at h;exact ⟨h.1,λ m v hv=>CS h.2 hv⟩
theorem VX.add {d:Nat} {e:i7} {ι':Ix} {H:Array Go.Obj} (hs:∀ i,i≠d->F8 ι ι' i) {v:AV} (hm:v.j5 d=false) {vs:List Value} (h:VX H S ι hp v vs):VX H S ι' (Ex.put d e hp) v vs:=by
 have bG:∀ i,v.j5 i=true->i≠d:=by rintro i hi rfl; rw [hm] at hi; cases hi
 exact VX.other (λ i hi=>by rw [o7,if_neg (bG i hi)]) (λ i hi=>hs i (bG i hi)) h
theorem RS.add (h:RS B S ι s a w) {d:Nat} {e:i7} {ι':Ix} {O:List Nat} (hd:s.fresh d=true) (hs:∀ i,i≠d->F8 ι ι' i) (aX:OB w.heap S ι' d e) (hb:∀ b∈l7 ι' d e,b∈O) (hF:G5 B S ι s.hp w O) :
  RS B S ι' (s.y9 d e) a w:=by
 obtain ⟨k1,k2⟩:=EW hd;exact ⟨h.hs.add k1 hs aX hb hF,h.dfr,h.sz,λ t v hv=>VX.add hs (k2 t v hv) (h.fr t v hv)⟩
theorem VX.dropped {i:Nat} {H:Array Go.Obj} {v:AV} {vs:List Value} (h:VX H S ι hp v vs):VX H S ι (del i hp) (v.drop i) vs:=by
 refine VX.map (λ _ _=>rfl) (λ _ h=>h) (λ u vs hu _ hv=>?_) h;cases hm:u.j5 i with
 | true=>obtain ⟨x,rfl⟩:=VX.one hu hv; exact ⟨x,rfl⟩
 | false =>
  have bG:∀ j,u.j5 j=true->j≠i:=by rintro j hj rfl; rw [hm] at hj; cases hj
  exact VX.other (λ j hj=>by rw [M1,if_neg (bG j hj)]) (λ j _=>F8.refl ι j) hv
theorem HS.drop (h:HS B S ι hp w) {i:Nat} (hi:pinned i=false):HS B S ι (del i hp) w:=by
 have hl:∀ {j:Nat} {e:i7},look j (del i hp)=some e->look j hp=some e:=by
  intro j e hj;rw [M1] at hj;split at hj
  ·cases hj
  ·exact hj
 refine ⟨h.os,h.tape,h.out,h.size,h.frame,h.slt,h.s0,h.s1,λ j e hj=>h.ob j e (hl hj),λ j e hj=>h.bl j e (hl hj),λ j k ej ek hj hk=>h.dj j k ej ek (hl hj) (hl hk),λ q hq=>?_⟩;obtain ⟨k0,⟨e',k1⟩,k2⟩:=h.pin q hq;exact ⟨k0,⟨e',by rw [M1,if_neg (by rintro e1; rw [e1,hi] at k0; cases k0)]; exact k1⟩,k2⟩
theorem RS.drop (h:RS B S ι s a w) {i:Nat} (hi:pinned i=false):RS B S ι (s.drop i) a w:=by
 refine ⟨h.hs.drop hi,h.dfr,h.sz,?_⟩;intro t v hv;simp only [St.drop,P9,Option.map_eq_some_iff] at hv;obtain ⟨v0,fh,rfl⟩:=hv;exact VX.dropped (h.fr t v0 fh)
theorem RS.B0 {B:F3} {S:Nat->Prop} {ι:Ix} {a:Act} {w:World}:∀ {g:List Nat} {s:St},RS B S ι s a w->(g.all λ i=>!pinned i)=true->RS B S ι (St.B0 g s) a w
 | [],_,h,_=>h
 | i::g,s,h,hg=>by
  simp only [List.all_cons,Bool.and_eq_true,Bool.not_eq_true'] at hg;exact RS.B0 (g:=g) (s:=s.drop i) (h.drop hg.1) hg.2
theorem K0:∀ {g:List Nat} {s:St} {j:Nat},look j (St.B0 g s).hp=if j∈g then none else look j s.hp
 | [],s,j=>by simp [St.B0]
 | i::g,s,j=>by
  simp only [St.B0,K0 (g:=g),St.drop,M1];by_cases e:j=i
  ·subst e; simp
  ·by_cases e2:j∈g<;>simp [e,e2]
theorem G5.B0 (h:HS B S ι s.hp w) {g:List Nat} {O:List Nat} (hn:O.Nodup) (hO:∀ b∈O,∃ i e,i∈g/\look i s.hp=some e/\b∈l7 ι i e):G5 B S ι (St.B0 g s).hp w O:=by
 refine ⟨hn,λ b hb=>?_⟩;obtain ⟨i,e,hi,h1,h2⟩:=hO b hb;obtain ⟨k1,k2,k3⟩:=h.bl i e h1 b h2;refine ⟨k1,k2,k3,λ j ej hj jl=>?_⟩;rw [K0] at hj;split at hj
 ·cases hj
 ·rename_i gi
  exact h.dj i j e ej h1 hj (by rintro rfl; exact gi hi) b h2 jl
theorem G5.xw {O:List Nat} (h:G5 B S ι s.hp w O) (g:List Nat):G5 B S ι (St.B0 g s).hp w O :=
 ⟨h.1,λ b hb=>⟨(h.2 b hb).1,(h.2 b hb).2.1,(h.2 b hb).2.2.1,λ i e hi=>by rw [K0] at hi; split at hi; cases hi; exact (h.2 b hb).2.2.2 i e hi⟩⟩
theorem RS.alloc (h:RS B S ι s a w) {d:Nat} (hd:s.fresh d=true) {t:Ty} {x:t.den} {cs:List Value} {O:List Nat} (hR:i6 w.heap S t O cs x) (hF:G5 B S ι s.hp w O) (T:TypeId) :
  RS B S (ι.U7 d (w.heap.size,0) O) (s.y9 d (.var t x)) a (H9 w (.cells cs.toArray T)):=by
 have h1:=h.Z5 G5.nil (F9.push (.cells cs.toArray T));have nY:=hF.Z5 (F9.push (w:=w) (.cells cs.toArray T));have dO:(H9 w (.cells cs.toArray T)).heap[w.heap.size]?=some (.cells cs.toArray T):=EB;have hold:∀ {b},b<w.heap.size->(H9 w (.cells cs.toArray T)).heap[b]?=w.heap[b]?:=λ hb=>Cb hb;refine h1.add hd (λ i hi=>Lb hi _ _) ?_ (O:=w.heap.size::O) ?_ ⟨List.nodup_cons.2 ⟨λ hm=>Nat.lt_irrefl _ (hF.2 _ hm).2.2.1,hF.1⟩,?_⟩
 ·refine ⟨⟨O,by simp [Ix.U7],?_⟩,⟨cs.toArray,T,⟨_,by simpa [Ix.U7] using dO,.inl rfl⟩,by simp [Ix.U7,hR.length]⟩,?_⟩
  ·have e:e8 (H9 w (.cells cs.toArray T)).heap w.heap.size 0 t.size=cs:=by
    have hb:x8 (H9 w (.cells cs.toArray T)).heap w.heap.size=cs:=by simp only [x8,dO]
    simp only [e8,hb,List.drop_zero];exact List.take_of_length_le (by rw [hR.length]; exact Nat.le_refl _)
   simp only [Ix.U7,if_pos];rw [e];exact hR.w6 (λ b hb=>hold (hb.elim (λ hb=>(hF.2 b hb).2.2.1) (h.hs.slt b))) (λ _ h=>h)
  ·simp only [Ix.U7,if_pos]
   exact List.nodup_cons.2 ⟨λ hm=>Nat.lt_irrefl _ (hF.2 _ hm).2.2.1,hF.1⟩
 ·intro b hb
  simpa [l7,Ix.U7] using hb
 ·intro b hb
  rcases List.mem_cons.1 hb with rfl|hb
  ·refine ⟨λ hS=>Nat.lt_irrefl _ (h.hs.slt _ hS),.inl h.hs.size,by simp [H9],λ i e hi kz=>?_⟩
   exact Nat.lt_irrefl _ (h.hs.bl i e hi _ kz).2.2
  ·exact nY.2 b hb
theorem Iq {d:Nat} {t:Ty} {x:t.den} {w':World} {r:Nat×Nat} {o:List Nat} (hr:r.1<w'.heap.size):VX w'.heap S (ι.U7 d r o) (s.y9 d (.var t x)).hp (.ptr d []) [.pointer (some ⟨r.1,r.2,none⟩)]:=by
 refine ⟨.var t x,r.1,r.2,by simp [St.y9,o7],by cases t<;>trivial,wi ?_ hr,rfl⟩;simp only [Place,VR,VH,Ix.U7,if_pos,i7.ty];cases t<;>first|rfl|(rename_i o _; cases o<;>rfl)
theorem RS.hold (h:RS B S ι s a w) {d:Nat} (hd:s.fresh d=true) {t:Ty} {x:t.den} {O:List Nat} {cs:List Value} (hR:i6 w.heap S t O cs x) (hF:G5 B S ι s.hp w O):RS B S (ι.V4 d cs O) (s.y9 d (.own t x)) a w:=by
 refine h.add hd (λ i hi=>FD hi _ _) ⟨⟨O,by simp [Ix.V4],by simpa [Ix.V4] using hR⟩,by simpa [Ix.V4] using hF.1⟩ (O:=O) ?_ hF;intro b hb;simpa [l7,Ix.V4] using hb
theorem C9 {t:Ty} {x:t.den}:j9 t x []=some ⟨t,x⟩:=by
 cases t<;>first|rfl|(rename_i o _; cases o<;>rfl)
theorem O6 {t:Ty} {x:t.den}:B8 t x []:=by
 cases t<;>first|trivial|(rename_i o _; cases o<;>trivial)
theorem C3 {H:Array Go.Obj} {t:Ty} {b off:Nat}:C2 H t [] b off=some (b,off):=by
 cases t<;>first|rfl|(rename_i o _; cases o<;>rfl)
theorem AI {H:Array Go.Obj} {d:Nat} {t:Ty} {x:t.den} {cs:List Value} (h:ι.cells d=cs) (hl:cs.length=t.size):Cells H ι d (.own t x) [] t cs:=by
 refine ⟨H.size,0,by simp only [Place,C3]; rfl,?_⟩;simp only [VH,h,e8,wx,List.drop_zero];exact (List.take_of_length_le (by omega)).symm
theorem W2 {H:Array Go.Obj} {d:Nat} {t:Ty} {x:t.den} {u:Ty} {cs:List Value} (h:Cells H ι d (.own t x) [] u cs) (hl:(ι.cells d).length=u.size):cs=ι.cells d:=by
 obtain ⟨b,off,h1,h2⟩:=h;simp only [Place,C3,VR,Option.some.injEq,Prod.mk.injEq] at h1;obtain ⟨rfl,rfl⟩:=h1;rw [h2];simp only [VH,e8,wx,List.drop_zero];exact List.take_of_length_le (by omega)
theorem Af {H:Array Go.Obj} {d:Nat} {t:Ty} {x:t.den} {cs:List Value} {O:List Nat} (hl:cs.length=t.size):VX H S (ι.V4 d cs O) (Ex.put d (.own t x) hp) (.at_ d []) [s5 t cs] :=
 ⟨.own t x,t,x,cs,by simp [o7],O6,C9,AI (by simp [Ix.V4]) hl,rfl⟩
theorem b8K (hE:D9 E B) (h:RS B S ι s a w) {o:Oper} {T:TypeId} (ho:o.op=.alloc T):G1 E.P B o a w (n6 E o s):=by
 unfold n6;rw [ho];simp only
 split
 ·rename_i t d ht hd
  split
  ·rename_i hf
   have hz:=s9 hE ht;have hR:i6 w.heap S t.ty [] (zc t.ty) t.ty.s8:=i6.s8 _;intro next Q hn
   unfold Oper.wp;have:(execOp a.eval o).run E.P w=.ok (.value (.pointer (some ⟨w.heap.size,0,none⟩))) (H9 w (.cells (zc t.ty).toArray T)):=by
    simp [execOp,ho,Instr.alloc,Ce hz,newVar,newRow,newObj,Sem.run,H9,hR.cells]
   rw [this];exact hn S _ _ _ (h.alloc hf hR G5.nil T) (Iq (by simp [H9]))
  ·trivial
 ·trivial
end
end Go.Ex
namespace Go.Ex
section
variable {E:Env} {B:F3} {S:Nat->Prop} {ι:Ix} {s:St} {a:Act} {w:World} {hp:List (Nat×i7)} {H H':Array Go.Obj}
def over (cur:List Value) (off:Nat) (cs:List Value):List Value:=cur.take off++cs++cur.drop (off+cs.length)
theorem SY {cur cs:List Value} {off:Nat} (h:off+cs.length<=cur.length):(over cur off cs).length=cur.length:=by
 simp only [over,List.length_append,List.length_take,List.length_drop]; omega
theorem NA {cur cs:List Value} {off:Nat} (h:off+cs.length<=cur.length):((over cur off cs).drop off).take cs.length=cs:=by
 have e:(cur.take off).length=off:=by rw [List.length_take]; omega
 rw [over,List.append_assoc,List.drop_left' e,List.take_left]
theorem PR {cur cs:List Value} {off:Nat} (h:off+cs.length<=cur.length) {j:Nat} (hj:j<off\/off+cs.length<=j):(over cur off cs)[j]?=cur[j]?:=by
 have e:(cur.take off).length=off:=by rw [List.length_take]; omega
 rw [over];rcases hj with hj|hj
 ·rw [List.append_assoc,List.getElem?_append_left (by omega),List.getElem?_take,if_pos hj]
 ·rw [List.getElem?_append_right (by simp only [List.length_append,e]; omega)]
  simp only [List.length_append,e,List.getElem?_drop];congr 1; omega
theorem setRow_other {g c:Nat} {cs:Array Value} (h:c≠g):(w.setRow g cs).heap[c]?=w.heap[c]?:=by
 simp only [World.setRow,Array.getElem?_modify,if_neg (Ne.symm h)]
theorem setRow_size {g:Nat} {cs:Array Value}:(w.setRow g cs).heap.size=w.heap.size:=by simp [World.setRow]
theorem EY {b off:Nat} {cs:List Value} (hf:P5 w.heap b (off+cs.length)) :
  X0 w.heap (w.setRow b (over (x8 w.heap b) off cs).toArray).heap b off cs.length/\e8 (w.setRow b (over (x8 w.heap b) off cs).toArray).heap b off cs.length=cs:=by
 obtain ⟨arr,T,⟨fz,e,ef⟩,hn⟩:=hf;have hb:x8 w.heap b=arr.toList:=by simp only [x8,e]
 have hl:off+cs.length<=arr.toList.length:=by simpa using hn
 have dO:=setRow_heap w b arr (over (x8 w.heap b) off cs).toArray T fz e;rw [hb] at dO ⊢;refine ⟨⟨⟨arr,_,T,⟨fz,⟨e,ef⟩,dO⟩,?_,?_⟩,λ c hc _=>setRow_other hc⟩,?_⟩
 ·simp [SY hl]
 ·intro j hj; exact PR hl hj
 ·simp only [e8,x8,dO]; exact NA hl
theorem FF {P:Program} (g o:Nat) (t:TypeId) (fz:Nat×Nat):∀ (vs:List Value) (i:Nat) (cur:Array Value) (w:World),Lie w.heap g cur t fz->o+i+vs.length<=cur.size->(∀ v∈vs,v.oneCell'=true) ->
  (storeCells ⟨g,o,none⟩ vs i).run P w=.ok () (w.setRow g (cur.toList.take (o+i)++vs++cur.toList.drop (o+i+vs.length)).toArray)
 | [],i,cur,w,hg,_,_=>by
  simp only [storeCells,List.append_nil,List.length_nil,Nat.add_zero,List.take_append_drop,Array.toArray_toList];rw [setRow_self w g cur t fz hg.1];rfl
 | v::rest,i,cur,w,⟨hg,hz⟩,hl,h1=>by
  have hi:o+i<cur.size:=by simp at hl; omega
  have lJ:(⟨g,o,none⟩:Addr).add i=⟨g,o+i,none⟩:=by unfold Addr.add; split<;>simp_all
  have bN:w.cell? ⟨g,o+i,none⟩=some cur[o+i]:=by simp [World.cell?,hg,hi]
  have lu:w.frozen? ⟨g,o+i,none⟩=false:=by
   rcases hz with rfl|hz
   ·simp [World.frozen?,hg]
   ·obtain ⟨lo,cY⟩:=fz
    have:¬ lo<=o+i:=by simp only at hz; omega
    simp [World.frozen?,hg,this]
  have bP:(store ((⟨g,o,none⟩:Addr).add i) v).run P w=.ok () (w.setRow g (cur.setIfInBounds (o+i) v)):=by
   rw [lJ,run_store P w _ v _ (h1 v (by simp)),bN];simp [lu,setCell_eq_setRow w g (o+i) cur t fz v hg]
  have ih:=FF (P:=P) g o t fz rest (i+1) (cur.setIfInBounds (o+i) v) (w.setRow g (cur.setIfInBounds (o+i) v)) ⟨setRow_heap w g cur _ t _ hg,by simpa using hz⟩ (by simp at hl ⊢; omega) (λ x hx=>h1 x (by simp [hx]));simp only [storeCells,Sem.run_bind,bP,Result.andThen_ok,ih,setRow_setRow];congr 3;have e:=list_seg_step cur.toList (o+i) v rest (by simp at hl ⊢; omega);simpa [Array.toList_setIfInBounds,Nat.add_assoc] using e
theorem Ly {P:Program} {n:Nat} {T:TypeId} {t u:Ty} (ht:p9 P n T t=true) (hu:u.sh=t.sh) {b off:Nat} (hf:P5 w.heap b (off+t.size)) {O:List Nat} {cs:List Value} {x:u.den} (hR:i6 H S u O cs x) :
  (storeVar T ⟨b,off,none⟩ (s5 u cs)).run P w=.ok () (w.setRow b (over (x8 w.heap b) off cs).toArray):=by
 obtain ⟨arr,T',⟨fz,e,ef⟩,hn⟩:=hf;have hl:=hR.length;have hs:=G7 hu;have h1:(s5 u cs).cells=cs.toArray:=hR.cells;have:=FF (P:=P) b off T' fz cs 0 arr w ⟨e,ef⟩ (by omega) (λ v hv=>(hR.plain v hv).1);simp only [storeVar,Sem.run_bind,run_sizeOf ht,Result.andThen,h1];have bc:cs.toArray.size=t.size:=by simp [hl,hs]
 simp only [bc,ne_eq,not_true_eq_false,if_false];simp only [Nat.add_zero] at this;have hb:x8 w.heap b=arr.toList:=by simp only [x8,e]
 rw [hb,over];simpa [Sem.run] using this
theorem VP {cs:List Value} {b off n:Nat} (hc:X0 H H' b off n) (bc:H'.size=H.size):X0 (gh H cs) (gh H' cs) b off n:=by
 obtain ⟨a1,a2,T,⟨fz,⟨k1,kf⟩,k2⟩,k3,k4⟩:=hc.at_;have bj:b<H.size:=(Array.getElem?_eq_some_iff.1 k1).1;refine ⟨⟨a1,a2,T,⟨fz,⟨(Ak bj).trans k1,kf⟩,(Ak (by omega)).trans k2⟩,k3,k4⟩,λ c cD cM=>?_⟩;rw [BK] at cM;by_cases h:c<H.size
 ·rw [Ak h,Ak (by omega)]; exact hc.rest c cD h
 ·have:c=H.size:=by omega
  subst this;rw [DZ,<- bc,DZ]
theorem Bt {i:Nat} {e:i7} {b off n:Nat} (hc:X0 H H' b off n) (bc:H'.size=H.size):X0 (VH H ι i e) (VH H' ι i e) b off n:=by
 cases e<;>first|exact hc|exact VP hc bc
theorem NV {i:Nat} {e:i7} (bc:H'.size=H.size):VR H' ι i e=VR H ι i e:=by cases e<;>simp [VR,bc]
theorem xh {i:Nat} {e:i7}:H.size<=(VH H ι i e).size:=by cases e<;>simp [VH,BK]
theorem Nc {e:i7} {r:Sigma Ty.den} (he:e≠.M3):(e.E8 r).ty=r.1:=by cases e<;>first|rfl|exact absurd rfl he
theorem Oy {e:i7} {r:Sigma Ty.den} (he:e≠.M3):e.E8 r≠.M3:=by cases e<;>first|exact absurd rfl he|(intro h; cases h)
theorem HK {i:Nat} {e:i7} {r:Sigma Ty.den} {ι':Ix} (h:ι'.cells i=ι.cells i):VH H ι' i (e.E8 r)=VH H ι i e:=by cases e<;>simp [VH,i7.E8,h]
theorem Mz {i:Nat} {e:i7} {r:Sigma Ty.den} {ι':Ix} (h:ι'.root i=ι.root i):VR H ι' i (e.E8 r)=VR H ι i e:=by cases e<;>simp [VR,i7.E8,h]
theorem OB.E8 {i:Nat} {e:i7} (he:e≠.M3) (ho:OB H S ι i e) (bR:∀ c∈l7 ι i e,¬ S c/\c<H.size) (hS:∀ c,S c->c<H.size) {p:List Step} (aK:B8 e.ty e.x p) {u:Ty} {y:u.den} (hg:j9 e.ty e.x p=some ⟨u,y⟩)
  {b off:Nat} (hl:Loc H ι i e p=some (b,off)) {u':Ty} {z:u'.den} {O2:List Nat} (hc:X0 H H' b off u.size) (bc:H'.size=H.size) (hz:i6 H' S u' O2 (e8 H' b off u'.size) z)
  (eW:∀ c∈O2,c<H.size/\(c∈l7 ι i e->∃ Op,i6 H S u Op (e8 H b off u.size) y/\c∈Op)) (de:O2.Nodup) {r:Sigma Ty.den} (aL:w5 e.ty e.x p u' z=some r) :
  ∃ O,(∀ c∈O,c∈ι.own i\/c∈O2)/\OB H' S (ι.D8 i O) i (e.E8 r)/\r.1.sh=e.ty.sh/\∀ c∈O,c∈O2\/∀ Op,i6 H S u Op (e8 H b off u.size) y->c∉Op:=by
 obtain ⟨O,hO,hR,hb,aN,bj,gy,dY⟩:=ho.see he hS;obtain ⟨O1,O3,b',ar,e1,e2,e3,e4,e5,e6⟩:=focus hR hb aK hg
 obtain ⟨bZ,dv⟩:=D4 hl;rw [I3 he] at bZ;rw [e3] at bZ; cases bZ;have cx:(O1++O3).Nodup:=(e1.nodup_iff).1 ((hO.nodup_iff).2 (List.nodup_cons.1 aN).2);have bq:∀ c∈O1,c∈ι.own i:=λ c hc=>hO.mem_iff.1 (e1.mem_iff.2 (by simp [hc]));have cQ:∀ c∈O3,c∈ι.own i:=λ c hc=>hO.mem_iff.1 (e1.mem_iff.2 (by simp [hc]));have bF:=(List.nodup_cons.1 aN).1;have dp:∀ c∈ι.own i,c∈l7 ι i e:=by intro c hc; cases e<;>simp [l7,hc]
 have kO:¬ S (VR H ι i e).1:=by
  rcases gy with h|⟨t,x,rfl⟩
  ·exact h
  ·exact (bR _ (by simp [l7,VR])).1
 have iB:i6 (VH H' ι i e) S u' O2 (e8 (VH H' ι i e) b off u'.size) z:=by
  rw [l6 (G8 (by omega))];exact (wj (λ c hc=>by have:=(eW c hc).1; omega) (λ c hc=>by have:=hS c hc; omega)).2 hz
 have oM:∀ c∈O2,c∈l7 ι i e->c∈O3:=by
  intro c hc cD;obtain ⟨Op,h1,h2⟩:=(eW c hc).2 cD;have e4':i6 H S u O3 (e8 H b off u.size) y:=by
   rw [l6 (G8 dv)] at e4;exact (wj (λ c hc=>ho.U5 he (cQ c hc)) hS).1 e4
  rwa [h1.det e4'] at h2
 obtain ⟨O4,f1,f2,f3⟩:=BO e2 hg e3 hb bj (List.nodup_append.1 cx).1 (λ h=>bF (bq _ h)) (λ c hc=>⟨(bR c (dp c (bq c hc))).1,Nat.lt_of_lt_of_le (bR c (dp c (bq c hc))).2 xh⟩) kO
  (λ c hc=>Nat.lt_of_lt_of_le (hS c hc) xh) (λ _ h=>h) (Bt hc bc) iB aL
 have ik:O4.Nodup:=(f1.nodup_iff).2 (List.nodup_append.2 ⟨(List.nodup_append.1 cx).1,de,by
  rintro c h1 d h2 rfl;exact (List.nodup_append.1 cx).2.2 c h1 c (oM c h2 (dp c (bq c h1))) rfl⟩)
 have bU:∀ c∈O4,c∈ι.own i\/c∈O2:=by
  intro c hc;rcases List.mem_append.1 (f1.mem_iff.1 hc) with h|h
  ·exact .inl (bq c h)
  ·exact .inr h
 have la:∀ c∈O4,c<H'.size:=by
  intro c hc;rw [bc];rcases bU c hc with h|h
  ·exact ho.U5 he h
  ·exact (eW c h).1
 have f2':=(wj la (λ c hc=>by have:=hS c hc; omega)).1 f2;have pK:∀ c∈O4,c∈O2\/∀ Op,i6 H S u Op (e8 H b off u.size) y->c∉Op:=by
  intro c hc;rcases List.mem_append.1 (f1.mem_iff.1 hc) with h|h
  ·refine .inr (λ Op gT qz=>?_)
   have e4':i6 H S u O3 (e8 H b off u.size) y:=by
    rw [l6 (G8 dv)] at e4;exact (wj (λ c hc=>ho.U5 he (cQ c hc)) hS).1 e4
   obtain rfl:Op=O3:=gT.det e4';exact (List.nodup_append.1 cx).2.2 c h c qz rfl
  ·exact .inl h
 refine ⟨O4,bU,?_,f3,pK⟩;cases e with
 | var t x =>
  simp only [i7.E8,OB,Ix.D8,if_true];obtain ⟨_,hf,_⟩:=ho;refine ⟨⟨O4,List.Perm.refl _,f2'⟩,?_,?_⟩
  ·rw [G7 f3]; exact hc.free hf
  ·refine List.nodup_cons.2 ⟨λ h=>?_,ik⟩
   rcases bU _ h with h1|h1
   ·exact bF h1
   ·exact bF (cQ _ (oM _ h1 (List.mem_cons_self ..)))
 | own t x =>
  simp only [i7.E8,OB,Ix.D8,if_true];refine ⟨⟨O4,List.Perm.refl _,?_⟩,ik⟩;obtain ⟨⟨O',_,fL⟩,_⟩:=ho;have jv:r.1.size=t.size:=G7 f3;have:e8 (VH H' ι i (.own t x)) (VR H ι i (.own t x)).1 (VR H ι i (.own t x)).2 r.1.size=ι.cells i:=by
   simp only [VH,VR];rw [<- bc];simp only [e8,wx,List.drop_zero];exact List.take_of_length_le (by rw [fL.length,jv]; exact Nat.le_refl _)
  rw [this] at f2';exact f2'
 | M3=>exact absurd rfl he
theorem WV {i:Nat} {e:i7} (he:e≠.M3) (ho:OB H S ι i e) (bR:∀ c∈l7 ι i e,¬ S c/\c<H.size) (hS:∀ c,S c->c<H.size) {p:List Step} (aK:B8 e.ty e.x p) {u:Ty} {y:u.den} (hg:j9 e.ty e.x p=some ⟨u,y⟩)
  {b off:Nat} (hl:Loc H ι i e p=some (b,off)) {u':Ty} {z:u'.den} (hc:X0 H H' b off u.size) (bc:H'.size=H.size) {r:Sigma Ty.den} (aL:w5 e.ty e.x p u' z=some r)
  {q:List Step} (hk:kp p q=true) (hq:B8 e.ty e.x q) (O:List Nat) {rr:Nat×Nat} (hr:Loc H ι i e q=some rr):Loc H' (ι.D8 i O) i (e.E8 r) q=some rr/\B8 (e.E8 r).ty (e.E8 r).x q:=by
 obtain ⟨O',hO,hR,hb,aN,bj,gy,dY⟩:=ho.see he hS;obtain ⟨O1,O3,b',ar,e1,e2,e3,e4,e5,e6⟩:=focus hR hb aK hg
 obtain ⟨bZ,dv⟩:=D4 hl;rw [I3 he] at bZ;rw [e3] at bZ; cases bZ;have cx:(O1++O3).Nodup:=(e1.nodup_iff).1 ((hO.nodup_iff).2 (List.nodup_cons.1 aN).2);have bq:∀ c∈O1,c∈ι.own i:=λ c hc=>hO.mem_iff.1 (e1.mem_iff.2 (by simp [hc]));have key:=Qk e2 hg e3 hb bj (List.nodup_append.1 cx).1 (λ h=>(List.nodup_cons.1 aN).1 (bq _ h)) (λ c hc=>Nat.lt_of_lt_of_le (ho.U5 he (bq c hc)) xh) (Bt hc bc) aL hk hq;obtain ⟨lW,mH⟩:=D4 (b:=rr.1) (off:=rr.2) hr;rw [I3 he] at lW;have hu:B8 (e.E8 r).ty (e.E8 r).x q:=by
  cases e<;>first|exact key.2|exact absurd rfl he
 refine ⟨wi (b:=rr.1) (off:=rr.2) ?_ (by omega),hu⟩;rw [I3 (Oy he),HK (ι:=ι) (ι':=ι.D8 i O) rfl,Mz (ι:=ι) (ι':=ι.D8 i O) rfl,NV bc,Nc he,key.1];exact lW
theorem Zh {i:Nat} {e:i7} (he:e≠.M3) (ho:OB H S ι i e) (bR:∀ c∈l7 ι i e,¬ S c/\c<H.size) (hS:∀ c,S c->c<H.size) {p:List Step} (aK:B8 e.ty e.x p) {u:Ty} {y:u.den} (hg:j9 e.ty e.x p=some ⟨u,y⟩)
  {b off:Nat} (hl:Loc H ι i e p=some (b,off)) {u':Ty} {z:u'.den} (hc:X0 H H' b off u.size) (bc:H'.size=H.size) {r:Sigma Ty.den} (aL:w5 e.ty e.x p u' z=some r)
  {q:List Step} (hk:kc e.ty p q=true) (fk:kp p q=true) (hq:B8 e.ty e.x q) (O:List Nat) {u1:Ty} {y1:u1.den} (dA:j9 e.ty e.x q=some ⟨u1,y1⟩) {cs:List Value} (cI:Cells H ι i e q u1 cs) :
  B8 (e.E8 r).ty (e.E8 r).x q/\(∃ y2:u1.den,j9 (e.E8 r).ty (e.E8 r).x q=some ⟨u1,y2⟩)/\Cells H' (ι.D8 i O) i (e.E8 r) q u1 cs:=by
 obtain ⟨O',hO,hR,hb,aN,bj,gy,dY⟩:=ho.see he hS;obtain ⟨O1,O3,b',ar,e1,e2,e3,e4,e5,e6⟩:=focus hR hb aK hg
 obtain ⟨bZ,dv⟩:=D4 hl;rw [I3 he] at bZ;rw [e3] at bZ; cases bZ;have cx:(O1++O3).Nodup:=(e1.nodup_iff).1 ((hO.nodup_iff).2 (List.nodup_cons.1 aN).2);have bq:∀ c∈O1,c∈ι.own i:=λ c hc=>hO.mem_iff.1 (e1.mem_iff.2 (by simp [hc]));have cL:=λ h=>(List.nodup_cons.1 aN).1 (bq _ h);have jf:∀ c∈O1,c<(VH H ι i e).size:=λ c hc=>Nat.lt_of_lt_of_le (ho.U5 he (bq c hc)) xh;have key:=Qk e2 hg e3 hb bj (List.nodup_append.1 cx).1 cL jf (Bt hc bc) aL fk hq;obtain ⟨⟨y2,lQ⟩,key2⟩:=ZT e2 hg e3 hb bj (List.nodup_append.1 cx).1 cL jf (Bt hc bc) aL hk hq dA;obtain ⟨b1,o1,pC,dP⟩:=cI;rw [I3 he] at pC;have iA:=key2 b1 o1 pC;refine ⟨?_,⟨y2,?_⟩,b1,o1,?_,?_⟩
 ·cases e<;>first|exact key.2|exact absurd rfl he
 ·cases e<;>first|exact lQ|exact absurd rfl he
 ·rw [I3 (Oy he),HK (ι:=ι) (ι':=ι.D8 i O) rfl,Mz (ι:=ι) (ι':=ι.D8 i O) rfl,NV bc,Nc he,key.1]
  exact pC
 ·rw [HK (ι:=ι) (ι':=ι.D8 i O) rfl,iA]
  exact dP
end
end Go.Ex
namespace Go.Ex
section
variable {E:Env} {B:F3} {S:Nat->Prop} {ι:Ix} {s:St} {a:Act} {w:World} {hp:List (Nat×i7)} {H H':Array Go.Obj}
theorem Cu:∀ {t:Ty} {x:t.den} {p:List Step} {u:Ty} {y:u.den} {u':Ty} {z:u'.den} {r:Sigma Ty.den},j9 t x p=some ⟨u,y⟩->w5 t x p u' z=some r->u'.sh=u.sh:=by
 intro t
 induction t with
 | pair a c iha ihc =>
  intro x p u y u' z r hg hs
  match p,hg,hs with
  | [],hg,hs =>
   simp only [j9,Option.some.injEq] at hg; cases hg;simp only [w5] at hs;split at hs
   ·rename_i e; exact e
   ·cases hs
  | .l8 0::p,hg,hs =>
   simp only [w5] at hs;split at hs
   ·rename_i t' w hw; exact iha hg hw
   ·cases hs
  | .l8 (n+1)::p,hg,hs =>
   simp only [w5] at hs;split at hs
   ·rename_i t' w hw; exact ihc hg hw
   ·cases hs
  | .idx i::p,_,hs=>simp [w5] at hs
 | arr n t ih =>
  intro x p u y u' z r hg hs
  match p,hg,hs with
  | [],hg,hs =>
   simp only [j9,Option.some.injEq] at hg; cases hg;simp only [w5] at hs;split at hs
   ·rename_i e; exact e
   ·cases hs
  | .idx i::p,hg,hs =>
   simp only [w5] at hs;split at hs
   ·rename_i t' w hw; exact ih hg hw
   ·cases hs
  | .l8 i::p,_,hs=>simp [w5] at hs
 | d8 o t ih =>
  intro x p u y u' z r hg hs
  match p,hg,hs with
  | [],hg,hs =>
   have hg:some (⟨.d8 o t,x⟩:Sigma Ty.den)=some ⟨u,y⟩:=by cases o<;>exact hg
   cases hg;have hs:(if u'.sh=(Ty.d8 o t).sh then some (⟨u',z⟩:Sigma Ty.den) else none)=some r:=by cases o<;>exact hs
   split at hs
   ·rename_i e; exact e
   ·cases hs
  | .idx i::p,hg,hs =>
   cases o with
   | false=>simp [w5] at hs
   | true =>
    simp only [w5] at hs;split at hs
    ·rename_i t' w hw; exact ih hg hw
    ·cases hs
  | .l8 i::p,_,hs=>cases o<;>simp [w5] at hs
 | _ =>
  intro x p u y u' z r hg hs
  match p,hg,hs with
  | [],hg,hs =>
   simp only [j9,Option.some.injEq] at hg; cases hg;simp only [w5] at hs;split at hs
   ·rename_i e; exact e
   ·cases hs
  | .idx i::p,_,hs=>simp [w5] at hs
  | .l8 i::p,_,hs=>simp [w5] at hs
theorem RS.Eg (h:RS B S ι s a w) {i:Nat} {e:i7} (he:look i s.hp=some e) {p:List Step} (aK:B8 e.ty e.x p) {u:Ty} {y:u.den} (hg:j9 e.ty e.x p=some ⟨u,y⟩) {b off:Nat} (hl:Loc w.heap ι i e p=some (b,off))
  {u':Ty} {z:u'.den} {cs:List Value} {O2:List Nat} (hz:∀ H',H'.size=w.heap.size->X0 w.heap H' b off u.size->i6 H' S u' O2 cs z) (cI:cs.length=u.size) (de:O2.Nodup)
  (eW:∀ c∈O2,(¬ S c/\(B.w0.heap.size<=c\/B.M c)/\c<w.heap.size)/\(∀ j ej,j≠i->look j s.hp=some ej->c∉l7 ι j ej)/\(c∈l7 ι i e->∃ Op,i6 w.heap S u Op (e8 w.heap b off u.size) y/\c∈Op))
  {r:Sigma Ty.den} (aL:w5 e.ty e.x p u' z=some r) (dn:e.vu=true->p≠[]->r.1=e.ty) :
  ∃ ι',(∃ O,ι'=ι.D8 i O/\∀ c∈O,(c∈ι.own i\/c∈O2)/\(c∈O2\/∀ Op,i6 w.heap S u Op (e8 w.heap b off u.size) y->c∉Op))/\RS B S ι' ((s.kill i e.kd p).y9 i (e.E8 r)) a (w.setRow b (over (x8 w.heap b) off cs).toArray):=by
 have cL:=L8 hl;obtain ⟨Op,m1,mn,m2,m3,m4,m5⟩:=N5 cL (h.hs.ob i e he) h.hs.slt aK hg hl;have hf:P5 w.heap b (off+cs.length):=by rw [cI]; exact m5
 obtain ⟨hc,bN⟩:=EY hf;rw [cI] at hc bN;have bc:(w.setRow b (over (x8 w.heap b) off cs).toArray).heap.size=w.heap.size:=setRow_size;generalize gX:w.setRow b (over (x8 w.heap b) off cs).toArray=w' at *
 have bR:=h.hs.bl i e he;have gl:∀ c∈l7 ι i e,¬ S c/\c<w.heap.size:=λ c hc=>⟨(bR c hc).1,(bR c hc).2.2⟩;have il:¬ S b:=(bR b m4).1;have hold:∀ c,c≠b->w'.heap[c]?=w.heap[c]?:=by intro c cD; rw [<- gX]; exact setRow_other cD
 have jt:u'.size=u.size:=G7 (Cu hg aL);have iB:i6 w'.heap S u' O2 (e8 w'.heap b off u'.size) z:=by
  rw [jt,bN];exact hz w'.heap bc hc
 obtain ⟨O,n1,n2,n3,n4⟩:=OB.E8 cL (h.hs.ob i e he) gl h.hs.slt aK hg hl hc bc iB (λ c hc=>⟨(eW c hc).1.2.2,(eW c hc).2.2⟩) de aL;have dp:∀ c∈ι.own i,c∈l7 ι i e:=by intro c hc; cases e<;>simp [l7,hc]
 have nL:∀ c∈l7 (ι.D8 i O) i (e.E8 r),c∈l7 ι i e\/c∈O2:=by
  intro c hc;cases e with
  | var t x =>
   simp only [l7,i7.E8,Ix.D8,if_true,List.mem_cons] at hc ⊢;rcases hc with hc|hc
   ·exact .inl (.inl hc)
   ·exact (n1 c hc).imp .inr id
  | own t x =>
   simp only [l7,i7.E8,Ix.D8,if_true] at hc ⊢;exact n1 c hc
  | M3=>exact absurd rfl cL
 have iU:∀ c∈l7 (ι.D8 i O) i (e.E8 r),(¬ S c/\(B.w0.heap.size<=c\/B.M c)/\c<w.heap.size)/\∀ j ej,j≠i->look j s.hp=some ej->c∉l7 ι j ej:=by
  intro c hc;rcases nL c hc with h1|h1
  ·exact ⟨bR c h1,λ j ej hj du=>h.hs.dj i j e ej he du (Ne.symm hj) c h1⟩
  ·exact ⟨(eW c h1).1,(eW c h1).2.1⟩
 have bo:∀ j,j≠i->F8 ι (ι.D8 i O) j:=λ j hj=>X7 hj _;refine ⟨ι.D8 i O,⟨O,rfl,λ c hc=>⟨n1 c hc,n4 c hc⟩⟩,⟨?_,?_,?_,?_,?_,?_,h.hs.s0,h.hs.s1,?_,?_,?_,?_⟩,h.dfr,h.sz,?_⟩
 ·rw [<- gX]; exact h.hs.os
 ·exact W7.trans (.of (by rw [<- gX]; rfl) (by rw [<- gX]; rfl)) h.hs.tape
 ·rw [<- gX]; exact h.hs.out
 ·rw [bc]; exact h.hs.size
 ·intro c dP hm
  rw [hold c (by rintro rfl; rcases (bR c m4).2.1 with h|h; omega; exact hm h)];exact h.hs.frame c dP hm
 ·intro c dP; rw [bc]; exact h.hs.slt c dP
 ·intro j ej hj
  simp only [St.y9,o7] at hj;by_cases e1:j=i
  ·subst e1; rw [if_pos rfl] at hj; cases hj; exact n2
  ·rw [if_neg e1] at hj
   have hj:look j s.hp=some ej:=hj;refine (bo j e1).ob.2 ((h.hs.ob j ej hj).w6 (λ c eg=>hold c ?_) (λ _ h=>h));rintro rfl;rcases eg with eg|eg
   ·exact h.hs.dj j i ej e hj he e1 c eg m4
   ·exact il eg
 ·intro j ej hj c hc
  simp only [St.y9,o7] at hj;rw [bc];by_cases e1:j=i
  ·subst e1; rw [if_pos rfl] at hj; cases hj; exact (iU c hc).1
  ·rw [if_neg e1] at hj
   rw [(bo j e1).l7] at hc;exact h.hs.bl j ej hj c hc
 ·intro j k ej ek hj hk fH c hc
  simp only [St.y9,o7] at hj hk;by_cases e1:j=i
  ·subst e1
   rw [if_pos rfl] at hj; cases hj;rw [if_neg (Ne.symm fH)] at hk;rw [(bo k (Ne.symm fH)).l7];exact (iU c hc).2 k ek (Ne.symm fH) hk
  ·rw [if_neg e1] at hj
   rw [(bo j e1).l7] at hc;by_cases e2:k=i
   ·subst e2
    rw [if_pos rfl] at hk; cases hk;exact λ cZ=>(iU c cZ).2 j ej e1 hj hc
   ·rw [if_neg e2] at hk
    rw [(bo k e2).l7];exact h.hs.dj j k ej ek hj hk fH c hc
 ·intro q hq
  obtain ⟨k0,⟨e',k1⟩,k2,k3⟩:=h.hs.pin q hq;refine ⟨k0,?_,k2,k3⟩;simp only [St.y9,o7];by_cases e1:q.1=i
  ·exact ⟨_,by rw [if_pos e1]⟩
  ·exact ⟨e',by rw [if_neg e1]; exact k1⟩
 ·intro t v hv
  simp only [St.y9,St.kill,P9,Option.map_eq_some_iff] at hv;obtain ⟨v0,fh,rfl⟩:=hv;refine VX.map (λ c hc=>hold c (λ e=>il (e▸hc))) (λ _ h=>h) (λ v vs hr hm dB=>?_) (h.fr t v0 fh);unfold AV.Bg;cases ca:v.j5 i with
  | false =>
   have bG:∀ j,v.j5 j=true->j≠i:=by rintro j hj rfl; rw [ca] at hj; cases hj
   have bP:VX w'.heap S ι (del i s.hp) v vs:=by
    refine VX.grow (λ c eg=>hold c ?_) (λ _ h=>h) h.hs.slt (λ j ej hj=>?_) (VX.other (cK:=del i s.hp) (λ j hj=>by rw [M1,if_neg (bG j hj)]) (λ j _=>F8.refl ι j) dB)
    ·rintro rfl
     rcases eg with ⟨j,ej,hj,hY⟩|eg
     ·rw [M1] at hj
      split at hj
      ·cases hj
      ·rename_i dN
       exact h.hs.dj j i ej e hj he dN c hY m4
     ·exact il eg
    ·rw [M1] at hj
     split at hj
     ·cases hj
     ·exact h.hs.ob j ej hj
   exact VX.other (λ j hj=>by simp only [St.y9,o7,M1,if_neg (bG j hj)]; rfl) (λ j hj=>bo j (bG j hj)) bP
  | true =>
   have dx:∀ {vs:List Value},(∃ x,vs=[x])->VX w'.heap S (ι.D8 i O) ((s.kill i e.kd p).y9 i (e.E8 r)).hp .any vs:=λ h=>h;have cH:=VX.one hr dB;simp only;cases v<;>simp only [AV.ref] at hr<;>try cases hr
   ·rename_i j q
    have dN:i=j:=Nat.eq_of_beq_eq_true ca;subst dN;cases pY:kp p q with
    | false=>simp only [pY]; exact cH
    | true =>
     simp only [pY];obtain ⟨ej,b2,off2,k1,k2,k3,k4⟩:=dB;rw [he] at k1; cases k1;obtain ⟨l1,l2⟩:=WV cL (h.hs.ob i e he) gl h.hs.slt aK hg hl hc bc aL pY k2 O k3;exact ⟨e.E8 r,b2,off2,by simp [St.y9,o7],l2,l1,k4⟩
   ·rename_i j q
    have dN:i=j:=Nat.eq_of_beq_eq_true ca;subst dN;have kn:kc e.ty p q=true->kp p q=true->VX w'.heap S (ι.D8 i O) ((s.kill i e.kd p).y9 i (e.E8 r)).hp (.at_ i q) vs:=by
     intro jK fk;obtain ⟨ej,u2,y2,cs2,k1,k2,k3,k4,k5⟩:=dB;rw [he] at k1; cases k1;obtain ⟨l1,⟨y3,l2⟩,l3⟩:=Zh cL (h.hs.ob i e he) gl h.hs.slt aK hg hl hc bc aL jK fk k2 O k3 k4;exact ⟨e.E8 r,u2,y3,cs2,by simp [St.y9,o7],l1,l2,l3,k5⟩
    cases q with
    | cons st q =>
     cases lj:kc e.kd.2 p (st::q) && kp p (st::q) with
     | false=>simp only [lj]; exact cH
     | true =>
      simp only [lj];rw [Bool.and_eq_true] at lj;exact kn lj.1 lj.2
    | nil =>
     have nI:VX w'.heap S (ι.D8 i O) ((s.kill i e.kd p).y9 i (e.E8 r)).hp (match kc e.kd.2 p [] with|true=>AV.at_ i []|false=>AV.any) vs:=by
      cases lj:kc e.kd.2 p [] with
      | false=>exact cH
      | true=>exact kn lj (by cases p<;>rfl)
     rcases ou:p with _|⟨_|jx,pq⟩<;>cases bA:e.vu<;>simp only [i7.kd,bA]<;>first|(rw [ou] at nI; exact nI)|skip
     ·obtain ⟨ej,u2,y2,cs2,k1,k2,k3,k4,k5⟩:=dB
      rw [he] at k1; cases k1;have jd:=dn bA (by rw [ou]; simp);rw [C9] at k3; cases k3;obtain ⟨t0,x0,rfl⟩:∃ t0 x0,e=.own t0 x0:=by cases e<;>first|exact ⟨_,_,rfl⟩|(simp [i7.vu] at bA)
      obtain ⟨⟨O',_,fL⟩,_⟩:=h.hs.ob i _ he;have dZ:=W2 k4 fL.length;have jd:r.1=t0:=jd;refine ⟨.own r.1 r.2,r.1,r.2,cs2,by simp [St.y9,o7,i7.E8],O6,C9,AI (by rw [dZ]; rfl) (by rw [dZ,fL.length,jd]),?_⟩;rw [k5];simp only [i7.ty,jd]
   ·rename_i j q lo hi
    have dN:i=j:=Nat.eq_of_beq_eq_true ca;subst dN;cases q with
    | cons st q=>exact cH
    | nil =>
     rcases ou:p with _|⟨_|jx,pq⟩<;>cases bA:e.vu<;>simp only [i7.kd,bA]<;>first|exact cH|skip
     ·obtain ⟨ej,v2,k1,k2,k3,k4,k5,k6⟩:=dB
      rw [he] at k1; cases k1;have jd:=dn bA (by rw [ou]; simp);obtain ⟨t0,x0,rfl⟩:∃ t0 x0,e=.own t0 x0:=by cases e<;>first|exact ⟨_,_,rfl⟩|(simp [i7.vu] at bA)
      obtain ⟨⟨O',_,fL⟩,_⟩:=h.hs.ob i _ he;have jd:r.1=t0:=jd;rcases k6 with ⟨t',l,a',cap,g1,g2,g3,g4⟩|⟨n,t',l,b2,off2,g1,g2,g3,g4⟩
      ·rw [C9] at g1; cases g1
       obtain ⟨rt,rx⟩:=r;have jd:rt=.d8 true t':=jd;subst jd;have dZ:=W2 g3 fL.length;have hlen:List.length (rx:(Ty.d8 true t').den)=List.length (x0:(Ty.d8 true t').den):=by
        obtain ⟨⟨O'',_,ja⟩,_⟩:=n2;have cZ:(ι.D8 i O).cells i=[.slice a' (List.length (x0:(Ty.d8 true t').den)) cap]:=(show ι.cells i=_ from dZ.symm);rw [cZ] at ja;rcases ja with ⟨_,⟨a2,c2,h1,_⟩,h3⟩|⟨b3,o3,cap3,O3,c1,_⟩
        ·simp only [List.cons.injEq,Value.slice.injEq,and_true] at h1
         subst h3;simp [h1.2.1]
        ·simp only [List.cons.injEq,Value.slice.injEq,and_true] at c1
         exact c1.2.1.symm
       refine ⟨.own (.d8 true t') rx,v2,by simp [St.y9,o7,i7.E8],O6,k3,k4,k5,.inl ⟨t',rx,a',cap,C9,by rw [hlen]; exact g2,?_,g4⟩⟩;rw [hlen];exact AI (show ι.cells i=_ from dZ.symm) rfl
      ·exfalso
       simp only [Loc,Place,C3,VR] at g3;simp at g3
theorem RS.store (h:RS B S ι s a w) {i:Nat} {e:i7} (he:look i s.hp=some e) {p:List Step} (aK:B8 e.ty e.x p) {u:Ty} {y:u.den} (hg:j9 e.ty e.x p=some ⟨u,y⟩) {b off:Nat} (hl:Loc w.heap ι i e p=some (b,off))
  {u':Ty} {z:u'.den} {cs:List Value} {O2:List Nat} (hz:∀ H',H'.size=w.heap.size->X0 w.heap H' b off u.size->i6 H' S u' O2 cs z) (cI:cs.length=u.size) (de:O2.Nodup)
  (eW:∀ c∈O2,(¬ S c/\(B.w0.heap.size<=c\/B.M c)/\c<w.heap.size)/\(∀ j ej,j≠i->look j s.hp=some ej->c∉l7 ι j ej)/\(c∈l7 ι i e->∃ Op,i6 w.heap S u Op (e8 w.heap b off u.size) y/\c∈Op))
  {r:Sigma Ty.den} (aL:w5 e.ty e.x p u' z=some r) (dn:e.vu=true->p≠[]->r.1=e.ty) :
  ∃ ι',RS B S ι' ((s.kill i e.kd p).y9 i (e.E8 r)) a (w.setRow b (over (x8 w.heap b) off cs).toArray):=by
 obtain ⟨ι',_,h1⟩:=h.Eg he aK hg hl hz cI de eW aL dn;exact ⟨ι',h1⟩
end
end Go.Ex
namespace Go.Ex
section
variable {E:Env} {B:F3} {S:Nat->Prop} {ι:Ix} {s:St} {a:Act} {w:World} {hp:List (Nat×i7)} {H H':Array Go.Obj}
theorem ZZ:∀ {t:Ty} {x:t.den} {p q:List Step} {b off:Nat} {u:Ty} {y:u.den},j9 t x p=some ⟨u,y⟩->C2 H t (p++q) b off=(C2 H t p b off).bind λ r=>C2 H u q r.1 r.2:=by
 intro t
 induction t with
 | pair a c iha ihc =>
  intro x p q b off u y h
  match p,h with
  | [],h=>simp only [j9,Option.some.injEq] at h; cases h; rfl
  | .l8 0::p,h=>exact iha h
  | .l8 (n+1)::p,h=>exact ihc h
  | .idx i::p,h=>simp [j9] at h
 | arr n t ih =>
  intro x p q b off u y h
  match p,h with
  | [],h=>simp only [j9,Option.some.injEq] at h; cases h; rfl
  | .idx i::p,h=>exact ih h
  | .l8 i::p,h=>simp [j9] at h
 | d8 o t ih =>
  intro x p q b off u y h
  match p,h with
  | [],h =>
   have h:some (⟨.d8 o t,x⟩:Sigma Ty.den)=some ⟨u,y⟩:=by cases o<;>exact h
   cases h;have:C2 H (.d8 o t) [] b off=some (b,off):=by cases o<;>rfl
   rw [this]; rfl
  | .idx i::p,h =>
   cases o with
   | false=>simp [j9] at h
   | true =>
    simp only [List.cons_append,C2]
    split
    ·exact ih h
    ·rfl
  | .l8 i::p,h=>cases o<;>simp [j9] at h
 | _ =>
  intro x p q b off u y h
  match p,h with
  | [],h=>simp only [j9,Option.some.injEq] at h; cases h; rfl
  | .idx i::p,h=>simp [j9] at h
  | .l8 i::p,h=>simp [j9] at h
theorem X8:∀ {t:Ty} {x:t.den} {p q:List Step} {u:Ty} {y:u.den},j9 t x p=some ⟨u,y⟩->B8 t x p->B8 u y q->B8 t x (p++q):=by
 intro t
 induction t with
 | pair a c iha ihc =>
  intro x p q u y h h1 h2
  match p,h,h1 with
  | [],h,_=>simp only [j9,Option.some.injEq] at h; cases h; exact h2
  | .l8 0::p,h,h1=>exact iha h h1 h2
  | .l8 (n+1)::p,h,h1=>exact ihc h h1 h2
  | .idx i::p,h,_=>simp [j9] at h
 | arr n t ih =>
  intro x p q u y h h1 h2
  match p,h,h1 with
  | [],h,_=>simp only [j9,Option.some.injEq] at h; cases h; exact h2
  | .idx i::p,h,h1=>exact ⟨h1.1,ih h h1.2 h2⟩
  | .l8 i::p,h,_=>simp [j9] at h
 | d8 o t ih =>
  intro x p q u y h h1 h2
  match p,h,h1 with
  | [],h,_ =>
   have h:some (⟨.d8 o t,x⟩:Sigma Ty.den)=some ⟨u,y⟩:=by cases o<;>exact h
   cases h; exact h2
  | .idx i::p,h,h1 =>
   cases o with
   | false=>simp [j9] at h
   | true=>exact ⟨h1.1,ih h h1.2 h2⟩
  | .l8 i::p,h,_=>cases o<;>simp [j9] at h
 | _ =>
  intro x p q u y h h1 h2
  match p,h,h1 with
  | [],h,_=>simp only [j9,Option.some.injEq] at h; cases h; exact h2
  | .idx i::p,h,_=>simp [j9] at h
  | .l8 i::p,h,_=>simp [j9] at h
theorem AN {i:Nat} {e:i7} {p q:List Step} {u:Ty} {y:u.den} (hg:j9 e.ty e.x p=some ⟨u,y⟩) {b off:Nat} (hl:Place H ι i e p=some (b,off)) {r:Nat×Nat} (hn:C2 (VH H ι i e) u q b off=some r) :
  Place H ι i e (p++q)=some r:=by
 have he:=JT hl;rw [I3 he] at hl ⊢;rw [ZZ hg,hl]; exact hn
theorem CD {i:Nat} {e:i7} {p q:List Step} {u:Ty} {y:u.den} (hg:j9 e.ty e.x p=some ⟨u,y⟩) {b off:Nat} (hl:Loc H ι i e p=some (b,off)) {ar:Nat} (hn:∀ G:Array Go.Obj,C2 G u q b off=some (b,ar)) :
  Loc H ι i e (p++q)=some (b,ar):=by
 obtain ⟨h1,h2⟩:=D4 hl;exact wi (AN hg h1 (hn _)) h2
def S7:Ty->Nat->Nat
 | .pair _ _,0=>0
 | .pair a b,n+1=>a.size+S7 b n
 | _,_=>0
theorem yG:∀ {t:Ty} {x:t.den} {n:Nat} {u:Ty} {z:u.den} {b off:Nat},j9 t x [.l8 n]=some ⟨u,z⟩->C2 H t [.l8 n] b off=some (b,off+S7 t n):=by
 intro t
 induction t with
 | pair a c _ ihc =>
  intro x n u z b off h
  match n,h with
  | 0,h=>cases a<;>rfl
  | n+1,h =>
   have:=ihc (x:=x.2) (b:=b) (off:=off+a.size) h;simp only [C2,S7] at this ⊢;rw [this,Nat.add_assoc]
 | d8 o t _=>intro x n u z b off h; cases o<;>simp [j9] at h
 | _=>intro x n u z b off h; simp [j9] at h
theorem yq:∀ {t:Ty} {x:t.den} {n:Nat} {u:Ty} {z:u.den},j9 t x [.l8 n]=some ⟨u,z⟩->B8 t x [.l8 n]:=by
 intro t
 induction t with
 | pair a c _ ihc =>
  intro x n u z h
  match n,h with
  | 0,h=>cases a<;>trivial
  | n+1,h=>exact ihc (x:=x.2) h
 | d8 o t _=>intro x n u z h; cases o<;>simp [j9] at h
 | _=>intro x n u z h; simp [j9] at h
theorem Ys {P:Program} {k:Nat}:∀ {t:Ty} {x:t.den} {n:Nat} {u:Ty} {z:u.den} {fs:List Field} {o:Nat},n7 (p9 P k) fs o t=true->j9 t x [.l8 n]=some ⟨u,z⟩ ->
  ∃ f,fs[n]?=some f/\f.offset=o+S7 t n/\1<=u.size/\p9 P k f.type u=true:=by
 intro t
 induction t with
 | pair a c _ ihc =>
  intro x n u z fs o h hg;cases fs with
  | nil=>simp [n7] at h
  | cons f fs =>
   simp only [n7,Bool.and_eq_true] at h;obtain ⟨⟨⟨⟨h1,h2⟩,h3⟩,_⟩,h4⟩:=h
   match n,hg with
   | 0,hg =>
    have hg:some (⟨a,x.1⟩:Sigma Ty.den)=some ⟨u,z⟩:=by
     rw [<- hg]; simp only [j9]
    cases hg;exact ⟨f,rfl,Nat.eq_of_beq_eq_true h1,Nat.le_of_ble_eq_true h2,h3⟩
   | n+1,hg =>
    obtain ⟨g,e1,e2,e3,e4⟩:=ihc (x:=x.2) h4 hg;exact ⟨g,by simpa using e1,by rw [e2]; simp only [S7]; omega,e3,e4⟩
 | d8 o t _=>intro x n u z fs o' h hg; cases o<;>simp [j9] at hg
 | _=>intro x n u z fs o h hg; simp [j9] at hg
theorem Lc {P:Program} {k:Nat} {T:TypeId} {t:Ty} {x:t.den} {n:Nat} {u:Ty} {z:u.den} (h:p9 P k T t=true) (hg:j9 t x [.l8 n]=some ⟨u,z⟩) :
  ∃ fs f k',P.underlying T=some (.struct fs)/\fs[n]?=some f/\f.offset=S7 t n/\1<=u.size/\p9 P k' f.type u=true:=by
 cases k with
 | zero=>simp [p9] at h
 | succ k =>
  obtain ⟨d,h1,h2⟩:=R6 h;simp only [p9,Bool.and_eq_true,h1] at h;obtain ⟨_,h⟩:=h;cases t with
  | pair a c =>
   cases d<;>first|(exact (Bool.false_ne_true h).elim)|skip
   rename_i fs;have h:n7 (p9 P k) fs.toList 0 (.pair a c)=true:=h;obtain ⟨f,e1,e2,e3,e4⟩:=Ys h hg;exact ⟨fs,f,k,h1,by simpa using e1,by simpa using e2,e3,e4⟩
  | d8 o t=>cases o<;>simp [j9] at hg
  | _=>simp [j9] at hg
theorem AM {P:Program} {k:Nat} {T:TypeId} {t:Ty} {x:t.den} {n:Nat} {u:Ty} {z:u.den} (h:p9 P k T t=true) (hg:j9 t x [.l8 n]=some ⟨u,z⟩) (b off:Nat) :
  (Instr.fieldAt T (.pointer (some ⟨b,off,none⟩)) n).run P w=.ok (.pointer (some ⟨b,off+S7 t n,none⟩)) w:=by
 obtain ⟨fs,f,k',h1,h2,h3,h4,h5⟩:=Lc h hg;have:¬ u.size=0:=by omega
 simp [Instr.fieldAt,w8 h1,h2,Instr.sureAddr,fieldPlace,run_sizeOf h5,this,h3,Addr.I2]
theorem xT {P:Program} {k:Nat} {T:TypeId} {m:Nat} {t:Ty} (h:p9 P k T (.arr m t)=true):∃ e k',P.underlying T=some (.array m e)/\1<=t.size/\p9 P k' e t=true:=by
 cases k with
 | zero=>simp [p9] at h
 | succ k =>
  obtain ⟨d,h1,h2⟩:=R6 h;simp only [p9,Bool.and_eq_true,h1] at h;obtain ⟨_,h⟩:=h;cases d<;>first|(exact (Bool.false_ne_true h).elim)|skip
  ·simp only [Bool.and_eq_true] at h
   rw [Nat.eq_of_beq_eq_true h.1.1] at h1;exact ⟨_,k,h1,Nat.le_of_ble_eq_true h.1.2,h.2⟩
  ·rename_i fs
   have h:n7 (p9 P k) fs.toList 0 (.arr m t)=true:=h;cases hf:fs.toList<;>(rw [hf] at h; simp [n7] at h)
theorem H2 {P:Program} {k:Nat} {T:TypeId} {o:Bool} {t:Ty} (h:p9 P k T (.d8 o t)=true):∃ e k',P.underlying T=some (.slice e)/\1<=t.size/\p9 P k' e t=true:=by
 cases k with
 | zero=>simp [p9] at h
 | succ k =>
  obtain ⟨d,h1,h2⟩:=R6 h;simp only [p9,Bool.and_eq_true,h1] at h;obtain ⟨_,h⟩:=h;cases d<;>first|(exact (Bool.false_ne_true h).elim)|skip
  ·simp only [Bool.and_eq_true] at h
   exact ⟨_,k,h1,Nat.le_of_ble_eq_true h.1,h.2⟩
  ·rename_i fs
   have h:n7 (p9 P k) fs.toList 0 (.d8 o t)=true:=h;cases hf:fs.toList<;>(rw [hf] at h; simp [n7] at h)
theorem Y2 {P:Program} {k:Nat} {T:TypeId} (h:p9 P k T .str=true):P.underlying T=some .string:=by
 cases k with
 | zero=>simp [p9] at h
 | succ k =>
  obtain ⟨d,h1,h2⟩:=R6 h;simp only [p9,Bool.and_eq_true,h1] at h;obtain ⟨_,h⟩:=h;cases d<;>first|exact h1|(exact (Bool.false_ne_true h).elim)|skip
  ·rename_i fs
   have h:n7 (p9 P k) fs.toList 0 .str=true:=h;cases hf:fs.toList<;>(rw [hf] at h; simp [n7] at h)
theorem Ox {P:Program} {k f:Nat} {T:TypeId} (h:p9 P k T (.fn f)=true):∃ a b c,P.underlying T=some (.func a b c):=by
 cases k with
 | zero=>simp [p9] at h
 | succ k =>
  obtain ⟨d,h1,h2⟩:=R6 h;simp only [p9,Bool.and_eq_true,h1] at h;obtain ⟨_,h⟩:=h;cases d<;>first|exact ⟨_,_,_,h1⟩|(exact (Bool.false_ne_true h).elim)|skip
  ·rename_i fs
   have h:n7 (p9 P k) fs.toList 0 (.fn f)=true:=h;cases hf:fs.toList<;>(rw [hf] at h; simp [n7] at h)
theorem Jw {P:Program} {k:Nat} {T:TypeId} {o:Bool} {a b:Ty} (h:p9 P k T (.map o a b)=true):∃ K V k',P.underlying T=some (.map K V)/\a.shared=true/\b.shared=true/\p9 P k' K a=true/\p9 P k' V b=true:=by
 cases k with
 | zero=>simp [p9] at h
 | succ k =>
  obtain ⟨d,h1,h2⟩:=R6 h;simp only [p9,Bool.and_eq_true,h1] at h;obtain ⟨_,h⟩:=h;cases d<;>first|(exact (Bool.false_ne_true h).elim)|skip
  ·simp only [Bool.and_eq_true] at h
   exact ⟨_,_,k,h1,h.1.1.1,h.1.1.2,h.1.2,h.2⟩
  ·rename_i fs
   have h:n7 (p9 P k) fs.toList 0 (.map o a b)=true:=h;cases hf:fs.toList<;>(rw [hf] at h; simp [n7] at h)
theorem Jv {P:Program} {k:Nat} {T:TypeId} {o:Bool} {a:Ty} (h:p9 P k T (.box o none a)=true):∃ e k',P.underlying T=some (.pointer e)/\p9 P k' e a=true:=by
 cases k with
 | zero=>simp [p9] at h
 | succ k =>
  obtain ⟨d,h1,h2⟩:=R6 h;simp only [p9,Bool.and_eq_true,h1] at h;obtain ⟨_,h⟩:=h;cases d<;>first|(exact (Bool.false_ne_true h).elim)|skip
  ·exact ⟨_,k,h1,h⟩
  ·rename_i fs
   have h:n7 (p9 P k) fs.toList 0 (.box o none a)=true:=h;cases hf:fs.toList<;>(rw [hf] at h; simp [n7] at h)
theorem QY {P:Program} {k:Nat} {T:TypeId} {o:Bool} {g:Nat} {a:Ty} (h:p9 P k T (.box o (some g) a)=true):∃ p q v,P.underlying T=some (.func p q v):=by
 cases k with
 | zero=>simp [p9] at h
 | succ k =>
  obtain ⟨d,h1,h2⟩:=R6 h;simp only [p9,Bool.and_eq_true,h1] at h;obtain ⟨_,h⟩:=h;cases d<;>first|(exact (Bool.false_ne_true h).elim)|skip
  ·rename_i fs
   have h:n7 (p9 P k) fs.toList 0 (.box o (some g) a)=true:=h;cases hf:fs.toList<;>(rw [hf] at h; simp [n7] at h)
  ·exact ⟨_,_,_,h1⟩
theorem yD {P:Program} {k:Nat} {T:TypeId} {kd:IntKind} (h:p9 P k T (.int kd)=true):P.underlying T=some (.int kd):=by
 cases k with
 | zero=>simp [p9] at h
 | succ k =>
  obtain ⟨d,h1,h2⟩:=R6 h;simp only [p9,Bool.and_eq_true,h1] at h;obtain ⟨_,h⟩:=h;cases d<;>first|(exact (Bool.false_ne_true h).elim)|skip
  ·rw [of_decide_eq_true h] at h1; exact h1
  ·rename_i fs
   have h:n7 (p9 P k) fs.toList 0 (.int kd)=true:=h;cases hf:fs.toList<;>(rw [hf] at h; simp [n7] at h)
theorem FH {P:Program} {k:Nat} {T:TypeId} {m:Nat} {t:Ty} (h:p9 P k T (.arr m t)=true) (b off:Nat) {kd:IntKind} {n:Int} (hn:0<=n/\n<m) :
  (Instr.indexAt T (.pointer (some ⟨b,off,none⟩)) (.int kd n)).run P w=.ok (.pointer (some ⟨b,off+n.toNat*t.size,none⟩)) w:=by
 obtain ⟨e,k',h1,h2,h3⟩:=xT h;simp [Instr.indexAt,asIntOf,w8 h1,Instr.sureAddr,hn,run_sizeOf h3,Addr.I2]
theorem V9 {P:Program} {k:Nat} {T:TypeId} {o:Bool} {t:Ty} (h:p9 P k T (.d8 o t)=true) (b off len cap:Nat) {kd:IntKind} {n:Int} (hn:0<=n/\n<len) :
  (Instr.indexAt T (.slice (some ⟨b,off,none⟩) len cap) (.int kd n)).run P w=.ok (.pointer (some ⟨b,off+n.toNat*t.size,none⟩)) w:=by
 obtain ⟨e,k',h1,h2,h3⟩:=H2 h;simp [Instr.indexAt,asIntOf,w8 h1,hn,run_sizeOf h3,Addr.I2]
end
end Go.Ex
namespace Go.Ex
section
variable {E:Env} {B:F3} {S:Nat->Prop} {ι:Ix} {s:St} {a:Act} {w:World} {hp:List (Nat×i7)} {H H':Array Go.Obj}
theorem Ej {α:Type} {n:Int} (h:0<=n/\n<(([]:List α).length:Int)):False:=by
 simp at h; omega
theorem D0 {x:Operand} (h:RS B S ι s a w) {v:AV} (e:s.ev x=v):VX w.heap S ι s.hp v [a.eval x]:=e▸h.ev x
theorem J3 {P:Program} {o:Oper} {sem:Sem Value} (he:execOp a.eval o=(do pure (.value (<- sem)))) (h:RS B S ι s a w) {v:AV} {val:Value} (hr:sem.run P w=.ok val w)
  (hv:VX w.heap S ι s.hp v [val]):C4 P B o a w v s:=C4.value (P0 he hr) h hv
theorem wN {i:Nat} {e e':i7} (h1:look i s.hp=some e) (h:s.obj i=some e'):e'=e:=by
 rw [St.obj,h1] at h; cases h; rfl
theorem H4 (h:HS B S ι hp w) {i:Nat} {e:i7} (hi:look i hp=some e) {p:List Step} (aK:B8 e.ty e.x p) {u:Ty} {y:u.den} (hg:j9 e.ty e.x p=some ⟨u,y⟩) {cs:List Value} (hc:Cells w.heap ι i e p u cs) :
  ∃ O2,(∀ c∈O2,c∈ι.own i)/\O2.Nodup/\i6 w.heap S u O2 cs y:=by
 obtain ⟨b,off,O2,k1,k2,k3,k4,_⟩:=(h.ob i e hi).part (CA hc) h.slt aK hg;obtain ⟨b',ar,h1,rfl⟩:=hc;rw [k1] at h1; cases h1;exact ⟨O2,k2,k3,k4⟩
theorem J1 {i:Nat} {e:i7} {c:Nat} (h:c∈ι.own i):c∈l7 ι i e:=by cases e<;>simp [l7,h]
theorem j6.take {α:Type} {R:List Nat->List Value->α->Prop} {sz:Nat}:∀ {l:List α} {O:List Nat} {cs:List Value} (k:Nat),j6 R sz O cs l->∃ O1 O2,O=O1++O2/\j6 R sz O1 (cs.take (k*sz)) (l.take k)/\j6 R sz O2 (cs.drop (k*sz)) (l.drop k)
 | l,O,cs,0,h=>⟨[],O,rfl,by simp [j6],by simpa using h⟩
 | [],O,cs,k+1,⟨h1,h2⟩=>⟨[],[],by simp [h1],by simp [j6,h2],by simp [j6,h2]⟩
 | x::l,O,cs,k+1,⟨O1,O2,e,h1,h2⟩=>by
  obtain ⟨P1,P2,e',g1,g2⟩:=j6.take k h2;refine ⟨O1++P1,P2,by rw [e,e',List.append_assoc],⟨O1,P1,rfl,?_,?_⟩,?_⟩
  ·rw [List.take_take,Nat.min_eq_left (by rw [Nat.succ_mul]; omega)]; exact h1
  ·rw [List.drop_take,show (k+1)*sz - sz=k*sz from by rw [Nat.succ_mul]; omega]; exact g1
  ·rw [List.drop_drop,show sz+k*sz=(k+1)*sz from by rw [Nat.succ_mul]; omega] at g2
   exact g2
theorem j6.cut {α:Type} {R:List Nat->List Value->α->Prop} {sz:Nat} {l:List α} {O:List Nat} {cs:List Value} (a n:Nat) (h:j6 R sz O cs l):∃ O1 O2 O3,O=O1++(O2++O3)/\j6 R sz O2 ((cs.drop (a*sz)).take (n*sz)) ((l.drop a).take n):=by
 obtain ⟨O1,O2,e,_,h2⟩:=h.take a;obtain ⟨P1,P2,e',g1,_⟩:=h2.take n;exact ⟨O1,P1,P2,by rw [e,e'],g1⟩
theorem zC {α:Type} {lo hi:Int} {l:List α} (h0:0<=lo) (h2:hi<=(l.length:Int)):(o5 lo hi l).length=(hi - lo).toNat:=by
 simp only [o5,List.length_take,List.length_drop];omega
def LB (S:Nat->Prop) (ι:Ix) (hp:List (Nat×i7)) (b:Nat):Prop:=S b\/∃ i e,look i hp=some e/\b∈l7 ι i e
def Gr (H:Array Go.Obj) (S:Nat->Prop) (t:Ty) (l:List t.den) (A:Option Addr) (L:Nat->Prop):Prop :=
 l=[]\/∃ b off O,A=some ⟨b,off,none⟩/\L b/\off+l.length*t.size<=(x8 H b).length/\j6 (i6 H S t) t.size O (e8 H b off (l.length*t.size)) l/\∀ c∈O,L c
theorem Et (h:HS B S ι s.hp w) {i:Nat} {p:List Step} {lo hi:Int} {v:Value} (hv:VX w.heap S ι s.hp (.sub i p lo hi) [v]) {t:Ty} {l:List t.den} (hw:s.view i p lo hi=some ⟨t,l⟩) :
  ∃ A c,v=.slice A l.length c/\Gr w.heap S t l A (LB S ι s.hp)/\(l.length:Int)=hi - lo/\0<=lo/\lo<=hi/\∃ e,look i s.hp=some e/\B8 e.ty e.x p /\
   (l≠[]->∃ b off,A=some ⟨b,off,none⟩/\∀ n:Int,0<=n->n<l.length->∃ off2,Loc w.heap ι i e (p++[.idx (lo+n)])=some (b,off2)/\off2=off+n.toNat*t.size/\B8 e.ty e.x (p++[.idx (lo+n)])):=by
 obtain ⟨e,v',h1,h2,h3,h4,h5,h6⟩:=hv;cases h3;have aX:=h.ob i e h1;unfold St.view at hw;rcases h6 with ⟨t',l',a,cap,k1,k2,k3,c,A,k4,kA,k5,k6⟩|⟨n,t',l',b,off,k1,⟨k2,k2'⟩,k3,c,A,k4,kA,k5,k6⟩
 ·have hp:s.part i p=some ⟨.d8 true t',l'⟩:=by unfold St.part St.obj; rw [h1]; exact k1
  rw [hp] at hw;simp only [Option.some.injEq,Sigma.mk.injEq] at hw;obtain ⟨rfl,hw⟩:=hw;have hw:=eq_of_heq hw;subst hw;have hlen:(o5 lo hi l').length=(hi - lo).toNat:=zC h4 k2;refine ⟨_,c,by rw [hlen]; exact k4,?_,by omega,h4,h5,e,h1,h2,?_⟩
  ·by_cases hz:o5 lo hi l'=[]
   ·exact .inl hz
   ·obtain ⟨O2,m1,m2,m3⟩:=H4 h h1 h2 k1 k3
    rcases m3 with ⟨_,_,hn⟩|⟨b1,o1,gV,O',c1,c2,c3,c4,c5,rfl,c7⟩
    ·exfalso; apply hz; rw [hn]; simp [o5]
    ·simp only [List.cons.injEq,Value.slice.injEq,and_true] at c1
     obtain ⟨rfl,_,rfl⟩:=c1;have gF:0<(hi - lo).toNat:=by rw [<- hlen]; exact List.length_pos_iff.2 hz
     obtain ⟨P1,P2,P3,e1,g⟩:=c5.cut lo.toNat (hi - lo).toNat;have hle:lo.toNat*t'.size+(hi - lo).toNat*t'.size<=List.length l'*t'.size:=by rw [<- Nat.add_mul]; exact Nat.mul_le_mul_right _ (by omega)
     rw [o6,n8 _ _ _ _ (by omega)] at g;refine .inr ⟨b1,o1+lo.toNat*t'.size,P2,?_,.inr ⟨i,e,h1,J1 (m1 b1 (by simp))⟩,?_,by rw [hlen]; exact g,λ c hc=>.inr ⟨i,e,h1,J1 (m1 c (by rw [e1]; simp [hc]))⟩⟩
     ·rw [kA (by omega),Option.map_some,Addr.I2]
     ·rw [hlen]; omega
  ·intro hz
   obtain ⟨O2,m1,m2,m3⟩:=H4 h h1 h2 k1 k3;rcases m3 with ⟨_,_,hn⟩|⟨b1,o1,gV,O',c1,c2,c3,c4,c5,rfl,c7⟩
   ·exfalso; apply hz; rw [hn]; simp [o5]
   ·simp only [List.cons.injEq,Value.slice.injEq,and_true] at c1
    obtain ⟨rfl,_,rfl⟩:=c1;have gF:0<(hi - lo).toNat:=by rw [<- hlen]; exact List.length_pos_iff.2 hz
    refine ⟨b1,o1+lo.toNat*t'.size,by rw [kA (by omega),Option.map_some,Addr.I2],λ n di hn=>?_⟩;obtain ⟨b0,off0,q1,q2⟩:=k3;have hh:=(R0 b0 off0 _).1 q2.symm;refine ⟨o1+(lo+n).toNat*t'.size,wi (AN k1 q1 ?_) c7.free.lt,by rw [show (lo+n).toNat=lo.toNat+n.toNat from by omega,Nat.add_mul]; omega,X8 k1 h2 ⟨⟨by omega,by omega⟩,O6⟩⟩;simp only [C2,hh,C3]
 ·have hp:s.part i p=some ⟨.arr n t',l'⟩:=by unfold St.part St.obj; rw [h1]; exact k1
  rw [hp] at hw;simp only [Option.some.injEq,Sigma.mk.injEq] at hw;obtain ⟨rfl,hw⟩:=hw;have hw:=eq_of_heq hw;subst hw;obtain ⟨O2,m1,m2,m3,m4,m5,m6⟩:=N5 (L8 k3) aX h.slt h2 k1 k3;obtain ⟨hl,m3⟩:=m3;have hlen:(o5 lo hi l').length=(hi - lo).toNat:=zC h4 (by rw [hl]; exact k2);refine ⟨_,c,by rw [hlen]; exact k4,?_,by omega,h4,h5,e,h1,h2,?_⟩
  ·by_cases hz:o5 lo hi l'=[]
   ·exact .inl hz
   ·have gF:0<(hi - lo).toNat:=by rw [<- hlen]; exact List.length_pos_iff.2 hz
    obtain ⟨P1,P2,P3,e1,g⟩:=m3.cut lo.toNat (hi - lo).toNat;have hle:lo.toNat*t'.size+(hi - lo).toNat*t'.size<=n*t'.size:=by rw [<- Nat.add_mul]; exact Nat.mul_le_mul_right _ (by omega)
    simp only [Ty.size] at g m4;rw [o6,n8 _ _ _ _ (by omega)] at g;refine .inr ⟨b,off+lo.toNat*t'.size,P2,?_,.inr ⟨i,e,h1,m5⟩,?_,by rw [hlen]; exact g,λ c hc=>.inr ⟨i,e,h1,J1 (m1 c (by rw [e1]; simp [hc]))⟩⟩
    ·rw [kA (by omega),Option.map_some,Addr.I2]
    ·rw [hlen]; omega
  ·intro hz
   have gF:0<(hi - lo).toNat:=by rw [<- hlen]; exact List.length_pos_iff.2 hz
   refine ⟨b,off+lo.toNat*t'.size,by rw [kA (by omega),Option.map_some,Addr.I2],λ m iw hm=>?_⟩;refine ⟨off+(lo+m).toNat*t'.size,CD k1 k3 (λ G=>by simp only [C2,C3]),by rw [show (lo+m).toNat=lo.toNat+m.toNat from by omega,Nat.add_mul]; omega,X8 k1 h2 ⟨⟨by omega,by omega⟩,O6⟩⟩
theorem OH {H:Array Go.Obj} {o:Bool} {t:Ty} {O:List Nat} {cs:List Value} {l:(Ty.d8 o t).den} (hR:i6 H S (.d8 o t) O cs l) {L:Nat->Prop} (hO:∀ c∈O,L c) (hS:∀ c,S c->L c) :
  ∃ A c,s5 (.d8 o t) cs=.slice A (List.length l) c/\Gr H S t l A L:=by
 rcases hR with ⟨_,⟨a,c,rfl,_⟩,hn⟩|⟨b1,o1,gV,O',rfl,c2,c3,c4,c5,c6⟩
 ·have:List.length l=0:=by rw [hn]; rfl
  exact ⟨a,c,by rw [this]; rfl,.inl hn⟩
 ·refine ⟨_,_,rfl,.inr ⟨b1,o1,O',rfl,?_,c4,c5,?_⟩⟩
  ·cases o with
   | true=>exact hO b1 (by rw [c6.1]; simp)
   | false=>exact hS b1 c6.2.2
  ·cases o with
   | true=>intro c hc; exact hO c (by rw [c6.1]; simp [hc])
   | false=>intro c hc; rw [c6.2.1] at hc; cases hc
theorem En (h:HS B S ι s.hp w) {v:AV} {val:Value} (hv:VX w.heap S ι s.hp v [val]) {t:Ty} {l:List t.den} (hw:v.els s=some ⟨t,l⟩):∃ A c,val=.slice A l.length c/\Gr w.heap S t l A (LB S ι s.hp):=by
 unfold AV.els at hw;split at hw
 ·rename_i o t' l'
  simp only [Option.some.injEq,Sigma.mk.injEq] at hw;obtain ⟨rfl,hw⟩:=hw;have hw:=eq_of_heq hw;subst hw;obtain ⟨cs,e,hR⟩:=hv;have e:val=s5 (.d8 o t') cs:=by simpa using e
  obtain ⟨A,c,k1,k2⟩:=OH hR (L:=LB S ι s.hp) (by simp) (λ c hc=>.inl hc);exact ⟨A,c,e.trans k1,k2⟩
 ·rename_i i p
  split at hw
  ·rename_i o t' l' hp
   simp only [Option.some.injEq,Sigma.mk.injEq] at hw;obtain ⟨rfl,hw⟩:=hw;have hw:=eq_of_heq hw;subst hw;obtain ⟨e,u,y,cs,h1,h2,h3,h4,h5⟩:=hv;have hg:=I5 h1 hp;rw [h3] at hg; cases hg;have h5:val=s5 (.d8 o t') cs:=by simpa using h5
   obtain ⟨O2,m1,m2,m3⟩:=H4 h h1 h2 h3 h4;obtain ⟨A,c,k1,k2⟩:=OH m3 (L:=LB S ι s.hp) (λ c hc=>.inr ⟨i,e,h1,J1 (m1 c hc)⟩) (λ c hc=>.inl hc);exact ⟨A,c,h5.trans k1,k2⟩
  ·cases hw
 ·obtain ⟨A,c,k1,k2,_⟩:=Et h hv hw
  exact ⟨A,c,k1,k2⟩
 ·cases hw
theorem Ev {t:Ty} {y:Option t.den} {val:Value} (hv:VX w.heap S ι s.hp (.val (.box false none t) y) [val]) (hy:y.isSome=true):VX w.heap S ι s.hp (.P8 t (y.getD t.s8)) [val]:=by
 obtain ⟨cs,e,hR⟩:=hv;rcases hR with ⟨rfl,_⟩|⟨z,b,off,O',rfl,rfl,h2,h3,_,rfl,h4⟩
 ·cases hy
 ·exact ⟨b,off,by simpa [s5,Ty.agg,wY] using e,h4,h2,h3⟩
theorem Jx {f:Nat} {t:Ty} {y:Option t.den} {val:Value} (hv:VX w.heap S ι s.hp (.val (.box false (some f) t) y) [val]) (hy:y.isSome=true):∃ p,val=.func (.func f) #[] #[p]/\VX w.heap S ι s.hp (.P8 t (y.getD t.s8)) [p]:=by
 obtain ⟨cs,e,hR⟩:=hv;rcases hR with ⟨rfl,_⟩|⟨z,b,off,O',rfl,rfl,h2,h3,_,rfl,h4⟩
 ·cases hy
 ·exact ⟨_,by simpa [s5,Ty.agg,wY] using e,b,off,rfl,h4,h2,h3⟩
theorem b1o (hE:D9 E B) (h:RS B S ι s a w) {o:Oper} {T:TypeId} {x:Operand} {n:Nat} (ho:o.op=.fieldAddr T x n):G1 E.P B o a w (n6 E o s):=by
 have he:execOp a.eval o=(do pure (.value (<- Instr.fieldAt T (a.eval x) n))):=by simp [execOp,ho]
 unfold n6;rw [ho];simp only
 split
 ·rename_i i p hx
  split
  ·rename_i u z cV
   split
   ·rename_i r hc gK
    obtain ⟨e,b,off,h1,h2,h3,h4⟩:=D0 h hx;have hg:=I5 h1 cV;have h4:a.eval x=.pointer (some ⟨b,off,none⟩):=by simpa using h4
    obtain ⟨u2,z2⟩:=r;exact J3 he h (by rw [h4]; exact AM (E1 hE hc) gK b off) ⟨e,b,off+S7 u n,h1,X8 hg h2 (yq gK),CD hg h3 (λ G=>yG gK),rfl⟩
   ·trivial
  ·trivial
 ·rename_i t y hx
  split
  ·rename_i u z hc hg
   obtain ⟨b,off,e,h1,h2,h3⟩:=D0 h hx;have e:a.eval x=.pointer (some ⟨b,off,none⟩):=by simpa using e
   have aK:=yq hg;obtain ⟨O1,O2,b',ar,e1,e2,e3,e4,e5,e6⟩:=focus h3 h2 aK hg
   have hO:O1=[]/\O2=[]:=by have:=e1.nil_eq; simpa using this.symm
   rw [yG hg] at e3; cases e3;refine J3 he h (by rw [e]; exact AM (E1 hE hc) hg b off) ⟨b,off+S7 t n,rfl,h1,e5,?_⟩;rw [hO.2] at e4; exact e4
  ·trivial
 ·rename_i t y hx
  split
  ·rename_i u z hc hg
   intro hy;obtain ⟨b,off,e,h1,h2,h3⟩:=Ev (D0 h hx) hy;have e:a.eval x=.pointer (some ⟨b,off,none⟩):=by simpa using e
   have aK:=yq hg;obtain ⟨O1,O2,b',ar,e1,e2,e3,e4,e5,e6⟩:=focus h3 h2 aK hg
   have hO:O1=[]/\O2=[]:=by have:=e1.nil_eq; simpa using this.symm
   rw [yG hg] at e3; cases e3;refine J3 he h (by rw [e]; exact AM (E1 hE hc) hg b off) ⟨b,off+S7 t n,rfl,h1,e5,?_⟩;rw [hO.2] at e4; exact e4
  ·trivial
 ·trivial
theorem b1h (hE:D9 E B) (h:RS B S ι s a w) {o:Oper} {T:TypeId} {x y:Operand} (ho:o.op=.indexAddr T x y):G1 E.P B o a w (n6 E o s):=by
 have he:execOp a.eval o=(do pure (.value (<- Instr.indexAt T (a.eval x) (a.eval y)))):=by simp [execOp,ho]
 unfold n6;rw [ho];simp only
 split
 ·rename_i d p k n hx hy
  split
  ·rename_i m u z cV
   split
   ·rename_i hc
    intro hn;obtain ⟨e,b,off,h1,h2,h3,h4⟩:=D0 h hx;have hg:=I5 h1 cV;have h4:a.eval x=.pointer (some ⟨b,off,none⟩):=by simpa using h4
    obtain ⟨dL,_⟩:=VX.I6 (D0 h hy);exact J3 he h (by rw [h4,dL]; exact FH (E1 hE hc) b off hn) ⟨e,b,off+n.toNat*u.size,h1,X8 hg h2 ⟨hn,O6⟩,CD hg h3 (λ G=>by simp only [C2,C3]),rfl⟩
   ·trivial
  ·trivial
 ·rename_i m t z k n hx hy
  split
  ·rename_i hc
   intro hn;obtain ⟨b,off,e,h1,h2,h3⟩:=D0 h hx;have e:a.eval x=.pointer (some ⟨b,off,none⟩):=by simpa using e
   obtain ⟨dL,_⟩:=VX.I6 (D0 h hy);have aK:B8 (.arr m t) z [.idx n]:=⟨hn,by cases t<;>trivial⟩;have hg:j9 (.arr m t) z [.idx n]=some ⟨t,List.getD z (Int.toNat n) t.s8⟩:=by simp only [j9]
   obtain ⟨O1,O2,b',ar,e1,e2,e3,e4,e5,e6⟩:=focus h3 h2 aK hg
   have hO:O1=[]/\O2=[]:=by have:=e1.nil_eq; simpa using this.symm
   have e3':C2 w.heap (.arr m t) [.idx n] b off=some (b,off+Int.toNat n*t.size):=by simp only [C2]
   rw [e3'] at e3; cases e3;refine J3 he h (by rw [e,dL]; exact FH (E1 hE hc) b off hn) ⟨b,off+Int.toNat n*t.size,rfl,h1,e5,?_⟩;rw [hO.2] at e4; exact e4
  ·trivial
 ·rename_i t z k n hx hy
  split
  ·rename_i hc
   intro hn;obtain ⟨cs,e,hR⟩:=D0 h hx;have e:a.eval x=s5 (.d8 false t) cs:=by simpa using e
   obtain ⟨dL,_⟩:=VX.I6 (D0 h hy);rcases hR with ⟨_,_,hz⟩|⟨b1,o1,cap,O',c1,c2,c3,c4,c5,c6,c7,c8⟩
   ·subst hz; exact (Ej hn).elim
   ·have gw:a.eval x=.slice (some ⟨b1,o1,none⟩) (List.length z) cap:=by rw [e,c1]; rfl
    obtain ⟨b1',b2,b3,b4⟩:=E7 (sz:=t.size) hn;obtain ⟨P1,P2,P3,e1,g1,g2,g3⟩:=j6.split (d:=t.s8) (i:=Int.toNat n) b1' c5;have hle:t.size<=List.length z*t.size - Int.toNat n*t.size:=by omega
    rw [o6,n8 _ _ _ _ hle] at g2;have hP:P2=[]:=by rw [c7] at e1; have:=List.append_eq_nil_iff.1 e1.symm; exact (List.append_eq_nil_iff.1 this.2).1
    refine J3 he h (by rw [gw,dL]; exact V9 (E1 hE hc) b1 o1 _ cap hn) ⟨b1,o1+Int.toNat n*t.size,rfl,c8,by omega,?_⟩;rw [hP] at g2; exact g2
  ·trivial
 ·rename_i d p k n hx hy
  split
  ·rename_i u z cV
   split
   ·rename_i hc
    intro hn;obtain ⟨e,u',y',cs,h1,h2,h3,h4,h5⟩:=D0 h hx;have hg:=I5 h1 cV;rw [h3] at hg; cases hg;obtain ⟨dL,_⟩:=VX.I6 (D0 h hy);have h5:a.eval x=s5 (.d8 true u) cs:=by simpa using h5
    obtain ⟨O2,m1,m2,m3⟩:=H4 h.hs h1 h2 h3 h4;rcases m3 with ⟨_,_,hz⟩|⟨b1,o1,cap,O',rfl,c2,c3,c4,c5,c6,c7⟩
    ·subst hz; exact (Ej hn).elim
    ·have gw:a.eval x=.slice (some ⟨b1,o1,none⟩) (List.length z) cap:=h5
     obtain ⟨b0,off0,q1,q2⟩:=h4;have hh:=(R0 b0 off0 _).1 q2.symm;refine J3 he h (by rw [gw,dL]; exact V9 (E1 hE hc) b1 o1 _ cap hn) ⟨e,b1,o1+n.toNat*u.size,h1,X8 h3 h2 ⟨hn,O6⟩,wi (AN h3 q1 ?_) c7.free.lt,rfl⟩;simp only [C2,hh,C3]
   ·trivial
  ·trivial
 ·rename_i d p lo hi k n hx hy
  split
  ·rename_i u l ed
   split
   ·rename_i hc
    intro hn;have fq:@LE.le Int Int.instLEInt 0 n:=hn.1;have mb:@LT.lt Int Int.instLTInt n (hi - lo):=hn.2;obtain ⟨A,c,k1,k2,k3,k4,k5,e,k6,k7,k8⟩:=Et h.hs (D0 h hx) ed;obtain ⟨dL,_⟩:=VX.I6 (D0 h hy);have hz:l≠[]:=by rintro rfl; have k3:((0:Nat):Int)=hi - lo:=k3; omega
    obtain ⟨b,off,rfl,k9⟩:=k8 hz;obtain ⟨off2,q1,rfl,q3⟩:=k9 n hn.1 (by omega);exact J3 he h (by rw [k1,dL]; exact V9 (E1 hE hc) b off _ c (by omega)) ⟨e,b,_,k6,q3,q1,rfl⟩
   ·trivial
  ·trivial
 ·trivial
theorem VU:∀ {t:Ty} {x:t.den} {n:Nat} {u:Ty} {z:u.den} {cs:List Value},i6 H S t [] cs x->j9 t x [.l8 n]=some ⟨u,z⟩->i6 H S u [] ((cs.drop (S7 t n)).take u.size) z/\t.agg=true:=by
 intro t
 induction t with
 | pair a c _ ihc =>
  intro x n u z cs hR h;obtain ⟨O1,O2,e,h1,h2⟩:=hR;have e1:O1=[]/\O2=[]:=by simpa using e.symm
  rw [e1.1] at h1; rw [e1.2] at h2;refine ⟨?_,rfl⟩
  match n,h with
  | 0,h =>
   have h:some (⟨a,x.1⟩:Sigma Ty.den)=some ⟨u,z⟩:=by rw [<- h]; simp only [j9]
   cases h;simpa [S7] using h1
  | n+1,h =>
   have:=(ihc (x:=x.2) h2 h).1;simpa [S7,List.drop_drop,Nat.add_comm] using this
 | d8 o t _=>intro x n u z cs _ h; cases o<;>simp [j9] at h
 | _=>intro x n u z cs _ h; simp [j9] at h
theorem Yh:∀ {t:Ty} {x:t.den} {n:Nat} {u:Ty} {z:u.den} {O:List Nat} {cs:List Value},i6 H S t O cs x->j9 t x [.l8 n]=some ⟨u,z⟩->∃ O2,(∀ c∈O2,c∈O)/\i6 H S u O2 ((cs.drop (S7 t n)).take u.size) z/\t.agg=true:=by
 intro t
 induction t with
 | pair a c _ ihc =>
  intro x n u z O cs hR h;obtain ⟨O1,O2,rfl,h1,h2⟩:=hR
  match n,h with
  | 0,h =>
   have h:some (⟨a,x.1⟩:Sigma Ty.den)=some ⟨u,z⟩:=by rw [<- h]; simp only [j9]
   cases h;exact ⟨O1,λ c hc=>by simp [hc],by simpa [S7] using h1,rfl⟩
  | n+1,h =>
   obtain ⟨O3,k1,k2,_⟩:=ihc (x:=x.2) h2 h;exact ⟨O3,λ c hc=>by simp [k1 c hc],by simpa [S7,List.drop_drop,Nat.add_comm] using k2,rfl⟩
 | d8 o t _=>intro x n u z O cs _ h; cases o<;>simp [j9] at h
 | _=>intro x n u z O cs _ h; simp [j9] at h
theorem Wv:∀ {t:Ty} {x:t.den} {n:Nat} {u:Ty} {z:u.den},j9 t x [.l8 n]=some ⟨u,z⟩->S7 t n+u.size<=t.size:=by
 intro t
 induction t with
 | pair a c _ ihc =>
  intro x n u z h
  match n,h with
  | 0,h =>
   have h:some (⟨a,x.1⟩:Sigma Ty.den)=some ⟨u,z⟩:=by rw [<- h]; simp only [j9]
   cases h;simp [S7,Ty.size]
  | n+1,h =>
   have:=ihc (x:=x.2) h;simp only [S7,Ty.size]; omega
 | d8 o t _=>intro x n u z h; cases o<;>simp [j9] at h
 | _=>intro x n u z h; simp [j9] at h
theorem SS:∀ {t:Ty} {x:t.den} {p q:List Step} {u:Ty} {y:u.den} {r:Sigma Ty.den},j9 t x p=some ⟨u,y⟩->j9 u y q=some r->j9 t x (p++q)=some r:=by
 intro t
 induction t with
 | pair a c iha ihc =>
  intro x p q u y r h1 h2
  match p,h1 with
  | [],h1=>simp only [j9,Option.some.injEq] at h1; cases h1; exact h2
  | .l8 0::p,h1=>exact iha h1 h2
  | .l8 (n+1)::p,h1=>exact ihc (p:=.l8 n::p) h1 h2
  | .idx i::p,h1=>simp [j9] at h1
 | arr n t ih =>
  intro x p q u y r h1 h2
  match p,h1 with
  | [],h1=>simp only [j9,Option.some.injEq] at h1; cases h1; exact h2
  | .idx i::p,h1=>exact ih h1 h2
  | .l8 i::p,h1=>simp [j9] at h1
 | d8 o t ih =>
  intro x p q u y r h1 h2
  match p,h1 with
  | [],h1=>rw [C9] at h1; cases h1; exact h2
  | .idx i::p,h1=>cases o with
   | true=>exact ih h1 h2
   | false=>simp [j9] at h1
  | .l8 i::p,h1=>cases o<;>simp [j9] at h1
 | _ =>
  intro x p q u y r h1 h2
  match p,h1 with
  | [],h1=>simp only [j9,Option.some.injEq] at h1; cases h1; exact h2
  | .idx i::p,h1=>simp [j9] at h1
  | .l8 i::p,h1=>simp [j9] at h1
theorem yC {P:Program} {k:Nat} {T:TypeId} {u:Ty} {cs:List Value} {off:Nat} {z:u.den} {O:List Nat} (h:p9 P k T u=true) (hR:i6 H S u O ((cs.drop off).take u.size) z) :
  (part T cs.toArray off).run P w=.ok (s5 u ((cs.drop off).take u.size)) w:=by
 have hl:=hR.length;simp only [part,Sem.run_bind,Kn h,Result.andThen];cases hg:u.agg with
 | true =>
  simp only [if_true,Sem.run_bind,run_sizeOf h,Result.andThen];simp [s5,hg]
 | false =>
  have h1:u.size=1:=by cases u<;>simp_all [Ty.agg,Ty.size]
  rw [h1] at hl ⊢
  match hc:(cs.drop off).take 1,hl with
  | [c],_ =>
   have:cs[off]?=some c:=by
    have:((cs.drop off).take 1)[0]?=some c:=by rw [hc]; rfl
    simpa using this
   simp [this,s5,hg]
theorem c0d (h:RS B S ι s a w) {o:Oper} {op:UnOp} {T:TypeId} {x:Operand} {P:Program} (ho:o.op=.unOp op T x):G1 P B o a w (unA op (s.ev x) s):=by
 have he:execOp a.eval o=(do pure (.value (<- Op.unary op (a.eval x)))):=by simp [execOp,ho]
 unfold unA
 split
 ·rename_i b hx
  have:=VX.Aw (D0 h hx);exact J3 he h (by rw [this]; rfl) VX.bool
 ·rename_i k n hx
  obtain ⟨hv,_⟩:=VX.I6 (D0 h hx);exact a24 (by rw [P0 he (w':=w) (val:=.int k (k.wrap (0 - n)))]; rw [hv]; rfl) h
 ·rename_i k n hx
  obtain ⟨hv,_⟩:=VX.I6 (D0 h hx);refine J3 he h (val:=.int k (vG k (if k.signed then -1 else k.max) n)) (by rw [hv]; rfl) (VX.int (U6 _ _))
 ·trivial
theorem b8d (hE:D9 E B) (h:RS B S ι s a w) {o:Oper} {T:TypeId} {x:Operand} {n:Nat} (ho:o.op=.field T x n):G1 E.P B o a w (n6 E o s):=by
 have he:execOp a.eval o=(do pure (.value (<- Instr.field T (a.eval x) n))):=by simp [execOp,ho]
 unfold n6;rw [ho];simp only
 split
 ·rename_i t y hx
  split
  ·rename_i u z hc hg
   obtain ⟨cs,e,hR⟩:=D0 h hx;have e:a.eval x=s5 t cs:=by simpa using e
   obtain ⟨fs,f,k',h1,h2,h3,h4,h5⟩:=Lc (E1 hE hc) hg;obtain ⟨fF,dy⟩:=VU hR hg;have:a.eval x=.agg cs.toArray:=by rw [e,s5,dy]; rfl
   refine J3 he h (val:=s5 u ((cs.drop (S7 t n)).take u.size)) ?_ ⟨_,rfl,fF⟩;rw [this];have:=yC (w:=w) h5 fF;simp [Instr.field,w8 h1,h2,asAgg,h3,this]
  ·trivial
 ·rename_i i p hx
  split
  ·rename_i t y cV
   split
   ·rename_i u z hc hg
    obtain ⟨e,t',y',cs,h1,h2,h3,h4,h5⟩:=D0 h hx;have cC:=I5 h1 cV;rw [h3] at cC; cases cC;have h5:a.eval x=s5 t cs:=by simpa using h5
    obtain ⟨fs,f,k',q1,q2,q3,q4,q5⟩:=Lc (E1 hE hc) hg;obtain ⟨O2,m1,m2,m3⟩:=H4 h.hs h1 h2 h3 h4;obtain ⟨O3,m4,fF,dy⟩:=Yh m3 hg;have gw:a.eval x=.agg cs.toArray:=by rw [h5,s5,dy]; rfl
    have aU:=yC (w:=w) q5 fF;have hr:(Instr.field T (a.eval x) n).run E.P w=.ok (s5 u ((cs.drop (S7 t n)).take u.size)) w:=by
     rw [gw];simp [Instr.field,w8 q1,q2,asAgg,q3,aU]
    split
    ·rename_i hs
     have:=fF.O7 hs;subst this;exact J3 he h hr ⟨_,rfl,fF⟩
    ·refine J3 he h hr ⟨e,u,z,_,h1,X8 h3 h2 (yq hg),SS h3 hg,?_,rfl⟩
     obtain ⟨b0,off0,g1,rfl⟩:=h4;refine ⟨b0,off0+S7 t n,AN h3 g1 (yG hg),?_⟩;have:=m3.length;have hle:=Wv hg;rw [o6,n8 _ _ _ _ (by omega)]
   ·trivial
  ·trivial
 ·trivial
end
end Go.Ex
namespace Go.Ex
section
variable {E:Env} {B:F3} {S S':Nat->Prop} {ι:Ix} {s:St} {a:Act} {w:World} {hp:List (Nat×i7)} {H H':Array Go.Obj}
theorem Ty.zX (t:Ty):t.sh.sh=t.sh:=by
 induction t with
 | pair a b iha ihb=>simp only [Ty.sh,iha,ihb]
 | arr n t ih=>simp only [Ty.sh,ih]
 | d8 o t ih=>simp only [Ty.sh,ih]
 | hole t ih=>simp only [Ty.sh,ih]
 | C6 t ih=>simp only [Ty.sh,ih]
 | box o g t ih=>simp only [Ty.sh,ih]
 | _=>rfl
theorem RH {A A' C C':Type} (ha:A=A') (hc:C=C') (h:(A×C)=(A'×C')) (x:A×C):cast h x=(cast ha x.1,cast hc x.2):=by subst ha; subst hc; rfl
theorem zr {A A':Type} (ha:A=A') (h:List A=List A') (l:List A):cast h l=l.map (cast ha):=by
 subst ha;show l=List.map (λ x=>x) l;simp
theorem Xg {A A':Type} (ha:A=A') (h:Option A=Option A') (x:Option A):cast h x=x.map (cast ha):=by
 subst ha;show x=Option.map (λ x=>x) x;simp
theorem j6.map {α β:Type} {R:List Nat->List Value->α->Prop} {R':List Nat->List Value->β->Prop} {sz:Nat} {f:α->β} {L:List Nat} (hr:∀ O cs x,(∀ b∈O,b∈L)->R O cs x->R' [] cs (f x)) :
  ∀ {l:List α} {O:List Nat} {cs:List Value},(∀ b∈O,b∈L)->j6 R sz O cs l->j6 R' sz [] cs (l.map f)
 | [],_,_,_,⟨_,h⟩=>⟨rfl,h⟩
 | _::_,_,_,hO,⟨O1,O2,e,h1,h2⟩=>by
  subst e;exact ⟨[],[],rfl,hr _ _ _ (λ b hb=>hO b (by simp [hb])) h1,j6.map hr (λ b hb=>hO b (by simp [hb])) h2⟩
theorem i6.vJ:∀ {u:Ty} {O:List Nat} {cs:List Value} {y:u.den},i6 H S u O cs y->(∀ b∈O,S' b)->(∀ b,S b->S' b)->u.W0=true->i6 H S' u.sh [] cs (cast (F7 u).symm y):=by
 intro u
 induction u with
 | int k=>intro O cs y h _ _ _; exact ⟨rfl,h.2⟩
 | bool=>intro O cs y h _ _ _; exact ⟨rfl,h.2⟩
 | str=>intro O cs y h _ _ _; exact ⟨rfl,h.2⟩
 | unit=>intro O cs y h _ _ _; exact ⟨rfl,h.2⟩
 | fn f=>intro O cs y h _ _ _; exact ⟨rfl,h.2⟩
 | map o k v =>
  rintro O cs y h hO hS hn;show i6 H S' (.map false k v) [] cs y;rcases h with h|⟨l,b,es,ck,h0,h2,h3,h4,h5⟩
  ·exact .inl ⟨h.1,rfl,h.2.2⟩
  have hb:S' b:=by
   cases o with
   | true=>exact hO b (by rw [h5]; simp)
   | false=>exact hS b h5.2
  exact .inr ⟨l,b,es,ck,h0,h2,h3,h4.mono (λ _ _ h=>h.w6 (λ _ _=>rfl) hS) (λ _ _ h=>h.w6 (λ _ _=>rfl) hS),rfl,hb⟩
 | box o g t ih =>
  rintro O cs y h hO hS hn;have e:=Xg (F7 t).symm (F7 (.box o g t)).symm y;refine Eq.subst (motive:=λ z=>i6 H S' (.box false g t.sh) [] cs z) e.symm ?_;rcases h with ⟨rfl,_,h⟩|⟨z,b,off,O',rfl,h1,h2,h3,h4⟩
  ·exact .inl ⟨rfl,rfl,h⟩
  have hb:S' b:=by
   cases o with
   | true=>exact hO b (by rw [h4.1]; simp)
   | false=>exact hS b h4.2.2
  have gU:∀ c∈O',S' c:=by
   intro c hc;cases o with
   | true=>exact hO c (by rw [h4.1]; simp [hc])
   | false=>rw [h4.2.1] at hc; cases hc
  exact .inr ⟨_,b,off,[],rfl,h1,by rw [R8]; exact h2,by rw [R8]; exact ih h3 gU hS hn,rfl,rfl,hb⟩
 | pair a c iha ihc =>
  rintro O cs y ⟨O1,O2,rfl,h1,h2⟩ hO hS hn;simp only [Ty.W0,Bool.and_eq_true] at hn;have e:=RH (F7 a).symm (F7 c).symm (F7 (.pair a c)).symm y;refine Eq.subst (motive:=λ z=>i6 H S' (.pair a.sh c.sh) [] cs z) e.symm ?_;exact ⟨[],[],rfl,by rw [R8]; exact iha h1 (λ b hb=>hO b (by simp [hb])) hS hn.1,by rw [R8]; exact ihc h2 (λ b hb=>hO b (by simp [hb])) hS hn.2⟩
 | arr n t ih =>
  rintro O cs y ⟨h1,h2⟩ hO hS hn;have e:=zr (F7 t).symm (F7 (.arr n t)).symm y;refine Eq.subst (motive:=λ z=>i6 H S' (.arr n t.sh) [] cs z) e.symm ?_;refine ⟨by rw [List.length_map]; exact h1,?_⟩;rw [R8];exact j6.map (L:=O) (λ O1 cs x hL hr=>ih hr (λ b hb=>hO b (hL b hb)) hS hn) (λ _ h=>h) h2
 | d8 o t ih =>
  rintro O cs y h hO hS hn;have e:=zr (F7 t).symm (F7 (.d8 o t)).symm y;refine Eq.subst (motive:=λ z=>i6 H S' (.d8 false t.sh) [] cs z) e.symm ?_;rcases h with ⟨_,⟨a,c,h2,fN⟩,h3⟩|⟨b,off,cap,O',c1,c2,c3,c4,c5,c6⟩
  ·subst h3; exact .inl ⟨rfl,⟨a,c,h2,λ h=>by cases h⟩,rfl⟩
  ·have hb:S' b:=by
    cases o with
    | true=>exact hO b (by rw [c6.1]; simp)
    | false=>exact hS b c6.2.2
   have gU:∀ c∈O',c∈O:=by
    intro c hc;cases o with
    | true=>rw [c6.1]; simp [hc]
    | false=>rw [c6.2.1] at hc; cases hc
   refine .inr ⟨b,off,cap,[],by rw [List.length_map]; exact c1,by rw [List.length_map]; exact c2,⟨c3.1,λ h=>by cases h⟩,by rw [List.length_map,R8]; exact c4,?_,rfl,rfl,hb⟩;rw [List.length_map,R8];exact j6.map (L:=O) (λ O1 cs x hL hr=>ih hr (λ b hb=>hO b (hL b hb)) hS hn) gU c5
 | hole t ih=>intro O cs y _ _ _ hn; cases hn
 | C6 t ih=>intro O cs y _ _ _ hn; cases hn
theorem Ty.MZ (t:Ty):t.shH.sh=t.sh:=by
 induction t with
 | pair a b iha ihb=>simp only [Ty.shH,Ty.sh,iha,ihb]
 | arr n t ih=>simp only [Ty.shH,Ty.sh,Ty.zX]
 | d8 o t ih=>simp only [Ty.shH,Ty.sh,Ty.zX]
 | C6 t ih=>simp only [Ty.shH,Ty.sh,Ty.zX]
 | box o g t ih=>simp only [Ty.shH,Ty.sh,Ty.zX]
 | _=>rfl
theorem JG (t:Ty):t.shH.size=t.size:=G7 (Ty.MZ t)
theorem i6.UG:∀ {u:Ty} {O:List Nat} {cs:List Value} {y:u.den},i6 H S u O cs y->(∀ b∈O,S' b)->(∀ b,S b->S' b)->u.okH=true->i6 H S' u.shH [] cs (cast (BQ u).symm y):=by
 intro u
 induction u with
 | pair a c iha ihc =>
  rintro O cs y ⟨O1,O2,rfl,h1,h2⟩ hO hS hn;simp only [Ty.okH,Bool.and_eq_true] at hn;have e:=RH (BQ a).symm (BQ c).symm (BQ (.pair a c)).symm y;refine Eq.subst (motive:=λ z=>i6 H S' (.pair a.shH c.shH) [] cs z) e.symm ?_;exact ⟨[],[],rfl,by rw [JG]; exact iha h1 (λ b hb=>hO b (by simp [hb])) hS hn.1,by rw [JG]; exact ihc h2 (λ b hb=>hO b (by simp [hb])) hS hn.2⟩
 | hole t ih=>intro O cs y h _ _ _; exact ⟨rfl,h.2⟩
 | C6 t ih=>intro O cs y h _ _ hn; cases hn
 | arr n t ih=>intro O cs y h hO hS hn; exact i6.vJ (u:=.arr n t) h hO hS hn
 | d8 o t ih=>intro O cs y h hO hS hn; exact i6.vJ (u:=.d8 o t) h hO hS hn
 | box o g t ih=>intro O cs y h hO hS hn; exact i6.vJ (u:=.box o g t) h hO hS hn
 | map o k v=>intro O cs y h hO hS hn; exact i6.vJ (u:=.map o k v) h hO hS hn
 | int k=>intro O cs y h _ _ _; exact ⟨rfl,h.2⟩
 | bool=>intro O cs y h _ _ _; exact ⟨rfl,h.2⟩
 | str=>intro O cs y h _ _ _; exact ⟨rfl,h.2⟩
 | unit=>intro O cs y h _ _ _; exact ⟨rfl,h.2⟩
 | fn f=>intro O cs y h _ _ _; exact ⟨rfl,h.2⟩
theorem j6.Ga {α β:Type} {R:List Nat->List Value->α->Prop} {R':List Nat->List Value->β->Prop} {sz:Nat} {f:α->β} (hr:∀ O cs x,R O cs x->R' O cs (f x)) :
  ∀ {l:List α} {O:List Nat} {cs:List Value},j6 R sz O cs l->j6 R' sz O cs (l.map f)
 | [],_,_,⟨h0,h⟩=>⟨h0,h⟩
 | _::_,_,_,⟨O1,O2,e,h1,h2⟩=>⟨O1,O2,e,hr _ _ _ h1,j6.Ga hr h2⟩
theorem yL:∀ {u t:Ty},vB u t=true->t.size=u.size/\u.isB=t.isB:=by
 have base:∀ {u t:Ty},decide (u=t)=true->t.size=u.size/\u.isB=t.isB:=by
  intro u t h;have e:=of_decide_eq_true h;subst e;exact ⟨rfl,rfl⟩
 intro u
 induction u with
 | pair a b iha ihb =>
  intro t h;cases t with
  | pair c d =>
   have h:(vB a c && vB b d)=true:=h;rw [Bool.and_eq_true] at h;exact ⟨by simp only [Ty.size,(iha h.1).1,(ihb h.2).1],rfl⟩
  | _=>exact base h
 | arr n a ih =>
  intro t h;cases t with
  | arr m b =>
   have h:(Nat.beq n m && vB a b)=true:=h;rw [Bool.and_eq_true] at h;have e:=Nat.eq_of_beq_eq_true h.1;subst e;exact ⟨by simp only [Ty.size,(ih h.2).1],rfl⟩
  | _=>exact base h
 | d8 o a ih =>
  intro t h;cases t with
  | d8 o2 b=>exact ⟨rfl,rfl⟩
  | C6 b=>exact ⟨rfl,rfl⟩
  | _=>cases o<;>exact base h
 | _=>intro t h; cases t<;>exact base h
theorem j6.LV {α β:Type} {R:List Nat->List Value->α->Prop} {R':List Nat->List Value->β->Prop} {sz:Nat} {f:α->β} (hr:∀ O cs x,R' O cs (f x)->R O cs x) :
  ∀ {l:List α} {O:List Nat} {cs:List Value},j6 R' sz O cs (l.map f)->j6 R sz O cs l
 | [],_,_,⟨h0,h⟩=>⟨h0,h⟩
 | _::_,_,_,⟨O1,O2,e,h1,h2⟩=>⟨O1,O2,e,hr _ _ _ h1,j6.LV hr h2⟩
theorem Ws:∀ {u t:Ty} {y:u.den} {O:List Nat} {cs:List Value},vB u t=true->i6 H S u O cs y->i6 H S t O cs (msV u t y):=by
 have base:∀ {u t:Ty} {y:u.den} {O:List Nat} {cs:List Value},decide (u=t)=true->i6 H S u O cs y->i6 H S t O cs (if h:u=t then h▸y else t.s8):=by
  intro u t y O cs h hR;have e:=of_decide_eq_true h;subst e;rw [dif_pos rfl];exact hR
 intro u
 induction u with
 | pair a b iha ihb =>
  intro t y O cs h hR;cases t with
  | pair c d =>
   have h:(vB a c && vB b d)=true:=h;rw [Bool.and_eq_true] at h;obtain ⟨P1,P2,rfl,r1,r2⟩:=hR;exact ⟨P1,P2,rfl,by rw [(yL h.1).1]; exact iha h.1 r1,by rw [(yL h.1).1]; exact ihb h.2 r2⟩
  | _=>exact base h hR
 | arr n a ih =>
  intro t y O cs h hR;cases t with
  | arr m b =>
   have h:(Nat.beq n m && vB a b)=true:=h;rw [Bool.and_eq_true] at h;have e:=Nat.eq_of_beq_eq_true h.1;subst e;show i6 H S (.arr n b) O cs (if h:a=b then h▸y else List.map (msV a b) y)
   split
   ·rename_i e; subst e; exact hR
   ·obtain ⟨h1,h2⟩:=hR
    refine ⟨by rw [List.length_map]; exact h1,?_⟩;rw [(yL h.2).1];exact j6.Ga (λ _ _ _ q=>ih h.2 q) h2
  | _=>exact base h hR
 | d8 o a ih =>
  intro t y O cs h hR;cases t with
  | d8 o2 b =>
   cases o with
   | false=>exact base h hR
   | true=>cases o2 with
    | false=>exact base h hR
    | true =>
     have h:vB a b=true:=h;show i6 H S (.d8 true b) O cs (if h:a=b then h▸y else List.map (msV a b) y)
     split
     ·rename_i e; subst e; exact hR
     ·have hR:i6 H S (.d8 true a) O cs y:=hR
      rcases hR with ⟨h1,h2,h3⟩|⟨c,off,cap,O',c1,c2,c3,c4,c5,c6,c7⟩
      ·have h3:y=[]:=h3
       rw [h3]; exact .inl ⟨h1,h2,rfl⟩
      ·refine .inr ⟨c,off,cap,O',by rw [List.length_map]; exact c1,by rw [List.length_map]; exact c2,c3,by rw [List.length_map,(yL h).1]; exact c4,?_,c6,by rw [(yL h).1,<- (yL h).2]; exact c7⟩
       rw [List.length_map,(yL h).1];exact j6.Ga (λ _ _ _ q=>ih h q) c5
  | C6 b =>
   have e:a=b:=by cases o<;>exact of_decide_eq_true h
   subst e;cases o with
   | false=>show i6 H S (.C6 a) O cs (if h:a=a then (0,h▸y,[]) else (0,[],[])); rw [dif_pos rfl]; exact hR
   | true=>show i6 H S (.C6 a) O cs (if h:a=a then (1,h▸y,[]) else (1,[],[])); rw [dif_pos rfl]; exact hR
  | _=>cases o<;>exact base h hR
 | _=>intro t y O cs h hR; cases t<;>exact base h hR
theorem Yn:∀ {u t:Ty} {y:u.den} {z:t.den} {O:List Nat} {cs:List Value},yT u t y=some z->i6 H S u O cs y->∃ O1 D,O.Perm (O1++D)/\t.size=u.size/\∀ S':Nat->Prop,(∀ b,S b->S' b)->(∀ b∈D,S' b)->i6 H S' t O1 cs z:=by
 have base:∀ {u t:Ty} {y:u.den} {z:t.den} {O:List Nat} {cs:List Value},(if h:u=t then some (X3 h y) else if h:u.sh=t then (match u.W0 with
   | true=>some (cast ((F7 u).symm.trans (congrArg Ty.den h)) y)
   | false=>none) else (match vB u t with
   | true=>some (msV u t y)
   | false=>none))=some z->i6 H S u O cs y->∃ O1 D,O.Perm (O1++D)/\t.size=u.size/\∀ S':Nat->Prop,(∀ b,S b->S' b)->(∀ b∈D,S' b)->i6 H S' t O1 cs z:=by
  intro u t y z O cs h hR;split at h
  ·rename_i e
   subst e;cases h;exact ⟨O,[],by simp,rfl,λ S' hS _=>hR.w6 (λ _ _=>rfl) hS⟩
  ·split at h
   ·rename_i e
    subst e;split at h
    ·rename_i hn
     cases h;exact ⟨[],O,by simp,R8 u,λ S' hS hD=>hR.vJ hD hS hn⟩
    ·cases h
   ·split at h
    ·rename_i hm
     cases h;exact ⟨O,[],by simp,(yL hm).1,λ S' hS _=>(Ws hm hR).w6 (λ _ _=>rfl) hS⟩
    ·cases h
 intro u
 induction u with
 | pair a b iha ihb =>
  intro t y z O cs h hR;cases t with
  | pair c d =>
   simp only [yT] at h;split at h
   ·rename_i x1 x2 h1 h2
    cases h;obtain ⟨P1,P2,rfl,r1,r2⟩:=hR;obtain ⟨A1,D1,e1,s1,k1⟩:=iha h1 r1;obtain ⟨A2,D2,e2,s2,k2⟩:=ihb h2 r2;refine ⟨A1++A2,D1++D2,?_,by simp only [Ty.size,s1,s2],λ S' hS hD=>⟨A1,A2,rfl,?_,?_⟩⟩
    ·refine (e1.append e2).trans ?_
     rw [List.append_assoc,List.append_assoc];refine List.Perm.append_left _ ?_;rw [<- List.append_assoc,<- List.append_assoc];exact List.Perm.append_right _ List.perm_append_comm
    ·rw [s1]; exact k1 S' hS (λ b hb=>hD b (by simp [hb]))
    ·rw [s1]; exact k2 S' hS (λ b hb=>hD b (by simp [hb]))
   ·cases h
  | _=>exact base h hR
 | _=>intro t y z O cs h hR; cases t<;>exact base h hR
def Hs (ι:Ix) (hp:List (Nat×i7)) (i b:Nat):Prop:=∃ e,look i hp=some e/\b∈l7 ι i e
theorem OK (h:HS B S ι s.hp w) {i:Nat} {p:List Step} {lo hi:Int} {v:Value} (hv:VX w.heap S ι s.hp (.sub i p lo hi) [v]) {t:Ty} {l:List t.den} (hw:s.view i p lo hi=some ⟨t,l⟩) :
  ∃ A c,v=s5 (.d8 false t.sh) [.slice A l.length c]/\(l=[]\/∃ b off O,A=some ⟨b,off,none⟩/\Hs ι s.hp i b/\off+l.length*t.size<=(x8 w.heap b).length/\j6 (i6 w.heap S t) t.size O (e8 w.heap b off (l.length*t.size)) l/\(∀ c∈O,Hs ι s.hp i c)/\(l.length<=c/\c<=maxLen)):=by
 obtain ⟨e,v',h1,h2,h3,h4,h5,h6⟩:=hv;cases h3;have aX:=h.ob i e h1;unfold St.view at hw;rcases h6 with ⟨t',l',a,cap,k1,k2,k3,c,A,k4,kA,k5,k6⟩|⟨n,t',l',b,off,k1,⟨k2,k2'⟩,k3,c,A,k4,kA,k5,k6⟩
 ·have hp:s.part i p=some ⟨.d8 true t',l'⟩:=by unfold St.part St.obj; rw [h1]; exact k1
  rw [hp] at hw;simp only [Option.some.injEq,Sigma.mk.injEq] at hw;obtain ⟨rfl,hw⟩:=hw;have hw:=eq_of_heq hw;subst hw;have hlen:(o5 lo hi l').length=(hi - lo).toNat:=zC h4 k2;refine ⟨_,c,by rw [hlen]; exact k4,?_⟩;by_cases hz:o5 lo hi l'=[]
  ·exact .inl hz
  ·obtain ⟨O2,m1,m2,m3⟩:=H4 h h1 h2 k1 k3
   rcases m3 with ⟨_,_,hn⟩|⟨b1,o1,gV,O',c1,c2,c3,c4,c5,rfl,c7⟩
   ·exfalso; apply hz; rw [hn]; simp [o5]
   ·simp only [List.cons.injEq,Value.slice.injEq,and_true] at c1
    obtain ⟨rfl,_,rfl⟩:=c1;have gF:0<(hi - lo).toNat:=by rw [<- hlen]; exact List.length_pos_iff.2 hz
    obtain ⟨P1,P2,P3,e1,g⟩:=c5.cut lo.toNat (hi - lo).toNat;have hle:lo.toNat*t'.size+(hi - lo).toNat*t'.size<=List.length l'*t'.size:=by rw [<- Nat.add_mul]; exact Nat.mul_le_mul_right _ (by omega)
    rw [o6,n8 _ _ _ _ (by omega)] at g;refine .inr ⟨b1,o1+lo.toNat*t'.size,P2,by rw [kA (by omega),Option.map_some,Addr.I2],⟨e,h1,J1 (m1 b1 (by simp))⟩,by rw [hlen]; omega,by rw [hlen]; exact g,λ c hc=>⟨e,h1,J1 (m1 c (by rw [e1]; simp [hc]))⟩,by rw [hlen]; exact k5,by have:=c3.1; omega⟩
 ·have hp:s.part i p=some ⟨.arr n t',l'⟩:=by unfold St.part St.obj; rw [h1]; exact k1
  rw [hp] at hw;simp only [Option.some.injEq,Sigma.mk.injEq] at hw;obtain ⟨rfl,hw⟩:=hw;have hw:=eq_of_heq hw;subst hw;obtain ⟨O2,m1,m2,m3,m4,m5,m6⟩:=N5 (L8 k3) aX h.slt h2 k1 k3;obtain ⟨hl,m3⟩:=m3;have hlen:(o5 lo hi l').length=(hi - lo).toNat:=zC h4 (by rw [hl]; exact k2);refine ⟨_,c,by rw [hlen]; exact k4,?_⟩;by_cases hz:o5 lo hi l'=[]
  ·exact .inl hz
  ·have gF:0<(hi - lo).toNat:=by rw [<- hlen]; exact List.length_pos_iff.2 hz
   obtain ⟨P1,P2,P3,e1,g⟩:=m3.cut lo.toNat (hi - lo).toNat;have hle:lo.toNat*t'.size+(hi - lo).toNat*t'.size<=n*t'.size:=by rw [<- Nat.add_mul]; exact Nat.mul_le_mul_right _ (by omega)
   simp only [Ty.size] at g m4;rw [o6,n8 _ _ _ _ (by omega)] at g;exact .inr ⟨b,off+lo.toNat*t'.size,P2,by rw [kA (by omega),Option.map_some,Addr.I2],⟨e,h1,m5⟩,by rw [hlen]; omega,by rw [hlen]; exact g,λ c hc=>⟨e,h1,J1 (m1 c (by rw [e1]; simp [hc]))⟩,by rw [hlen]; exact k5,by omega⟩
theorem Az:∀ t:Ty,t.rdT.size=t.size:=by
 intro t
 induction t with
 | pair a b iha ihb=>simp only [Ty.rdT,Ty.size,iha,ihb]
 | arr n t ih=>simp only [Ty.rdT,Ty.size,ih]
 | _=>rfl
theorem Vt (t:Ty):t.rdT.agg=t.agg:=by cases t<;>rfl
theorem It:∀ {u:Ty} {O:List Nat} {cs:List Value} {y:u.den},i6 H S u O cs y->(∀ b∈O,S' b)->(∀ b,S b->S' b)->u.okM=true->i6 H S' u.rdT [] cs (rdV u y):=by
 have d8:∀ {o:Bool} {u v:Ty} {f:u.den->v.den} {O:List Nat} {cs:List Value} {y:List u.den},v.size=u.size->(∀ {O:List Nat} {cs:List Value} {y:u.den},i6 H S u O cs y->(∀ b∈O,S' b)->i6 H S' v [] cs (f y)) ->
   i6 H S (.d8 o u) O cs y->(∀ b∈O,S' b)->(∀ b,S b->S' b)->i6 H S' (.d8 false v) [] cs (y.map f):=by
  intro o u v f O cs y bc ih h hO hS;rcases h with ⟨_,⟨a,c,h2,fN⟩,h3⟩|⟨b,off,cap,O',c1,c2,c3,c4,c5,c6⟩
  ·have h3:y=[]:=h3
   subst h3; exact .inl ⟨rfl,⟨a,c,h2,λ h=>by cases h⟩,rfl⟩
  ·have hb:S' b:=by
    cases o with
    | true=>exact hO b (by rw [c6.1]; simp)
    | false=>exact hS b c6.2.2
   have gU:∀ c∈O',c∈O:=by
    intro c hc;cases o with
    | true=>rw [c6.1]; simp [hc]
    | false=>rw [c6.2.1] at hc; cases hc
   refine .inr ⟨b,off,cap,[],by rw [List.length_map]; exact c1,by rw [List.length_map]; exact c2,⟨c3.1,λ h=>by cases h⟩,by rw [List.length_map,bc]; exact c4,?_,rfl,rfl,hb⟩;rw [List.length_map,bc];exact j6.map (L:=O) (λ O1 cs x hL hr=>ih hr (λ b hb=>hO b (hL b hb))) gU c5
 intro u
 induction u with
 | int k=>intro O cs y h _ _ _; exact ⟨rfl,h.2⟩
 | bool=>intro O cs y h _ _ _; exact ⟨rfl,h.2⟩
 | str=>intro O cs y h _ _ _; exact ⟨rfl,h.2⟩
 | unit=>intro O cs y h _ _ _; exact ⟨rfl,h.2⟩
 | fn f=>intro O cs y h _ _ _; exact ⟨rfl,h.2⟩
 | map o k v=>intro O cs y h hO hS hn; exact i6.vJ (u:=.map o k v) h hO hS hn
 | box o g t=>intro O cs y h hO hS hn; exact i6.vJ (u:=.box o g t) h hO hS hn
 | hole t=>intro O cs y h hO hS hn; cases hn
 | pair a c iha ihc =>
  rintro O cs y ⟨O1,O2,rfl,h1,h2⟩ hO hS hn;simp only [Ty.okM,Bool.and_eq_true] at hn;exact ⟨[],[],rfl,by rw [Az]; exact iha h1 (λ b hb=>hO b (by simp [hb])) hS hn.1,by rw [Az]; exact ihc h2 (λ b hb=>hO b (by simp [hb])) hS hn.2⟩
 | arr n t ih =>
  rintro O cs y h hO hS hn;by_cases hh:t.W0=true
  ·have:=i6.vJ (S':=S') (u:=.arr n t) h hO hS hh
   show i6 H S' (.arr n t.rdT) [] cs (if h:t.W0=true then cast (congrArg List (xL h)) y else List.map (rdV t) y);rw [dif_pos hh];have e:=Ir t hh;revert this;generalize xL hh=e2;revert e2;rw [e];intro e2 this;exact this
  ·show i6 H S' (.arr n t.rdT) [] cs (if h:t.W0=true then cast (congrArg List (xL h)) y else List.map (rdV t) y)
   rw [dif_neg hh];refine ⟨by rw [List.length_map]; exact h.1,?_⟩;rw [Az];exact j6.map (L:=O) (λ O1 cs x hL hr=>ih hr (λ b hb=>hO b (hL b hb)) hS hn) (λ _ h=>h) h.2
 | d8 o t ih =>
  rintro O cs y h hO hS hn;by_cases hh:t.W0=true
  ·have:=i6.vJ (S':=S') (u:=.d8 o t) h hO hS hh
   show i6 H S' (.d8 false t.rdT) [] cs (if h:t.W0=true then cast (congrArg List (xL h)) y else List.map (rdV t) y);rw [dif_pos hh];have e:=Ir t hh;revert this;generalize xL hh=e2;revert e2;rw [e];intro e2 this;exact this
  ·show i6 H S' (.d8 false t.rdT) [] cs (if h:t.W0=true then cast (congrArg List (xL h)) y else List.map (rdV t) y)
   rw [dif_neg hh];exact d8 (Az t) (λ hr hO=>ih hr hO hS hn) h hO hS
 | C6 t ih =>
  rintro O cs ⟨n,l,m⟩ h hO hS hn;show i6 H S' (.d8 false t.sh) [] cs (cast (congrArg List (F7 t).symm) l);rw [zr (F7 t).symm];have ih:∀ {O:List Nat} {cs:List Value} {y:t.den},i6 H S t O cs y->(∀ b∈O,S' b)->i6 H S' t.sh [] cs (cast (F7 t).symm y):=λ hr hO=>hr.vJ hO hS hn
  match n,h with
  | 0,h=>exact d8 (o:=false) (R8 t) ih h hO hS
  | 1,h=>exact d8 (o:=true) (R8 t) ih h hO hS
  | n+2,⟨b,off,O',c1,c2,c3,c4,c5⟩ =>
   have hb:S' b:=by
    cases n with
    | zero=>exact hO b (by rw [c5.1]; simp)
    | succ n=>exact hS b c5.2.2
   have gU:∀ c∈O',c∈O:=by
    intro c hc;cases n with
    | zero=>rw [c5.1]; simp [hc]
    | succ n=>rw [c5.2.1] at hc; cases hc
   rw [List.length_append,Nat.add_mul] at c3 c4;obtain ⟨P1,P2,P3,e1,g⟩:=c4.cut 0 l.length;simp only [Nat.zero_mul,List.drop_zero,List.take_left'] at g;refine .inr ⟨b,off,List.length l+List.length m,[],by rw [List.length_map]; exact c1,by rw [List.length_map]; omega,⟨c2.1,λ h=>by cases h⟩,by rw [List.length_map,R8]; omega,?_,rfl,rfl,hb⟩;rw [List.length_map,R8];have g2:j6 (i6 H S t) t.size P2 (e8 H b off (l.length*t.size)) l:=by
    rw [n8 _ _ _ _ (by omega)] at g;exact g
   exact j6.map (L:=O) (λ O1 cs x hL hr=>ih hr (λ b hb=>hO b (hL b hb))) (λ c hc=>gU c (by rw [e1]; simp [hc])) g2
theorem WD {a t:Ty} {y:(Ty.C6 a).den} {x:t.den} (h:rdS a t y=some x):t.size=1/\t.agg=false/\∀ {O:List Nat} {cs:List Value},i6 H S (.C6 a) O cs y->(∀ b∈O,S' b)->(∀ b,S b->S' b)->i6 H S' t [] cs x:=by
 unfold rdS at h;split at h
 ·rename_i b
  split at h
  ·rename_i e
   subst e;split at h
   ·rename_i hn
    obtain ⟨n,l,m⟩:=y;cases h;refine ⟨rfl,rfl,λ {O cs} hR hO hS=>?_⟩;show i6 H S' (.C6 a.sh) [] cs (shF n,cast (congrArg List (F7 a).symm) l,cast (congrArg List (F7 a).symm) m);have h0:=It (S':=S') hR hO hS hn
    match n,hR with
    | 0,hR=>exact h0
    | 1,hR=>exact h0
    | n+2,⟨b,off,O',c1,c2,c3,c4,c5⟩ =>
     have hb:S' b:=by
      cases n with
      | zero=>exact hO b (by rw [c5.1]; simp)
      | succ n=>exact hS b c5.2.2
     have gU:∀ c∈O',c∈O:=by
      intro c hc;cases n with
      | zero=>rw [c5.1]; simp [hc]
      | succ n=>rw [c5.2.1] at hc; cases hc
     have hlen:∀ l:List a.den,List.length (cast (congrArg List (F7 a).symm) l:List a.sh.den)=l.length:=λ l=>by rw [zr (F7 a).symm,List.length_map]
     have cw:((cast (congrArg List (F7 a).symm) l:List a.sh.den)++(cast (congrArg List (F7 a).symm) m:List a.sh.den))=(l++m).map (cast (F7 a).symm):=by
      rw [zr (F7 a).symm,zr (F7 a).symm,List.map_append]
     refine ⟨b,off,[],by rw [hlen,hlen]; exact c1,by rw [hlen,hlen]; exact c2,by rw [cw,List.length_map,R8]; exact c3,?_,rfl,rfl,hb⟩;rw [cw,List.length_map,R8];exact j6.map (L:=O) (λ O1 cs x hL hr=>hr.vJ (λ b hb=>hO b (hL b hb)) hS hn) gU c4
   ·cases h
  ·cases h
 ·cases h
theorem WC {t u:Ty} {y:u.den} {x:t.den} (h:rdM t u y=some x):t.size=u.size/\t.agg=u.agg/\∀ {O:List Nat} {cs:List Value},i6 H S u O cs y->(∀ b∈O,S' b)->(∀ b,S b->S' b)->i6 H S' t [] cs x:=by
 unfold rdM at h;split at h
 ·rename_i hm
  split at h
  ·rename_i e
   subst e;cases h;exact ⟨Az u,Vt u,λ hR hO hS=>It hR hO hS hm⟩
  ·split at h
   ·exact WD h
   ·cases h
 ·cases h
theorem KH {t:Ty} {r:Option (Sigma Ty.den)} {x:t.den} (h:xE t r=some x):∃ u y,r=some ⟨u,y⟩:=by
 unfold xE at h;split at h
 ·exact ⟨_,_,rfl⟩
 ·cases h
theorem BN {t u:Ty} (h:t.agg=u.agg) (cs:List Value):s5 t cs=s5 u cs:=by simp only [s5,h]
theorem EK {t u:Ty} {y:u.den} {x:t.den} (h:xE t (some ⟨u,y⟩)=some x):t.size=u.size/\t.agg=u.agg/\∀ {O:List Nat} {cs:List Value},i6 H S u O cs y->(∀ b∈O,S' b)->(∀ b,S b->S' b)->i6 H S' t [] cs x:=by
 simp only [xE] at h;split at h
 ·rename_i hn
  split at h
  ·rename_i e
   subst e;cases h;exact ⟨JG u,Eb (Ty.MZ u),λ hR hO hS=>hR.UG hO hS hn⟩
  ·cases h
 ·exact WC h
theorem XY {t u:Ty} {l:List u.den} {x:t.den} (h:xE t (some ⟨.d8 true u,l⟩)=some x):∃ (t':Ty) (f:u.den->t'.den) (e:t=.d8 false t'),X3 e x=l.map f/\t'.size=u.size /\
  ∀ {O:List Nat} {cs:List Value} {y:u.den},i6 H S u O cs y->(∀ b∈O,S' b)->(∀ b,S b->S' b)->i6 H S' t' [] cs (f y):=by
 simp only [xE] at h;split at h
 ·rename_i hn
  split at h
  ·rename_i e
   subst e;cases h;exact ⟨u.sh,cast (F7 u).symm,rfl,zr (F7 u).symm _ l,R8 u,λ hR hO hS=>hR.vJ hO hS hn⟩
  ·cases h
 ·rename_i hn
  unfold rdM at h;split at h
  ·rename_i hm
   split at h
   ·rename_i e
    subst e;cases h;refine ⟨u.rdT,rdV u,rfl,?_,Az u,λ hR hO hS=>It hR hO hS hm⟩;show (if h:u.W0=true then cast (congrArg List (xL h)) l else List.map (rdV u) l)=List.map (rdV u) l;rw [dif_neg (λ e=>by rw [show (Ty.d8 true u).okH=u.W0 from rfl,e] at hn; cases hn)]
   ·cases h
  ·cases h
theorem HN {v:AV} {t:Ty} {x:t.den} {val:Value} (h:v.as t=some x) (hv:VX H S ι hp v [val]):∃ cs,val=s5 t cs/\i6 H S t [] cs x:=by
 unfold AV.as at h;split at h
 ·rename_i u y
  split at h
  ·rename_i hu; subst hu; cases h
   obtain ⟨cs,e,hR⟩:=hv;exact ⟨cs,by simpa using e,hR⟩
  ·cases h
 ·split at h
  ·cases h
   have:[val]=[Value.slice none 0 0]:=hv;exact ⟨[.slice none 0 0],by simpa [s5,Ty.agg] using this,.inl ⟨rfl,⟨none,0,rfl,λ _=>rfl⟩,rfl⟩⟩
  ·cases h
 ·cases h
def N4 (ι:Ix) (hp:List (Nat×i7)) (g:List Nat) (b:Nat):Prop:=∃ i e,i∈g/\look i hp=some e/\b∈l7 ι i e
theorem NZ (h:HS B S ι s.hp w) {v:AV} {t:Ty} {x:t.den} {val:Value} (hx:v.asV s t=some x) (hv:VX w.heap S ι s.hp v [val]) {S1:Nat->Prop} (hS:∀ b,S b->S1 b) (hL:∀ b,N4 ι s.hp v.I1 b->S1 b) :
  ∃ cs,val=s5 t cs/\i6 w.heap S1 t [] cs x:=by
 unfold AV.asV at hx;split at hx
 ·rename_i i p
  obtain ⟨u,y,hp⟩:=KH hx;unfold St.vA at hx;rw [hp] at hx;obtain ⟨e,u',y',cs,h1,h2,h3,h4,h5⟩:=hv;have hg:=I5 h1 hp;rw [h3] at hg; cases hg;obtain ⟨O2,k1,_,k2⟩:=H4 h h1 h2 h3 h4;obtain ⟨_,g2,g3⟩:=EK (H:=w.heap) (S:=S) (S':=S1) hx;exact ⟨cs,by rw [BN g2]; simpa using h5,g3 k2 (λ b hb=>hL b ⟨i,e,by simp [AV.I1],h1,J1 (k1 b hb)⟩) hS⟩
 ·rename_i i p lo hi
  split at hx
  ·rename_i u l hw
   obtain ⟨t',f,e,hf,bc,hr⟩:=XY (H:=w.heap) (S:=S) (S':=S1) hx;subst e;have hf:x=l.map f:=hf;subst hf;have rO:∀ b,(S b\/Hs ι s.hp i b)->S1 b:=λ b hb=>hb.elim (hS b) (λ⟨e,h1,h2⟩=>hL b ⟨i,e,by simp [AV.I1],h1,h2⟩);obtain ⟨A,c,k1,k2⟩:=OK h hv hw;refine ⟨[.slice A l.length c],k1,?_⟩;rcases k2 with rfl|⟨b,off,O,rfl,hb,h4,h5,h6,h7⟩
   ·exact .inl ⟨rfl,⟨A,c,rfl,λ h=>by cases h⟩,rfl⟩
   ·refine .inr ⟨b,off,c,[],by rw [List.length_map],by rw [List.length_map]; exact h7.1,⟨h7.2,λ h=>by cases h⟩,by rw [List.length_map,bc]; exact h4,?_,rfl,rfl,rO b (.inr hb)⟩
    rw [List.length_map,bc];exact j6.map (L:=O) (λ O1 cs x oN hq=>hr hq (λ b hb=>rO b (.inr (h6 b (oN b hb)))) hS) (λ _ h=>h) h5
  ·cases hx
 ·rename_i u x'
  split at hx
  ·rename_i hu; subst hu; cases hx
   obtain ⟨cs,e,hR⟩:=hv;exact ⟨cs,by simpa using e,hR.w6 (λ _ _=>rfl) hS⟩
  ·obtain ⟨cs,e,hR⟩:=hv
   obtain ⟨_,g2,g3⟩:=EK (H:=w.heap) (S:=S) (S':=S1) hx;exact ⟨cs,by rw [BN g2]; simpa using e,g3 hR (by simp) hS⟩
 ·obtain ⟨cs,e,hR⟩:=HN hx hv
  exact ⟨cs,e,hR.w6 (λ _ _=>rfl) hS⟩
theorem Ik (h:HS B S ι s.hp w) {v:AV} {t:Ty} {x:t.den} {val:Value} (hx:v.asR s t=some x) (hv:VX w.heap S ι s.hp v [val]) {S1:Nat->Prop} (hS:∀ b,S b->S1 b) (hL:∀ b,N4 ι s.hp v.I1 b->S1 b) :
  GO w.heap S1 t val x:=by
 unfold AV.asR at hx;split at hx
 ·rename_i i p
  obtain ⟨u,y,hp⟩:=KH hx;unfold St.vA at hx;rw [hp] at hx;obtain ⟨e,b,off,h1,h2,h3,h4⟩:=hv;have hg:=I5 h1 hp;obtain ⟨O2,m1,m2,m3,m4,m5,_⟩:=N5 (L8 h3) (h.ob i e h1) h.slt h2 hg h3;obtain ⟨g1,g2,g3⟩:=EK (H:=w.heap) (S:=S) (S':=S1) hx;refine ⟨b,off,by simpa using h4,hL b ⟨i,e,by simp [AV.I1],h1,m5⟩,by rw [g1]; exact m4,?_⟩;rw [g1];exact g3 m3 (λ b hb=>hL b ⟨i,e,by simp [AV.I1],h1,J1 (m1 b hb)⟩) hS
 ·rename_i u x'
  split at hx
  ·rename_i hu; subst hu; cases hx
   obtain ⟨b,off,e,h1,h2,h3⟩:=hv;exact ⟨b,off,by simpa using e,hS b h1,h2,h3.w6 (λ _ _=>rfl) hS⟩
  ·cases hx
 ·rename_i i p
  split at hx
  ·rename_i u
   split at hx
   ·rename_i x0 iC
    cases hx;obtain ⟨u',y,hp⟩:=KH iC;unfold St.vA at iC;rw [hp] at iC;obtain ⟨b0,off0,v0,e0,mh,jg,eS,e,b,off,h1,h2,h3,h4⟩:=hv;have hg:=I5 h1 hp;obtain ⟨O2,m1,m2,m3,m4,m5,_⟩:=N5 (L8 h3) (h.ob i e h1) h.slt h2 hg h3;obtain ⟨g1,g2,g3⟩:=EK (H:=w.heap) (S:=S) (S':=S1) iC;obtain rfl:v0=.pointer (some ⟨b,off,none⟩):=by simpa using h4
    have hk:=g3 m3 (λ b hb=>hL b ⟨i,e,by simp [AV.I1],h1,J1 (m1 b hb)⟩) hS;refine ⟨b0,off0,by simpa using e0,hS _ mh,jg,?_⟩;rw [show e8 w.heap b0 off0 (Ty.box false none u).size=[.pointer (some ⟨b,off,none⟩)] from eS];exact .inr ⟨_,b,off,[],rfl,rfl,by rw [g1]; exact m4,by rw [g1]; exact hk,rfl,rfl,hL b ⟨i,e,by simp [AV.I1],h1,m5⟩⟩
   ·cases hx
  ·cases hx
 ·cases hx
theorem Pw (h:HS B S ι s.hp w) {S1:Nat->Prop} (hS:∀ b,S b->S1 b):∀ {ts:List Ty} {v:AV} {x:DL ts} {vs:List Value},AV.xY s ts v=some x->VX w.heap S ι s.hp v vs->(∀ b,N4 ι s.hp v.I1 b->S1 b)->RdL w.heap S1 ts vs x
 | [],v,x,vs,hx,hv,_=>by
  cases v<;>simp only [AV.xY] at hx<;>first|cases hx|skip
  exact hv
 | t::ts,v,x,vs,hx,hv,hL=>by
  cases v<;>simp only [AV.xY] at hx<;>first|cases hx|skip
  rename_i a b;split at hx
  ·rename_i x1 x2 h1 h2
   cases hx;obtain ⟨v,us,rfl,ha,hb⟩:=hv;exact ⟨v,us,rfl,Ik h h1 ha hS (λ c hc=>hL c (by obtain ⟨i,e,q1,q2⟩:=hc; exact ⟨i,e,by simp [AV.I1,q1],q2⟩)),Pw h hS h2 hb (λ c hc=>hL c (by obtain ⟨i,e,q1,q2⟩:=hc; exact ⟨i,e,by simp [AV.I1,q1],q2⟩))⟩
  ·cases hx
theorem Ni {H:Array Go.Obj} {t':Ty} {O2:List Nat} {A:Option Addr} {cap:Nat} {x':List t'.den} {lo hi:Int} {v:Value} (m3:i6 H S (.d8 true t') O2 [.slice A (List.length x') cap] x') (m2:O2.Nodup) (h4:0<=lo) (h5:lo<=hi) (k2:hi<=(List.length x':Int)) (hv:AU t'.size A cap lo hi v) :
  ∃ O cs,v=s5 (.d8 true t') cs/\i6 H S (.d8 true t') O cs (o5 lo hi x')/\O.Nodup/\∀ b∈O,b∈O2:=by
 obtain ⟨c,A',k4,kA,k5,k6⟩:=hv;have hlen:(o5 lo hi x').length=(hi - lo).toNat:=zC h4 k2;by_cases hc:c=0
 ·refine ⟨[],[.slice A' 0 0],?_,.inl ⟨rfl,⟨A',0,rfl,λ _=>rfl⟩,?_⟩,List.nodup_nil,by simp⟩
  ·rw [k4,hc]
   have:(hi - lo).toNat=0:=by omega
   rw [this]; rfl
  ·exact List.length_eq_zero_iff.1 (by omega)
 ·rcases m3 with ⟨_,⟨a2,c2,q1,q2⟩,hn⟩|⟨b1,o1,gV,O',c1,c2,c3,c4,c5,rfl,c7⟩
  ·exfalso
   simp only [List.cons.injEq,Value.slice.injEq,and_true] at q1;have:=q2 rfl;omega
  ·simp only [List.cons.injEq,Value.slice.injEq,and_true] at c1
   obtain ⟨rfl,_,rfl⟩:=c1;obtain ⟨P1,P2,P3,e1,g1⟩:=c5.cut lo.toNat (hi - lo).toNat;have hle:lo.toNat*t'.size+(hi - lo).toNat*t'.size<=List.length x'*t'.size:=by rw [<- Nat.add_mul]; exact Nat.mul_le_mul_right _ (by omega)
   have cT:(lo.toNat+c)*t'.size<=cap*t'.size:=Nat.mul_le_mul_right _ (Nat.le_of_eq k6);rw [Nat.add_mul] at cT;rw [o6,n8 _ _ _ _ (by omega)] at g1;have aN:(b1::P2).Nodup:=by
    rw [e1] at m2;have h1:=List.nodup_cons.1 m2;refine List.nodup_cons.2 ⟨λ hb=>h1.1 (by simp [hb]),(List.nodup_append.1 (List.nodup_append.1 h1.2).2.1).1⟩
   refine ⟨b1::P2,[.slice (some ⟨b1,o1+lo.toNat*t'.size,none⟩) (o5 lo hi x').length c],?_,.inr ⟨b1,o1+lo.toNat*t'.size,c,P2,rfl,by rw [hlen]; exact k5,⟨by have:=c3.1; omega,λ _=>by omega⟩,by rw [hlen]; omega,by rw [hlen]; exact g1,rfl,c7.mono (by omega)⟩,aN,λ b hb=>?_⟩
   ·rw [k4,kA hc,hlen,Option.map_some,Addr.I2]; rfl
   ·rcases List.mem_cons.1 hb with rfl|hb
    ·simp
    ·rw [e1]; simp [hb]
theorem Ax (h:HS B S ι s.hp w) {v:AV} {val:Value} {t:Ty} {x:t.den} {g:List Nat} (hg:v.vg s=some (⟨t,x⟩,g)) (hv:VX w.heap S ι s.hp v [val]) :
  ∃ O cs,val=s5 t cs/\i6 w.heap S t O cs x/\O.Nodup/\∀ b∈O,N4 ι s.hp g b:=by
 unfold AV.vg at hg;split at hg
 ·cases hg
  obtain ⟨cs,e,hR⟩:=hv;exact ⟨[],cs,by simpa using e,hR,List.nodup_nil,by simp⟩
 ·rename_i i
  split at hg
  ·rename_i t' x' aX
   cases hg;obtain ⟨e,u,y,cs,h1,h2,h3,h4,h5⟩:=hv;obtain rfl:=wN h1 aX;rw [C9] at h3; cases h3;obtain ⟨O2,m1,m2,m3⟩:=H4 h h1 h2 C9 h4;have h5:val=s5 t cs:=by simpa [i7.ty] using h5
   exact ⟨O2,cs,h5,m3,m2,λ b hb=>⟨i,_,by simp,h1,J1 (m1 b hb)⟩⟩
  ·cases hg
 ·rename_i i lo hi
  split at hg
  ·rename_i t' x' aX
   cases hg;obtain ⟨e,v,h1,h2,h3,h4,h5,h6⟩:=hv;obtain rfl:=wN h1 aX;cases h3;rcases h6 with ⟨t1,l,A,cap,k1,k2,k3,k4⟩|⟨n,t1,l,b,off,k1,_,k3,_⟩
   ·have k1:j9 (.d8 true t') x' []=some ⟨.d8 true t1,l⟩:=k1
    rw [C9] at k1; cases k1;obtain ⟨O2,m1,m2,m3⟩:=H4 h h1 h2 C9 k3;obtain ⟨O,cs,q1,q2,q3,q4⟩:=Ni m3 m2 h4 h5 k2 k4;exact ⟨O,cs,q1,q2,q3,λ b hb=>⟨i,_,by simp,h1,J1 (m1 b (q4 b hb))⟩⟩
   ·exfalso
    simp only [Loc,Place,C3,VR] at k3;simp at k3
  ·cases hg
 ·cases hg
theorem Fb (h:HS B S ι s.hp w) {v:AV} {val:Value} {t:Ty} {x:t.den} {g:List Nat} (hg:v.vC s=some (⟨t,x⟩,g)) (hv:VX w.heap S ι s.hp v [val]) :
  ∃ O cs,val=s5 t cs/\i6 w.heap S t O cs x/\O.Nodup/\∀ b∈O,N4 ι s.hp g b:=by
 unfold AV.vC at hg;split at hg
 ·rename_i i
  split at hg
  ·rename_i t' x' aX
   cases hg;obtain ⟨e,u,y,cs,h1,h2,h3,h4,h5⟩:=hv;obtain rfl:=wN h1 aX;rw [C9] at h3; cases h3;obtain ⟨O2,m1,m2,m3⟩:=H4 h h1 h2 C9 h4;have h5:val=s5 t cs:=by simpa [i7.ty] using h5
   exact ⟨O2,cs,h5,m3,m2,λ b hb=>⟨i,_,by simp,h1,J1 (m1 b hb)⟩⟩
  ·exact Ax h hg hv
 ·rename_i f
  cases hg;obtain ⟨us,e,rfl⟩:=hv;have e:val=.func (.func f) #[] #[]:=by simpa using e
  exact ⟨[],[fnV f true],e,⟨rfl,rfl⟩,List.nodup_nil,by simp⟩
 ·exact Ax h hg hv
theorem N4.mono {g g':List Nat} {b:Nat} (h:N4 ι hp g b) (hs:∀ i∈g,i∈g'):N4 ι hp g' b:=by
 obtain ⟨i,e,h1,h2⟩:=h; exact ⟨i,e,hs i h1,h2⟩
def PK.reads:PK->Bool
 | .own _|.rw _|.mu _|.rcs _ _|.el _=>false
 | _=>true
theorem WH (h:HS B S ι s.hp w) {S1:Nat->Prop} (hS:∀ b,S b->S1 b) {k:PK} {v:AV} {x:k.den} {val:Value} {g m:List Nat} (hx:v.R5 s k=some (x,g,m)) (hv:VX w.heap S ι s.hp v [val])
  (hL:k.reads=true->∀ b,N4 ι s.hp v.I1 b->S1 b) :
  ∃ L,LQ w.heap S1 k val x L/\L.Nodup/\(∀ b∈L,N4 ι s.hp (g++m) b)/\∀ i∈m,∀ e,look i s.hp=some e->∀ b∈l7 ι i e,b∈L:=by
 cases k with
 | v t =>
  simp only [AV.R5] at hx;split at hx
  ·rename_i y hy; cases hx
   obtain ⟨cs,e,hR⟩:=NZ h hy hv hS (hL rfl);exact ⟨[],⟨rfl,cs,e,hR⟩,List.nodup_nil,by simp,by simp⟩
  ·cases hx
 | rd t =>
  simp only [AV.R5] at hx;split at hx
  ·rename_i y hy; cases hx
   exact ⟨[],⟨rfl,Ik h hy hv hS (hL rfl)⟩,List.nodup_nil,by simp,by simp⟩
  ·cases hx
 | D3 f ts =>
  cases v<;>simp only [AV.R5] at hx<;>first|cases hx|skip
  rename_i f' l;cases hb:Nat.beq f f' with
  | false=>rw [hb] at hx; cases hx
  | true =>
   rw [hb] at hx;simp only at hx;have tp:=Nat.eq_of_beq_eq_true hb;split at hx
   ·rename_i y hy; cases hx
    obtain ⟨us,e,se⟩:=hv;exact ⟨[],⟨rfl,us,by simpa [tp] using e,Pw h hS hy se (λ b hb=>hL rfl b hb)⟩,List.nodup_nil,by simp,by simp⟩
   ·cases hx
 | rcs f n=>simp only [AV.R5] at hx; cases hx
 | el q=>simp only [AV.R5] at hx; cases hx
 | W3 =>
  simp only [AV.R5] at hx;split at hx
  ·cases hx
   exact ⟨[],⟨rfl,by simpa using (show [val]=[Value.slice none 0 0] from hv)⟩,List.nodup_nil,by simp,by simp⟩
  ·cases hx
 | own t =>
  simp only [AV.R5] at hx;split at hx
  ·split at hx
   ·rename_i y hy; cases hx
    obtain ⟨cs,e,hR⟩:=HN hy hv;exact ⟨[],⟨cs,e,hR.w6 (λ _ _=>rfl) hS⟩,List.nodup_nil,by simp,by simp⟩
   ·cases hx
  ·split at hx
   ·rename_i u y l hg
    split at hx
    ·rename_i hu; subst hu; cases hx
     obtain ⟨O,cs,e,hR,aN,hO⟩:=Fb h hg hv;exact ⟨O,⟨cs,e,hR.w6 (λ _ _=>rfl) hS⟩,aN,λ b hb=>(hO b hb).mono (by simp),by simp⟩
    ·cases hx
   ·cases hx
 | rw t =>
  simp only [AV.R5] at hx;split at hx
  ·rename_i i
   split at hx
   ·rename_i u y aX
    split at hx
    ·rename_i hu; subst hu; cases hx
     obtain ⟨e,b,off,h1,h2,h3,h4⟩:=hv;obtain rfl:=wN h1 aX;obtain ⟨⟨O,hO,hR⟩,hf,aN⟩:=h.ob i _ h1;have hl:(ι.root i).1=b/\(ι.root i).2=off:=by
      have:=(D4 h3).1;simp only [Place,C3,VR,Option.some.injEq,Prod.mk.injEq] at this;exact this
     obtain ⟨rfl,rfl⟩:=hl;refine ⟨(ι.root i).1::O,⟨_,_,O,by simpa using h4,hR.w6 (λ _ _=>rfl) hS,hf,rfl⟩,?_,?_,?_⟩
     ·exact ((hO.cons _).nodup_iff).2 aN
     ·intro c hc
      refine ⟨i,_,by simp,h1,?_⟩;simp only [l7];exact ((hO.cons _).mem_iff).1 hc
     ·intro j hj e' eG c hc
      simp only [List.mem_cons,List.not_mem_nil,or_false] at hj;subst hj;rw [h1] at eG; cases eG;exact ((hO.cons _).mem_iff).2 hc
    ·cases hx
   ·cases hx
  ·cases hx
 | mu t =>
  simp only [AV.R5] at hx;split at hx
  ·rename_i i
   split at hx
   ·rename_i u y aX
    split at hx
    ·rename_i hu; subst hu; cases hx
     obtain ⟨e,u',y',cs,h1,h2,h3,h4,h5⟩:=hv;obtain rfl:=wN h1 aX;rw [C9] at h3; cases h3;obtain ⟨⟨O,hO,hR⟩,aN⟩:=h.ob i _ h1;have cI:=W2 h4 hR.length;have h5:val=s5 (.d8 true t) cs:=by simpa [i7.ty] using h5
     refine ⟨O,⟨cs,h5,by rw [cI]; exact hR.w6 (λ _ _=>rfl) hS⟩,(hO.nodup_iff).2 aN,?_,?_⟩
     ·intro c hc
      exact ⟨i,_,by simp,h1,hO.mem_iff.1 hc⟩
     ·intro j hj e' eG c hc
      simp only [List.mem_cons,List.not_mem_nil,or_false] at hj;subst hj;rw [h1] at eG; cases eG;exact hO.mem_iff.2 hc
    ·cases hx
   ·cases hx
  ·cases hx
end
end Go.Ex
namespace Go.Ex
section
variable {E:Env} {B:F3} {S S':Nat->Prop} {ι:Ix} {s:St} {a:Act} {w:World} {hp:List (Nat×i7)} {H H':Array Go.Obj}
theorem CT:∀ {l:List Nat},wI l=true->l.Nodup
 | [],_=>List.nodup_nil
 | a::l,h=>by
  simp only [wI,Bool.and_eq_true,Bool.not_eq_true'] at h;refine List.nodup_cons.2 ⟨λ hm=>?_,CT h.2⟩;have:=h.1;simp [hm] at this
theorem RJ:∀ {l m:List Nat},Dx l m=true->∀ i∈l,i∉m
 | [],_,_,i,hi=>by cases hi
 | a::l,m,h,i,hi=>by
  simp only [Dx,Bool.and_eq_true,Bool.not_eq_true'] at h;rcases List.mem_cons.1 hi with rfl|hi
  ·intro hm; have:=h.1; simp [hm] at this
  ·exact RJ h.2 i hi
theorem IY (h:HS B S ι s.hp w) {S1:Nat->Prop} (hS:∀ b,S b->S1 b):∀ {ks:List PK} {v:AV} {x:DK ks} {vs:List Value} {g m:List Nat},AV.vk s ks v=some (x,g,m)->VX w.heap S ι s.hp v vs->(g++m).Nodup ->
  (∀ b,N4 ι s.hp (T6.loose ks v) b->S1 b)->∃ L,V0 w.heap S1 ks vs x L/\L.Nodup/\(∀ b∈L,N4 ι s.hp (g++m) b)/\∀ i∈m,∀ e,look i s.hp=some e->∀ b∈l7 ι i e,b∈L
 | [],v,x,vs,g,m,hx,hv,_,_=>by
  cases v<;>simp only [AV.vk] at hx<;>first|cases hx|skip
  exact ⟨[],⟨hv,rfl⟩,List.nodup_nil,by simp,by simp⟩
 | k::ks,v,x,vs,g,m,hx,hv,aN,hL=>by
  cases v<;>simp only [AV.vk] at hx<;>first|cases hx|skip
  rename_i a b;split at hx
  ·rename_i x1 g1 m1 x2 g2 m2 h1 h2
   cases hx;obtain ⟨v,us,rfl,ha,hb⟩:=hv;have fq:∀ i,i∈g1++m1->i∉g2++m2:=by
    intro i hi cY;simp only [List.mem_append] at hi cY;have iz:=List.nodup_append.1 aN;have hg:=List.nodup_append.1 iz.1;have hm:=List.nodup_append.1 iz.2.1;rcases hi with hi|hi<;>rcases cY with cY|cY
    ·exact hg.2.2 i hi i cY rfl
    ·exact iz.2.2 i (by simp [hi]) i (by simp [cY]) rfl
    ·exact iz.2.2 i (by simp [cY]) i (by simp [hi]) rfl
    ·exact hm.2.2 i hi i cY rfl
   have de:(g2++m2).Nodup:=by
    have iz:=List.nodup_append.1 aN;have hg:=List.nodup_append.1 iz.1;have hm:=List.nodup_append.1 iz.2.1;exact List.nodup_append.2 ⟨hg.2.1,hm.2.1,λ i hi j hj=>iz.2.2 i (by simp [hi]) j (by simp [hj])⟩
   obtain ⟨L1,k1,k2,k3,k4⟩:=WH h hS h1 ha (λ hr c hc=>hL c (by
    obtain ⟨i,e,q1,q2⟩:=hc;refine ⟨i,e,?_,q2⟩;cases k<;>first|(show i∈a.I1++T6.loose ks b; exact List.mem_append_left _ q1)|(exfalso; simp [PK.reads] at hr; done)))
   obtain ⟨L2,n1,n2,n3,n4⟩:=IY h hS h2 hb de (λ c hc=>hL c (by
    obtain ⟨i,e,q1,q2⟩:=hc;refine ⟨i,e,?_,q2⟩;cases k<;>first|(show i∈a.I1++T6.loose ks b; exact List.mem_append_right _ q1)|(show i∈T6.loose ks b; exact q1)))
   refine ⟨L1++L2,⟨v,us,L1,L2,rfl,rfl,k1,n1⟩,List.nodup_append.2 ⟨k2,n2,?_⟩,?_,?_⟩
   ·rintro c hc d hd rfl
    obtain ⟨i,e,q1,q2,q3⟩:=k3 c hc;obtain ⟨j,e',r1,r2,r3⟩:=n3 c hd;have bS:i≠j:=by rintro rfl; exact fq i q1 r1
    exact h.dj i j e e' q2 r2 bS c q3 r3
   ·intro c hc
    rcases List.mem_append.1 hc with hc|hc
    ·exact (k3 c hc).mono (by simp; intro i hi; rcases hi with hi|hi<;>simp [hi])
    ·exact (n3 c hc).mono (by simp; intro i hi; rcases hi with hi|hi<;>simp [hi])
   ·intro i hi e he c hc
    rcases List.mem_append.1 hi with hi|hi
    ·exact List.mem_append_left _ (k4 i hi e he c hc)
    ·exact List.mem_append_right _ (n4 i hi e he c hc)
  ·cases hx
theorem Ck {s:St}:∀ {ks:List PK} {v:AV} {r:DK ks×List Nat×List Nat},AV.vk s ks v=some r->ks.any PK.lnk=false
 | [],_,_,_=>rfl
 | k::ks,v,r,hx=>by
  cases v<;>simp only [AV.vk] at hx<;>first|cases hx|skip
  split at hx
  ·rename_i x1 g1 m1 x2 g2 m2 h1 h2
   rw [List.any_cons,Ck h2,Bool.or_false];cases k<;>first|rfl|(simp only [AV.R5] at h1; cases h1)
  ·cases hx
theorem i6.K2:∀ {t:Ty} {O:List Nat} {cs:List Value} {x:t.den},t.K2=true->i6 H S t O cs x->i6 H S' t O cs x:=by
 intro t
 induction t with
 | int k=>intro O cs x _ h; exact h
 | bool=>intro O cs x _ h; exact h
 | str=>intro O cs x _ h; exact h
 | unit=>intro O cs x _ h; exact h
 | fn f=>intro O cs x _ h; exact h
 | hole t _=>intro O cs x _ h; exact h
 | C6 t _=>intro O cs x hn; cases hn
 | map o k v ihk ihv =>
  rintro O cs x hn h;simp only [Ty.K2,Bool.and_eq_true] at hn;rcases h with h|⟨l,b,es,ck,h0,h2,h3,h4,h5⟩
  ·exact .inl h
  refine .inr ⟨l,b,es,ck,h0,h2,h3,h4.mono (λ _ _ h=>ihk hn.1.2 h) (λ _ _ h=>ihv hn.2 h),?_⟩;rw [hn.1.1] at h5 ⊢;exact h5
 | box o g t ih =>
  rintro O cs x hn h;simp only [Ty.K2,Bool.and_eq_true] at hn;rcases h with h|⟨y,b,off,O',h0,h1,h2,h3,h4⟩
  ·exact .inl h
  refine .inr ⟨y,b,off,O',h0,h1,h2,ih hn.2 h3,?_⟩;rw [hn.1] at h4 ⊢;exact h4
 | pair a c iha ihc =>
  rintro O cs x hn ⟨O1,O2,e,h1,h2⟩;simp only [Ty.K2,Bool.and_eq_true] at hn;exact ⟨O1,O2,e,iha hn.1 h1,ihc hn.2 h2⟩
 | arr n t ih =>
  rintro O cs x hn ⟨h1,h2⟩;exact ⟨h1,j6.mono (L:=O) (λ _ h=>h) (λ _ _ _ _ h=>ih hn h) h2⟩
 | d8 o t ih =>
  rintro O cs x hn h;simp only [Ty.K2,Bool.and_eq_true] at hn;rcases h with h|⟨b,off,cap,O',c1,c2,c3,c4,c5,c6⟩
  ·exact .inl h
  ·rw [hn.1] at c6
   refine .inr ⟨b,off,cap,O',c1,c2,c3,c4,j6.mono (L:=O') (λ _ h=>h) (λ _ _ _ _ h=>ih hn.2 h) c5,?_⟩;rw [hn.1]; exact c6
theorem M4.mono {T:Nat->Prop}:∀ {ts:List Ty} {O:List Nat} {vs:List Value} {x:DL ts},M4 H S ts O vs x->(∀ b,S b->T b)->M4 H T ts O vs x
 | [],_,_,_,h,_=>h
 | _::_,_,_,_,⟨v,us,O1,O2,cs,e1,e2,e3,h1,h2⟩,hT=>⟨v,us,O1,O2,cs,e1,e2,e3,h1.w6 (λ _ _=>rfl) hT,M4.mono h2 hT⟩
theorem M4.K2:∀ {ts:List Ty} {O:List Nat} {vs:List Value} {x:DL ts},ts.all Ty.K2=true->M4 H S ts O vs x->M4 H S' ts O vs x
 | [],_,_,_,_,h=>h
 | t::ts,_,_,_,hn,⟨v,us,O1,O2,cs,e1,e2,e3,h1,h2⟩=>by
  simp only [List.all_cons,Bool.and_eq_true] at hn;exact ⟨v,us,O1,O2,cs,e1,e2,e3,h1.K2 hn.1,M4.K2 hn.2 h2⟩
theorem H3.K2:∀ {ks:List PK} {vs:List Value} {y:DL (F6 ks)} {L:List Nat},(F6 ks).all Ty.K2=true->H3 H S ks vs y L->H3 H S' ks vs y L
 | [],_,_,_,_,h=>h
 | .rw t::ks,_,_,_,hn,⟨b,off,O,us,L',e1,e2,e3,e4,e5⟩=>by
  simp only [F6,List.all_cons,Bool.and_eq_true] at hn;exact ⟨b,off,O,us,L',e1,e2.K2 hn.1,e3,e4,H3.K2 hn.2 e5⟩
 | .mu t::ks,_,_,_,hn,⟨cs,O,us,L',e1,e1',e2,e4,e5⟩=>by
  simp only [F6,List.all_cons,Bool.and_eq_true] at hn;exact ⟨cs,O,us,L',e1,e1',e2.K2 hn.1,e4,H3.K2 hn.2 e5⟩
 | .v _::ks,_,_,_,hn,⟨v,us,e,h⟩=>⟨v,us,e,H3.K2 (ks:=ks) hn h⟩
 | .rd _::ks,_,_,_,hn,⟨v,us,e,h⟩=>⟨v,us,e,H3.K2 (ks:=ks) hn h⟩
 | .D3 _ _::ks,_,_,_,hn,⟨v,us,e,h⟩=>⟨v,us,e,H3.K2 (ks:=ks) hn h⟩
 | .W3::ks,_,_,_,hn,⟨v,us,e,h⟩=>⟨v,us,e,H3.K2 (ks:=ks) hn h⟩
 | .rcs _ _::ks,_,_,_,hn,⟨v,us,e,h⟩=>⟨v,us,e,H3.K2 (ks:=ks) hn h⟩
 | .el _::ks,_,_,_,hn,⟨v,us,e,h⟩=>⟨v,us,e,H3.K2 (ks:=ks) hn h⟩
 | .own _::ks,_,_,_,hn,⟨v,us,e,h⟩=>⟨v,us,e,H3.K2 (ks:=ks) hn h⟩
theorem WW:∀ {t:Ty} {p:List Step} {b off:Nat} {G G':Array Go.Obj},xt p=true->C2 G t p b off=C2 G' t p b off:=by
 intro t
 induction t with
 | pair a c iha ihc =>
  intro p b off G G' h
  match p,h with
  | [],_=>rfl
  | .l8 0::p,h=>exact iha h
  | .l8 (n+1)::p,h=>exact ihc (p:=.l8 n::p) h
  | .idx i::p,h=>cases h
 | d8 o t ih =>
  intro p b off G G' h
  match p,h with
  | [],_=>rw [C3,C3]
  | .l8 i::p,_=>cases o<;>simp [C2]
  | .idx i::p,h=>cases h
 | _ =>
  intro p b off G G' h
  match p,h with
  | [],_=>rw [C3,C3]
  | .l8 i::p,_=>simp [C2]
  | .idx i::p,h=>cases h
theorem Wx:∀ {t:Ty} {p:List Step} {x y:t.den},xt p=true->B8 t x p->B8 t y p:=by
 intro t
 induction t with
 | pair a c iha ihc =>
  intro p x y h ho
  match p,h,ho with
  | [],_,_=>trivial
  | .l8 0::p,h,ho=>exact iha (x:=x.1) h ho
  | .l8 (n+1)::p,h,ho=>exact ihc (p:=.l8 n::p) (x:=x.2) h ho
  | .idx i::p,h,_=>cases h
 | d8 o t ih =>
  intro p x y h ho
  match p,h,ho with
  | [],_,_=>exact O6
  | .l8 i::p,_,ho=>cases o<;>simp [B8] at ho
  | .idx i::p,h,_=>cases h
 | _ =>
  intro p x y h ho
  match p,h,ho with
  | [],_,_=>exact O6
  | .l8 i::p,_,ho=>simp [B8] at ho
  | .idx i::p,h,_=>cases h
def By (e e':i7):Prop:=(∃ t x x',e=.var t x/\e'=.var t x')\/(∃ t x x',e=.own (.d8 true t) x/\e'=.own (.d8 true t) x')\/(∃ o k v x x',e=.own (.map o k v) x/\e'=.own (.map o k v) x')
theorem RS.renew (h:RS B S ι s a w) {i:Nat} {e e':i7} (he:look i s.hp=some e) (eU:By e e') {F:List Nat} (hF:G5 B S ι s.hp w F) {L:List Nat} {w':World} (k:F9 L w w') (uc:∀ b∈L,b∈l7 ι i e\/b∈F) (hS:∀ b,S b->S' b)
  (iZ:∀ b,S' b->S b\/((w.heap.size<=b\/b∈L)/\b<w'.heap.size)) {O':List Nat} (aX:OB w'.heap S' (ι.D8 i O') i e') (gU:∀ c∈l7 (ι.D8 i O') i e',¬ S' c/\(w.heap.size<=c\/c∈L)/\c<w'.heap.size) :
  RS B S' (ι.D8 i O') ((s.Z9 i e.vu).y9 i e') a w':=by
 have cL:e≠.M3:=by rcases eU with ⟨_,_,_,h,_⟩|⟨_,_,_,h,_⟩|⟨_,_,_,_,_,h,_⟩<;>(rw [h]; intro h; cases h)
 have eX:∀ b∈L,¬ S b/\(B.w0.heap.size<=b\/B.M b)/\b<w.heap.size/\∀ j ej,j≠i->look j s.hp=some ej->b∉l7 ι j ej:=by
  intro b hb;rcases uc b hb with h1|h1
  ·obtain ⟨q1,q2,q3⟩:=h.hs.bl i e he b h1
   exact ⟨q1,q2,q3,λ j ej hj du=>h.hs.dj i j e ej he du (Ne.symm hj) b h1⟩
  ·obtain ⟨q1,q2,q3,q4⟩:=hF.2 b h1
   exact ⟨q1,q2,q3,λ j ej _ du=>q4 j ej du⟩
 have hold:∀ {b:Nat},((∃ j ej,j≠i/\look j s.hp=some ej/\b∈l7 ι j ej)\/S b)->w'.heap[b]?=w.heap[b]?:=by
  intro b hb;refine k.frame b (hb.elim (λ⟨j,ej,_,h1,h2⟩=>(h.hs.bl j ej h1 b h2).2.2) (h.hs.slt b)) (λ oH=>?_);obtain ⟨q1,_,_,q4⟩:=eX b oH;rcases hb with ⟨j,ej,h0,h1,h2⟩|hb
  ·exact q4 j ej h0 h1 h2
  ·exact q1 hb
 have dO:∀ c∈l7 (ι.D8 i O') i e',(¬ S' c/\(B.w0.heap.size<=c\/B.M c)/\c<w'.heap.size)/\∀ j ej,j≠i->look j s.hp=some ej->c∉l7 ι j ej:=by
  intro c hc;obtain ⟨q1,q2,q3⟩:=gU c hc;rcases q2 with q2|q2
  ·exact ⟨⟨q1,.inl (Nat.le_trans h.hs.size q2),q3⟩,λ j ej _ du cD=>by have:=(h.hs.bl j ej du c cD).2.2; omega⟩
  ·obtain ⟨r1,r2,r3,r4⟩:=eX c q2
   exact ⟨⟨q1,r2,q3⟩,r4⟩
 have bo:∀ j,j≠i->F8 ι (ι.D8 i O') j:=λ j hj=>X7 hj _;have qW:HS B S' (ι.D8 i O') (Ex.put i e' s.hp) w':=by
  refine ⟨k.os.trans h.hs.os,k.tape.trans h.hs.tape,k.out.trans h.hs.out,Nat.le_trans h.hs.size k.size,?_,?_,λ b hb=>hS b (h.hs.s0 b hb),?_,?_,?_,?_,?_⟩
  ·intro c hc hm
   rw [k.frame c (Nat.lt_of_lt_of_le hc h.hs.size) (λ qB=>by rcases (eX c qB).2.1 with h1|h1; omega; exact hm h1)];exact h.hs.frame c hc hm
  ·intro b hb
   rcases iZ b hb with h1|h1
   ·exact Nat.lt_of_lt_of_le (h.hs.slt b h1) k.size
   ·exact h1.2
  ·intro b hb
   rcases iZ b hb with h1|h1
   ·exact h.hs.s1 b h1
   ·rcases h1.1 with h2|h2
    ·exact .inr (.inl (Nat.le_trans h.hs.size h2))
    ·exact .inr (eX b h2).2.1
  ·intro j ej hj
   rw [o7] at hj;by_cases e1:j=i
   ·subst e1; rw [if_pos rfl] at hj; cases hj; exact aX
   ·rw [if_neg e1] at hj
    exact (bo j e1).ob.2 ((h.hs.ob j ej hj).w6 (λ b hb=>hold (hb.imp (λ hb=>⟨j,ej,e1,hj,hb⟩) id)) hS)
  ·intro j ej hj c hc
   rw [o7] at hj;by_cases e1:j=i
   ·subst e1; rw [if_pos rfl] at hj; cases hj; exact (dO c hc).1
   ·rw [if_neg e1] at hj
    rw [(bo j e1).l7] at hc;obtain ⟨q1,q2,q3⟩:=h.hs.bl j ej hj c hc;refine ⟨λ hs=>?_,q2,Nat.lt_of_lt_of_le q3 k.size⟩;rcases iZ c hs with h1|⟨h1|h1,_⟩
    ·exact q1 h1
    ·omega
    ·exact (eX c h1).2.2.2 j ej e1 hj hc
  ·intro j l ej el hj hl iR c hc
   rw [o7] at hj hl;by_cases e1:j=i
   ·subst e1
    rw [if_pos rfl] at hj; cases hj;rw [if_neg (Ne.symm iR)] at hl;rw [(bo l (Ne.symm iR)).l7];exact (dO c hc).2 l el (Ne.symm iR) hl
   ·rw [if_neg e1] at hj
    rw [(bo j e1).l7] at hc;by_cases e2:l=i
    ·subst e2
     rw [if_pos rfl] at hl; cases hl;exact λ cZ=>(dO c cZ).2 j ej e1 hj hc
    ·rw [if_neg e2] at hl
     rw [(bo l e2).l7];exact h.hs.dj j l ej el hj hl iR c hc
  ·intro q hq
   obtain ⟨k0,⟨e1,k1⟩,k2,k3⟩:=h.hs.pin q hq;refine ⟨k0,?_,k2,k3⟩;rw [o7];by_cases e2:q.1=i
   ·exact ⟨_,by rw [if_pos e2]⟩
   ·exact ⟨e1,by rw [if_neg e2]; exact k1⟩
 refine ⟨qW,h.dfr,h.sz,?_⟩;intro t v hv;simp only [St.y9,St.Z9,P9,Option.map_eq_some_iff] at hv;obtain ⟨v0,fh,rfl⟩:=hv;refine VX.map (λ c hc=>hold (.inr hc)) hS (λ v vs hr hm dB=>?_) (h.fr t v0 fh);unfold AV.xI;have cH:=VX.one hr dB;cases ca:v.j5 i with
 | false =>
  have bG:∀ j,v.j5 j=true->j≠i:=by rintro j hj rfl; rw [ca] at hj; cases hj
  have bP:VX w'.heap S' ι (del i s.hp) v vs:=by
   refine VX.grow (λ c eg=>hold ?_) hS h.hs.slt (λ j ej hj=>?_) (VX.other (cK:=del i s.hp) (λ j hj=>by rw [M1,if_neg (bG j hj)]) (λ j _=>F8.refl ι j) dB)
   ·rcases eg with ⟨j,ej,hj,hY⟩|eg
    ·rw [M1] at hj
     split at hj
     ·cases hj
     ·rename_i dN
      exact .inl ⟨j,ej,dN,hj,hY⟩
    ·exact .inr eg
   ·rw [M1] at hj
    split at hj
    ·cases hj
    ·exact h.hs.ob j ej hj
  exact VX.other (λ j hj=>by simp only [St.y9,o7,M1,if_neg (bG j hj)]; rfl) (λ j hj=>bo j (bG j hj)) bP
 | true =>
  simp only;cases v<;>simp only [AV.ref] at hr<;>try cases hr
  ·rename_i j q
   have dN:i=j:=Nat.eq_of_beq_eq_true ca;subst dN;cases fI:xt q with
   | false=>simp only [fI]; exact cH
   | true =>
    simp only [fI];obtain ⟨ej,b2,off2,k1,k2,k3,k4⟩:=dB;rw [he] at k1; cases k1;rcases eU with ⟨t0,x0,x1,rfl,rfl⟩|⟨t0,x0,x1,rfl,rfl⟩|⟨o0,k0,v0,x0,x1,rfl,rfl⟩
    ·obtain ⟨p1,p2⟩:=D4 k3
     refine ⟨.var t0 x1,b2,off2,by simp [St.y9,o7],Wx fI k2,wi ?_ (Nat.lt_of_lt_of_le p2 k.size),k4⟩;simp only [Place,VR,VH,Ix.D8,i7.ty] at p1 ⊢;rw [WW (G':=w.heap) fI]; exact p1
    ·exfalso
     obtain ⟨p1,p2⟩:=D4 k3;cases q with
     | nil =>
      simp only [Place,C3,VR,Option.some.injEq,Prod.mk.injEq] at p1;omega
     | cons st q =>
      cases st with
      | l8 n=>have k2:B8 (.d8 true t0) x0 (.l8 n::q):=k2; simp [B8] at k2
      | idx n=>cases fI
    ·exfalso
     obtain ⟨p1,p2⟩:=D4 k3;cases q with
     | nil =>
      simp only [Place,C3,VR,Option.some.injEq,Prod.mk.injEq] at p1;omega
     | cons st q =>
      cases st with
      | l8 n=>have k2:B8 (.map o0 k0 v0) x0 (.l8 n::q):=k2; simp [B8] at k2
      | idx n=>cases fI
  ·rename_i j q
   have dN:i=j:=Nat.eq_of_beq_eq_true ca;subst dN;cases q with
   | cons st q=>exact cH
   | nil =>
    rcases eU with ⟨t0,x0,x1,rfl,rfl⟩|⟨t0,x0,x1,rfl,rfl⟩|⟨o0,k0,v0,x0,x1,rfl,rfl⟩
    ·exact cH
    ·obtain ⟨ej,u2,y2,cs2,k1,k2,k3,k4,k5⟩:=dB
     rw [he] at k1; cases k1;rw [C9] at k3; cases k3;obtain ⟨⟨O1,_,jT⟩,_⟩:=h.hs.ob i _ he;have dZ:=W2 k4 jT.length;exact ⟨.own (.d8 true t0) x1,.d8 true t0,x1,cs2,by simp [St.y9,o7],O6,C9,AI (show ι.cells i=cs2 from dZ.symm) (by rw [dZ]; exact jT.length),k5⟩
    ·obtain ⟨ej,u2,y2,cs2,k1,k2,k3,k4,k5⟩:=dB
     rw [he] at k1; cases k1;rw [C9] at k3; cases k3;obtain ⟨⟨O1,_,jT⟩,_⟩:=h.hs.ob i _ he;have dZ:=W2 k4 jT.length;exact ⟨.own (.map o0 k0 v0) x1,.map o0 k0 v0,x1,cs2,by simp [St.y9,o7],O6,C9,AI (show ι.cells i=cs2 from dZ.symm) (by rw [dZ]; exact jT.length),k5⟩
  ·rename_i j q lo hi
   have dN:i=j:=Nat.eq_of_beq_eq_true ca;subst dN;cases q with
   | cons st q=>exact cH
   | nil =>
    rcases eU with ⟨t0,x0,x1,rfl,rfl⟩|⟨t0,x0,x1,rfl,rfl⟩|⟨o0,k0,v0,x0,x1,rfl,rfl⟩
    ·exact cH
    ·obtain ⟨ej,v2,k1,k2,k3,k4,k5,k6⟩:=dB
     rw [he] at k1; cases k1;obtain ⟨⟨O1,_,jT⟩,_⟩:=h.hs.ob i _ he;rcases k6 with ⟨t',l,a',cap,g1,g2,g3,g4⟩|⟨n,t',l,b2,off2,g1,g2,g3,g4⟩
     ·have g1:j9 (.d8 true t0) x0 []=some ⟨.d8 true t',l⟩:=g1
      rw [C9] at g1; cases g1;have dZ:=W2 g3 jT.length;have hlen:List.length x1=List.length x0:=by
       obtain ⟨⟨O'',_,ja⟩,_⟩:=aX;have cZ:(ι.D8 i O').cells i=[.slice a' (List.length x0) cap]:=(show ι.cells i=_ from dZ.symm);rw [cZ] at ja;rcases ja with ⟨_,⟨a2,c2,h1,_⟩,h3⟩|⟨b3,o3,cap3,O3,c1,_⟩
       ·simp only [List.cons.injEq,Value.slice.injEq,and_true] at h1
        subst h3;simp [h1.2.1]
       ·simp only [List.cons.injEq,Value.slice.injEq,and_true] at c1
        exact c1.2.1.symm
      refine ⟨.own (.d8 true t0) x1,v2,by simp [St.y9,o7],O6,k3,k4,k5,.inl ⟨t0,x1,a',cap,C9,by rw [hlen]; exact g2,?_,g4⟩⟩;rw [hlen];exact AI (show ι.cells i=_ from dZ.symm) rfl
     ·exfalso
      simp only [Loc,Place,C3,VR] at g3;simp at g3
    ·exfalso
     obtain ⟨ej,v2,k1,k2,k3,k4,k5,k6⟩:=dB;rw [he] at k1; cases k1;rcases k6 with ⟨t',l,a',cap,g1,_⟩|⟨n,t',l,b2,off2,g1,_⟩
     ·have g1:j9 (.map o0 k0 v0) x0 []=some ⟨.d8 true t',l⟩:=g1
      rw [C9] at g1; cases g1
     ·have g1:j9 (.map o0 k0 v0) x0 []=some ⟨.arr n t',l⟩:=g1
      rw [C9] at g1; cases g1
end
end Go.Ex
