import Derived.Test.YtekbamiaenbhjaaExK2
import Derived.Laws.IdiomCopy
import Derived.Laws.Strings
import Derived.Laws.CopyRow

namespace Go.Ex

/-! ### contracts: what they say -/
section
variable (H:Array Go.Obj) (S:Nat→Prop)
def b3U (t:Ty) (v:Value) (x:t.den):Prop :=
 ∃ b off,v=.pointer (some ⟨b,off,none⟩)∧S b∧off+t.size≤(o6 H b).length∧d9 H S t [] (d8 H b off t.size) x

def RdL:(ts:List Ty)→List Value→DL ts→Prop
 | [],vs,_=>vs=[]
 | t::ts,vs,x=>∃ v us,vs=v::us∧b3U H S t v x.1∧RdL ts us x.2

def b7U:(k:PK)→Value→k.den→List Nat→Prop
 | .v t,v,x,L=>L=[]∧∃ cs,v=j7 t cs∧d9 H S t [] cs x
 | .rd t,v,x,L=>L=[]∧b3U H S t v x
 | .y7 f ts,v,x,L=>L=[]∧∃ us,v=.func (.func f) #[] us.toArray∧RdL H S ts us x
 | .own t,v,x,L=>∃ cs,v=j7 t cs∧d9 H S t L cs x
 | .rw t,v,x,L=>∃ b off O,v=.pointer (some ⟨b,off,none⟩)∧d9 H S t O (d8 H b off t.size) x∧I2 H b (off+t.size)∧L=b::O
 | .mu t,v,x,L=>∃ cs,v=j7 (.d0 true t) cs∧d9 H S (.d0 true t) L cs x
 | .L5,v,_,L=>L=[]∧v=.slice none 0 0
 | .R8 _ _,_,_,L=>L=[]
 | .el _,_,_,L=>L=[]

def I6:(ks:List PK)→List Value→DK ks→List Nat→Prop
 | [],vs,_,L=>vs=[]∧L=[]
 | k::ks,vs,x,L=>∃ v us L1 L2,vs=v::us∧L=L1++L2∧b7U H S k v x.1 L1∧I6 ks us x.2 L2

def H3:(ts:List Ty)→List Nat→List Value→DL ts→Prop
 | [],O,vs,_=>O=[]∧vs=[]
 | t::ts,O,vs,x=>∃ v us O1 O2 cs,vs=v::us∧O=O1++O2∧v=j7 t cs∧d9 H S t O1 cs x.1∧H3 ts O2 us x.2

def C0:(ks:List PK)→List Value→DL (u6 ks)→List Nat→Prop
 | [],vs,_,L=>vs=[]∧L=[]
 | .rw t::ks,vs,y,L=>∃ b off O us L',vs=.pointer (some ⟨b,off,none⟩)::us∧d9 H S t O (d8 H b off t.size) y.1∧I2 H b (off+t.size)∧L=(b::O)++L'∧C0 ks us y.2 L'
 | .mu t::ks,vs,y,L=>∃ cs O us L',vs=j7 (.d0 true t) cs::us∧cs.length=1∧d9 H S (.d0 true t) O cs y.1∧L=O++L'∧C0 ks us y.2 L'
 | .v _::ks,vs,y,L=>∃ v us,vs=v::us∧C0 ks us y L
 | .rd _::ks,vs,y,L=>∃ v us,vs=v::us∧C0 ks us y L
 | .y7 _ _::ks,vs,y,L=>∃ v us,vs=v::us∧C0 ks us y L
 | .own _::ks,vs,y,L=>∃ v us,vs=v::us∧C0 ks us y L
 | .L5::ks,vs,y,L=>∃ v us,vs=v::us∧C0 ks us y L
 | .R8 _ _::ks,vs,y,L=>∃ v us,vs=v::us∧C0 ks us y L
 | .el _::ks,vs,y,L=>∃ v us,vs=v::us∧C0 ks us y L

def M0:(ks:List PK)→Option (Sigma Ty.den)→List Value→List Value→DK ks→Prop
 | [],_,_,_,_=>True
 | .R8 f n::ks,_,pre,vs,x=>(∃ us b off,vs=Value.pointer (some ⟨b,off,none⟩)::us∧S b∧off+1≤(o6 H b).length∧d8 H b off 1=[.func (.func f) #[] ((pre.take n).reverse++[Value.pointer (some ⟨b,off,none⟩)]).toArray]∧n≤pre.length) ∧
   M0 ks none (vs.take 1++pre) (vs.drop 1) x.2
 | .el q::ks,c,pre,vs,x=>(∃ t y b0 off0 pre' b off us,c=some ⟨t,y⟩∧pre=Value.pointer (some ⟨b0,off0,none⟩)::pre'∧vs=Value.pointer (some ⟨b,off,none⟩)::us∧s6 t y (q++[.idx x.1])∧s9 H t (q++[.idx x.1]) b0 off0=some (b,off)∧b<H.size) ∧
   M0 ks none (vs.take 1++pre) (vs.drop 1) x.2
 | .rw t::ks,_,pre,vs,x=>M0 ks (some ⟨t,x.1⟩) (vs.take 1++pre) (vs.drop 1) x.2
 | .v _::ks,_,pre,vs,x=>M0 ks none (vs.take 1++pre) (vs.drop 1) x.2
 | .rd _::ks,_,pre,vs,x=>M0 ks none (vs.take 1++pre) (vs.drop 1) x.2
 | .y7 _ _::ks,_,pre,vs,x=>M0 ks none (vs.take 1++pre) (vs.drop 1) x.2
 | .own _::ks,_,pre,vs,x=>M0 ks none (vs.take 1++pre) (vs.drop 1) x.2
 | .mu _::ks,_,pre,vs,x=>M0 ks none (vs.take 1++pre) (vs.drop 1) x.2
 | .L5::ks,_,pre,vs,x=>M0 ks none (vs.take 1++pre) (vs.drop 1) x.2
end

def PK.lnk:PK→Bool
 | .R8 _ _|.el _=>true
 | _=>false

theorem a0a {H:Array Go.Obj} {S:Nat→Prop}:∀ {ks:List PK} {c:Option (Sigma Ty.den)} {pre vs:List Value} {x:DK ks},ks.any PK.lnk=false→M0 H S ks c pre vs x
 | [],_,_,_,_,_=>trivial
 | k::ks,c,pre,vs,x,h=>by
  rw [List.any_cons,Bool.or_eq_false_iff] at h
  cases k<;>first|(exfalso; simp [PK.lnk] at h; done)|exact a0a (ks:=ks) h.2

def a18:List Value→Value
 | [v]=>v
 | us=>.tuple us.toArray

structure w8 (L:List Nat) (w w':World):Prop where
 os:w'.os=w.os
 tape:K3 w w'
 out:w'.output=w.output
 size:w.heap.size≤w'.heap.size
 frame:∀ c,c<w.heap.size→c∉L→w'.heap[c]?=w.heap[c]?

def a0V (w:World) (S:Nat→Prop) (rs:List Ty) (ps:List PK) (vs:List Value) (L:List Nat) (y:DL rs) (z:DL (u6 ps)) (e:Ending) (w':World):Prop :=
 ∃ us O Lo S',e=.returned (a18 us)∧w8 L w w'∧(∀ b,S b→S' b)∧(∀ b,S' b→S b∨(w.heap.size≤b∧b<w'.heap.size)) ∧
  H3 w'.heap S' rs O us y∧C0 w'.heap S' ps vs z Lo∧(O++Lo).Nodup∧∀ b∈O++Lo,¬ S' b∧(w.heap.size≤b∨b∈L)∧b<w'.heap.size

/-! ### package-level variables that are only read -/
def a9O:List (String×(Array Value→Prop)) :=
 [("internal/strconv.uint64pow10",fun cs=>cs=(((List.range 20).map fun i=>((10^i:Nat):Int)).map fun z=>Value.int .u64 z).toArray),
 ("internal/bytealg.MaxLen",fun cs=>∃ m,cs[0]?=some (.int .i64 m))]

def Z4 (P:Program) (w:World) (S:Nat→Prop):Prop:=∀ x∈a9O,∀ g,P.globalNamed x.1=some g→S g∧∃ cs,w.var? P x.1=some cs∧x.2 cs

theorem Z4.mono {P:Program} {w w':World} {S S':Nat→Prop} (h:Z4 P w S) (hH:∀ b,S b→w'.heap[b]?=w.heap[b]?) (hS:∀ b,S b→S' b):Z4 P w' S':=by
 intro x hx g hg
 obtain ⟨h1,cs,h2,h3⟩:=h x hx g hg
 refine ⟨hS _ h1,cs,?_,h3⟩
 unfold World.var? at h2 ⊢
 rw [hg,Option.bind_some] at h2 ⊢
 rw [hH _ h1]
 exact h2

theorem Z4.sub {P:Program} {w:World} {S S':Nat→Prop} (h:Z4 P w S) (hS:∀ b,S b→S' b):Z4 P w S':=h.mono (fun _ _=>rfl) hS

theorem Z4.none {P:Program} {w:World} {S:Nat→Prop} (h:(a9O.all fun x=>(P.globalNamed x.1).isNone)=true):Z4 P w S:=by
 intro x hx g hg
 have:=List.all_eq_true.1 h x hx
 rw [hg] at this
 cases this

def GlB (P:Program) (B:y9):Prop:=Z4 P B.w0 B.S0∧∀ b,B.S0 b→b<B.w0.heap.size∧¬ B.M b

theorem GlB.at_ {P:Program} {B:y9} {S:Nat→Prop} {ι:Ix} {hp:List (Nat×f9)} {w:World} (h:GlB P B) (hs:HS B S ι hp w):Z4 P w S :=
 h.1.mono (fun b hb=>hs.frame b (h.2 b hb).1 (h.2 b hb).2) hs.s0

structure D4.Valid (P:Program) (f:FuncId) (c:D4):Prop where
 ent:∃ fn,P.funcs[f]?=some fn∧(fn.name == "runtime.NumGoroutine")=false∧fn.body.isNone=false
 run:∀ (w:World) (S:Nat→Prop) (vs:List Value) (x:DK c.ps) (L:List Nat),(∀ b,S b→b<w.heap.size)→Z4 P w S→c.pre x→I6 w.heap S c.ps vs x L→M0 w.heap S c.ps none [] vs x→L.Nodup→(∀ b∈L,¬ S b∧b<w.heap.size) →
  Calls P f vs.toArray w (a0V w S c.rs c.ps vs L (c.fn x) (c.out x))
 fresh:c.new=true→∀ (w:World) (S:Nat→Prop) (vs:List Value) (x:DK c.ps) (L:List Nat),(∀ b,S b→b<w.heap.size)→Z4 P w S→c.pre x→I6 w.heap S c.ps vs x L→M0 w.heap S c.ps none [] vs x→L.Nodup→(∀ b∈L,¬ S b∧b<w.heap.size) →
  Calls P f vs.toArray w (fun e w'=>∃ us O Lo S',e=.returned (a18 us)∧w8 L w w'∧(∀ b,S b→S' b)∧(∀ b,S' b→S b∨(w.heap.size≤b∧b<w'.heap.size)) ∧
   H3 w'.heap S' c.rs O us (c.fn x)∧C0 w'.heap S' c.ps vs (c.out x) Lo∧(O++Lo).Nodup∧(∀ b∈O++Lo,¬ S' b∧(w.heap.size≤b∨b∈L)∧b<w'.heap.size) ∧
   H3 w'.heap (fun b=>S' b∧w.heap.size≤b) c.rs O us (c.fn x))

def b5g (p:List Step):(ps:List PK)→DK ps→Prop
 | .rw t::_,x=>s6 t x.1 p
 | _,_=>True

def b0v (p:List Step) (H H':Array Go.Obj):(ps:List PK)→List Value→DL (u6 ps)→Prop
 | .rw t::_,vs,z=>(match vs with
  | .pointer (some ⟨b,off,none⟩)::_=>s6 t z.1 p∧s9 H' t p b off=s9 H t p b off
  | _=>True)
 | _,_,_=>True

def D4.Kept (P:Program) (f:FuncId) (c:D4) (pat:List (Option Nat)):Prop :=
 ∀ (w:World) (S:Nat→Prop) (vs:List Value) (x:DK c.ps) (L:List Nat),(∀ b,S b→b<w.heap.size)→Z4 P w S→c.pre x→I6 w.heap S c.ps vs x L→M0 w.heap S c.ps none [] vs x→L.Nodup→(∀ b∈L,¬ S b∧b<w.heap.size) →
  ∀ p,pm pat p=true→b5g p c.ps x→Calls P f vs.toArray w (fun e w'=>a0V w S c.rs c.ps vs L (c.fn x) (c.out x) e w'∧b0v p w.heap w'.heap c.ps vs (c.out x))

structure H8 (E:Env):Prop where
 tt:∀ T i,look T E.tt=some i→a52 E.P (T,i)=true
 G8:∀ f c,look f E.G8=some c→c.Valid E.P f
 kept:∀ f c pat,look f E.G8=some c→look f E.keeps=some pat→c.Kept E.P f pat

structure t7 (E:Env) (B:y9):Prop extends H8 E where
 gb:GlB E.P B

/-! ### the state, step by step -/
section
variable {E:Env} {B:y9} {S:Nat→Prop} {ι:Ix} {s:St} {a:Act} {w:World}

theorem RS.get (h:RS B S ι s a w) (t:Nat):VX w.heap S ι s.hp (s.get t) [a.tmps.getD t (B.gd t)]:=by
 unfold St.get
 cases hl:look t s.fr with
 | none=>exact ⟨_,rfl⟩
 | some v=>exact h.fr t v hl

theorem VX.const (v:Value) {H:Array Go.Obj} {hp:List (Nat×f9)}:VX H S ι hp (ofConst v) [v]:=by
 unfold ofConst
 split
 ·rename_i k n
  split
  ·rename_i h; exact ⟨[.int k n],rfl,rfl,rfl,h⟩
  ·rfl
 ·rename_i b; exact ⟨[.bool b],rfl,rfl,rfl⟩
 ·rename_i s
  split
  ·rename_i h
   refine ⟨[.string s],rfl,rfl,?_,by simpa using h⟩
   simp
  ·rfl
 ·rfl

theorem RS.ev (h:RS B S ι s a w) (x:Operand):VX w.heap S ι s.hp (s.ev x) [a.eval x]:=by
 cases x with
 | tmp t =>
  show VX w.heap S ι s.hp (match Nat.beq t D9 with|true=>.any|false=>s.get t) [a.tmps.getD t undef]
  have:=h.get t
  unfold y9.gd at this
  cases hb:Nat.beq t D9 with
  | true=>exact ⟨_,rfl⟩
  | false=>rw [hb] at this; exact this
 | const v=>exact VX.const v
 | global g=>exact ⟨_,rfl⟩
 | func f=>exact ⟨[],by simp [Act.eval],rfl⟩

theorem RS.C8 (h:RS B S ι s a w):∀ l:List Operand,VX w.heap S ι s.hp (s.C8 l) (l.map a.eval)
 | []=>rfl
 | x::l=>⟨_,_,rfl,h.ev x,h.C8 l⟩

theorem RS.put (h:RS B S ι s a w) {d:Option Nat} (hd:x3 B.n d=true) {v:AV} {val:Value} (hv:VX w.heap S ι s.hp v [val]):RS B S ι (s.put d v) (a.put d val) w:=by
 cases d with
 | none=>exact h
 | some d =>
  have hlt:d<B.n:=by simpa [x3,Nat.blt_eq] using hd
  refine ⟨h.hs,h.W7,by simpa [Act.put] using h.sz,?_⟩
  intro t v' ht
  simp only [St.put,l7] at ht
  simp only [Act.put]
  by_cases e:t=d
  ·subst e
   rw [if_pos rfl] at ht; cases ht
   have:t<a.tmps.size:=by rw [h.sz]; exact hlt
   show VX w.heap S ι s.hp v [_]
   simpa [Array.getD,this,Array.getElem?_setIfInBounds] using hv
  ·rw [if_neg e] at ht
   have:=h.fr t v' ht
   show VX w.heap S ι s.hp v' [_]
   simpa [Array.getD_eq_getD_getElem?,Array.getElem?_setIfInBounds_ne (Ne.symm e)] using this

def s7 (P:Program) (B:y9) (o:Oper) (a:Act) (w:World) (v:AV) (s':St):Prop :=
 ∀ (next:Act→World→Prop) (Q:Exit→Act→World→Prop),
  (∀ S' ι' w' val,RS B S' ι' s' a w'→VX w'.heap S' ι' s'.hp v [val]→next (a.put o.dst val) w')→o.wp P a w next Q

theorem s7.value {P:Program} {o:Oper} {v:AV} {val:Value} (hr:(execOp a.eval o).run P w=.ok (.value val) w) (h:RS B S ι s a w) (hv:VX w.heap S ι s.hp v [val]) :
  s7 P B o a w v s:=by
 intro next Q hn
 unfold Oper.wp
 rw [hr]
 exact hn S ι w val h hv

theorem u7 (hE:t7 E B) {T:TypeId} {u:Ty} (h:D7 E T u=true):n7 E.P 100 T u=true:=by
 unfold D7 at h
 split at h
 ·rename_i i hi
  have h1:=hE.tt T i hi
  simp only [a52,Bool.and_eq_true] at h1
  exact b5m (a1Y (of_decide_eq_true h).symm (b5n h1.1))
 ·cases h

theorem w7 (hE:t7 E B) {T:TypeId} {i:TI} (h:look T E.tt=some i):n7 E.P 100 T i.ty=true:=by
 have h1:=hE.tt T i h
 simp only [a52,Bool.and_eq_true] at h1
 exact h1.1

/-! reading memory -/
theorem G2 {b off n:Nat} {j:Nat} {v:Value} (h:(d8 w.heap b off n)[j]?=some v):w.cell? ⟨b,off+j,none⟩=some v:=by
 simp only [d8,List.getElem?_take,List.getElem?_drop] at h
 split at h
 ·unfold o6 at h
  split at h
  ·rename_i arr T fz e
   simp [World.cell?,e] 
   simpa using h
  ·simp at h
 ·cases h

theorem Addr.B6 (b off n:Nat):(⟨b,off,none⟩:Addr).add n=⟨b,off+n,none⟩:=by
 unfold Addr.add
 split
 ·subst_vars; simp
 ·rfl

theorem X0 {P:Program} {T:TypeId} {t:Ty} {n:Nat} (ht:n7 P n T t=true) {b off:Nat} {O:List Nat} {x:t.den} (hR:d9 w.heap S t O (d8 w.heap b off t.size) x) :
  (loadVar T ⟨b,off,none⟩).run P w=.ok (j7 t (d8 w.heap b off t.size)) w:=by
 have hl:=hR.length
 simp only [loadVar,Sem.run_bind,a2B ht,Result.andThen]
 cases hg:t.agg with
 | true =>
  simp only [if_true,Sem.run_bind,run_sizeOf ht,Result.andThen]
  have:=run_loadCells_list (P:=P) w ⟨b,off,none⟩ (d8 w.heap b off t.size) (fun j v h=>by rw [Addr.B6]; exact G2 h)
  rw [hl] at this
  rw [this]
  simp [j7,hg]
 | false =>
  have h1:t.size=1:=by cases t<;>simp_all [Ty.agg,Ty.size]
  rw [h1] at hl ⊢
  match hc:d8 w.heap b off 1,hl with
  | [c],_ =>
   have:=G2 (w:=w) (b:=b) (off:=off) (n:=1) (j:=0) (v:=c) (by rw [hc]; rfl)
   simp only [Nat.add_zero] at this
   simp [run_load,this,j7,hg]

theorem C9 {P:Program} {o:Oper} {sem:Sem Value} {val:Value} {w':World} (h:execOp a.eval o=(do pure (.value (← sem)))) (hr:sem.run P w=.ok val w') :
  (execOp a.eval o).run P w=.ok (.value val) w':=by
 rw [h]; simp [hr]

theorem C6 {i:Nat} {e:f9} (h1:look i s.hp=some e) {p:List Step} {r:Sigma Ty.den} (h:s.part i p=some r):i6 e.ty e.x p=some r:=by
 unfold St.part St.obj at h
 rw [h1] at h
 exact h

theorem b2f (hE:t7 E B) {T:TypeId} (ht:b6q (look T E.tt)=true) {l:AV} {val:Value} (hv:VX w.heap S ι s.hp (.bx l) [val]) :
  ∃ u,(Instr.loadAt T val).run E.P w=.ok u w∧VX w.heap S ι s.hp l [u]:=by
 obtain ⟨b,off,u,e,hb,h1,h2,h3⟩:=hv
 refine ⟨u,?_,h3⟩
 obtain rfl:val=.pointer (some ⟨b,off,none⟩):=by simpa using e
 obtain ⟨t,hta,hag⟩:∃ t,n7 E.P 100 T t=true∧t.agg=false:=by
  cases hl:look T E.tt with
  | none=>rw [hl] at ht; cases ht
  | some i =>
   rw [hl] at ht
   refine ⟨i.ty,w7 hE hl,?_⟩
   obtain ⟨ty,n⟩:=i
   cases ty<;>first|rfl|cases ht
 have:=G2 (w:=w) (b:=b) (off:=off) (n:=1) (j:=0) (v:=u) (by rw [h2]; rfl)
 simp only [Nat.add_zero] at this
 simp [Instr.loadAt,Instr.sureAddr,loadVar,a2B hta,hag,run_load,this]

theorem b07 (hE:t7 E B) (h:RS B S ι s a w) {o:Oper} {T:TypeId} {x:Operand} (ho:o.op=.load T x) {v:AV} {s':St} (hl:K9 E T (s.ev x) s=.ok v s') :
  s7 E.P B o a w v s':=by
 have he:execOp a.eval o=(do pure (.value (← Instr.loadAt T (a.eval x)))):=by simp [execOp,ho]
 have hv:=h.ev x
 unfold K9 at hl
 split at hl
 ·rename_i t y hx
  rw [hx] at hv
  obtain ⟨b,off,e,hb,hr,hR⟩:=hv
  split at hl
  ·rename_i hc
   cases hl
   have e:a.eval x=.pointer (some ⟨b,off,none⟩):=by simpa using e
   refine s7.value (C9 he (w':=w) (val:=j7 t (d8 w.heap b off t.size)) ?_) h ⟨_,rfl,hR⟩
   rw [e]
   simp [Instr.loadAt,Instr.sureAddr,X0 (u7 hE hc) hR]
  ·cases hl
 ·rename_i l hx
  rw [hx] at hv
  split at hl
  ·rename_i ht
   cases hl
   obtain ⟨val,k1,k2⟩:=b2f (hE:=hE) ht hv
   exact s7.value (C9 he k1) h k2
  ·cases hl
 ·rename_i i p hx
  rw [hx] at hv
  obtain ⟨e,b,off,h1,h2,h3,h4⟩:=hv
  have h4:a.eval x=.pointer (some ⟨b,off,none⟩):=by simpa using h4
  split at hl
  ·rename_i u y hpt
   have hg:=C6 h1 hpt
   obtain ⟨O2,k1,k2,k3,k4,k5⟩:=F3 (E6 h3) (h.hs.ob i e h1) h.hs.slt h2 hg h3
   split at hl
   ·rename_i hc
    have hr:(Instr.loadAt T (a.eval x)).run E.P w=.ok (j7 u (d8 w.heap b off u.size)) w:=by
     rw [h4]; simp [Instr.loadAt,Instr.sureAddr,X0 (u7 hE hc) k3]
    split at hl
    ·rename_i hs
     cases hl
     have:=k3.F4 hs
     subst this
     exact s7.value (C9 he hr) h ⟨_,rfl,k3⟩
    ·cases hl
     have hp:=r9 h3
     exact s7.value (C9 he hr) h ⟨e,u,y,_,h1,h2,hg,⟨b,off,hp.1,(j6 (B7 hp.2) _ _).symm⟩,rfl⟩
   ·cases hl
  ·cases hl
 ·cases hl

/-! arithmetic -/
theorem W8 (k:IntKind) (n:Int):A4 k (k.wrap n):=by
 unfold A4 IntKind.wrap IntKind.min IntKind.max
 have h1:(0:Int)<2^k.bits:=by cases k<;>decide
 have h2:=Int.emod_nonneg n (b:=2^k.bits) (by omega)
 have h3:=Int.emod_lt_of_pos n h1
 cases k<;>simp [IntKind.signed,IntKind.bits] at*<;> (try split)<;>omega

theorem V2 {k:IntKind} {n:Int} (h:A4 k n):k.wrap n=n:=by
 unfold A4 IntKind.min IntKind.max at h
 unfold IntKind.wrap
 cases k<;>simp [IntKind.signed,IntKind.bits] at*<;> (try split)<;>omega

theorem VX.int {H:Array Go.Obj} {hp:List (Nat×f9)} {k:IntKind} {n:Int} (h:A4 k n):VX H S ι hp (.val (.int k) n) [.int k n]:=⟨[.int k n],rfl,rfl,rfl,h⟩
theorem VX.bool {H:Array Go.Obj} {hp:List (Nat×f9)} {b:Bool}:VX H S ι hp (.val .bool b) [.bool b]:=⟨[.bool b],rfl,rfl,rfl⟩
theorem VX.str {H:Array Go.Obj} {hp:List (Nat×f9)} {l:List UInt8} (h:l.length≤maxLen):VX H S ι hp (.val .str l) [.string ⟨l.toArray⟩]:=⟨[.string ⟨l.toArray⟩],rfl,rfl,rfl,h⟩

theorem VX.C7 {H:Array Go.Obj} {hp:List (Nat×f9)} {k:IntKind} {n:Int} {v:Value} (h:VX H S ι hp (.val (.int k) n) [v]):v=.int k n∧A4 k n:=by
 obtain ⟨cs,e,_,rfl,h2⟩:=h
 exact ⟨by simpa [j7,Ty.agg] using e,h2⟩
theorem VX.a1e {H:Array Go.Obj} {hp:List (Nat×f9)} {b:Bool} {v:Value} (h:VX H S ι hp (.val .bool b) [v]):v=.bool b:=by
 obtain ⟨cs,e,_,rfl⟩:=h
 simpa [j7,Ty.agg] using e
theorem VX.a0Z {H:Array Go.Obj} {hp:List (Nat×f9)} {l:List UInt8} {v:Value} (h:VX H S ι hp (.val .str l) [v]):v=.string ⟨l.toArray⟩∧l.length≤maxLen:=by
 obtain ⟨cs,e,_,rfl,h2⟩:=h
 exact ⟨by simpa [j7,Ty.agg] using e,h2⟩

def A5 (P:Program) (B:y9) (o:Oper) (a:Act) (w:World):OR→Prop
 | .fail _=>True
 | .ok v s=>s7 P B o a w v s
 | .B1 p v s=>p→s7 P B o a w v s

theorem A5.pure {P:Program} {o:Oper} {sem:Sem Value} (he:execOp a.eval o=(do pure (.value (← sem)))) (h:RS B S ι s a w) {v:AV} {val:Value} (hr:sem.run P w=.ok val w)
  (hv:VX w.heap S ι s.hp v [val]):s7 P B o a w v s:=s7.value (C9 he hr) h hv

theorem a1l {P:Program} {o:Oper} {k:IntKind} {r:Int} (he:(execOp a.eval o).run P w=.ok (.value (.int k (k.wrap r))) w) (h:RS B S ι s a w):A5 P B o a w (arith k r s):=by
 unfold arith
 split
 ·intro hk
  exact s7.value (by rw [he,V2 hk]) h (VX.int hk)
 ·exact s7.value he h (VX.int (W8 _ _))

theorem R7 {P:Program} {o:Oper} {op:BinOp} {T T':TypeId} {x y:Operand} (ho:o.op=.binOp op T x y T') (hg:(eqGuard op T x y (a.eval x) (a.eval y)).run P w=.ok () w) {r:Result Value}
  (hr:(binOp op T (a.eval x) (a.eval y)).run P w=r):(execOp a.eval o).run P w=r.andThen fun v w'=>.ok (.value v) w':=by
 simp only [execOp,ho,Sem.run_bind,hg,Result.andThen,hr]
 cases r<;>rfl

theorem b3H (h:RS B S ι s a w) {o:Oper} {op:BinOp} {T T':TypeId} {x y:Operand} (ho:o.op=.binOp op T x y T') {P:Program} {k k':IntKind} {m n:Int}
  (hx:a.eval x=.int k m) (bx:A4 k m) (hy:a.eval y=.int k' n) (by_:A4 k' n):A5 P B o a w (a6u op k m k' n s):=by
 have hg:(eqGuard op T x y (a.eval x) (a.eval y)).run P w=.ok () w:=by rw [hx,hy]; cases op<;>rfl
 have run:∀ {r:Result Value},(binOp op T (.int k m) (.int k' n)).run P w=r→(execOp a.eval o).run P w=r.andThen fun v w'=>.ok (.value v) w':=by
  intro r hr
  exact R7 ho hg (by rw [hx,hy]; exact hr)
 have h0:k.min≤0:=by cases k<;>decide
 have h1:0≤k.max:=by cases k<;>decide
 unfold a6u
 split
 ·intro hn
  have:¬ n<0:=by omega
  exact s7.value (by rw [run (r:=.ok (.int k (k.wrap (m*2^(min n.toNat k.bits)))) w)]; rfl; simp [binOp,Op.shift,this]) h (VX.int (W8 _ _))
 ·intro hn
  have:¬ n<0:=by omega
  generalize hc:min n.toNat k.bits=c
  have hp:(0:Int)<2^c:=Int.pow_pos (by decide)
  have hb:A4 k (m / 2^c):=by
   unfold A4 at *
   refine ⟨?_,?_⟩
   ·apply (Int.le_ediv_iff_mul_le hp).2
    by_cases hm:m<0
    ·have:k.min*2^c≤k.min*1:=Int.mul_le_mul_of_nonpos_left h0 (by omega)
     omega
    ·have:k.min*2^c≤0:=Int.mul_nonpos_of_nonpos_of_nonneg h0 (Int.le_of_lt hp)
     omega
   ·by_cases hm:m<0
    ·have:=Int.ediv_neg_of_neg_of_pos hm hp
     omega
    ·have:=Int.ediv_le_self (2^c) (a:=m) (by omega)
     omega
  refine s7.value (by rw [run (r:=.ok (.int k (m / 2^c)) w)]; rfl; simp [binOp,Op.shift,this,hc,Int.fdiv_eq_ediv_of_nonneg _ (Int.le_of_lt hp)]) h (VX.int hb)
 ·rename_i hne1 hne2
  split
  ·rename_i hk; subst hk
   split
   ·exact a1l (by rw [run (r:=.ok (.int k (k.wrap (m+n))) w)]; rfl; simp [binOp,Op.intArith]) h
   ·exact a1l (by rw [run (r:=.ok (.int k (k.wrap (m - n))) w)]; rfl; simp [binOp,Op.intArith]) h
   ·exact a1l (by rw [run (r:=.ok (.int k (k.wrap (m*n))) w)]; rfl; simp [binOp,Op.intArith]) h
   ·intro hn
    have hq:A4 k (m.tdiv n):=by
     unfold A4 at *
     by_cases hm:m<0
     ·have e:m.tdiv n=-((-m) / n):=by rw [← Int.neg_neg m,Int.neg_tdiv,Int.tdiv_eq_ediv_of_nonneg (by omega)]; simp
      have:=Int.ediv_nonneg (a:=-m) (b:=n) (by omega) (by omega)
      have:=Int.ediv_le_self n (a:=-m) (by omega)
      omega
     ·rw [Int.tdiv_eq_ediv_of_nonneg (by omega)]
      have:=Int.ediv_nonneg (a:=m) (b:=n) (by omega) (by omega)
      have:=Int.ediv_le_self n (a:=m) (by omega)
      omega
    exact s7.value (by rw [run (r:=.ok (.int k (m.tdiv n)) w)]; rfl; simp [binOp,Op.intDiv,show n≠0 by omega,V2 hq]) h (VX.int hq)
   ·intro hn
    have hq:A4 k (m.tmod n):=by
     unfold A4 at *
     by_cases hm:m<0
     ·have e:m.tmod n=-((-m) % n):=by rw [← Int.neg_neg m,Int.neg_tmod,Int.tmod_eq_emod_of_nonneg (by omega)]; simp
      have:=Int.emod_nonneg (-m) (b:=n) (by omega)
      have:(-m) % n≤-m:=by
       have:=Int.emod_add_mul_ediv (-m) n
       have:=Int.mul_nonneg (Int.le_of_lt hn) (Int.ediv_nonneg (a:=-m) (b:=n) (by omega) (by omega))
       omega
      omega
     ·rw [Int.tmod_eq_emod_of_nonneg (by omega)]
      have:=Int.emod_nonneg m (b:=n) (by omega)
      have:m % n≤m:=by
       have:=Int.emod_add_mul_ediv m n
       have:=Int.mul_nonneg (Int.le_of_lt hn) (Int.ediv_nonneg (a:=m) (b:=n) (by omega) (by omega))
       omega
      omega
    exact s7.value (by rw [run (r:=.ok (.int k (m.tmod n)) w)]; rfl; simp [binOp,Op.intDiv,show n≠0 by omega]) h (VX.int hq)
   ·exact s7.value (by rw [run (r:=.ok (.int k (R5 k m n)) w)]; rfl; simp [binOp,Op.intBits,R5]) h (VX.int (W8 _ _))
   ·exact s7.value (by rw [run (r:=.ok (.int k (bOr k m n)) w)]; rfl; simp [binOp,Op.intBits,bOr]) h (VX.int (W8 _ _))
   ·exact s7.value (by rw [run (r:=.ok (.int k (b0l k m n)) w)]; rfl; simp [binOp,Op.intBits,b0l]) h (VX.int (W8 _ _))
   ·exact s7.value (by rw [run (r:=.ok (.int k (p8 k m n)) w)]; rfl; simp [binOp,Op.intBits,p8]) h (VX.int (W8 _ _))
   ·exact s7.value (by rw [run (r:=.ok (.bool (decide (m=n))) w)]; rfl; simp [binOp,Op.intCmp]; rfl) h VX.bool
   ·exact s7.value (by rw [run (r:=.ok (.bool (decide (m≠n))) w)]; rfl; simp [binOp,Op.intCmp]; rfl) h VX.bool
   ·exact s7.value (by rw [run (r:=.ok (.bool (decide (m<n))) w)]; rfl; simp [binOp,Op.intCmp]) h VX.bool
   ·exact s7.value (by rw [run (r:=.ok (.bool (decide (m≤n))) w)]; rfl; simp [binOp,Op.intCmp]) h VX.bool
   ·exact s7.value (by rw [run (r:=.ok (.bool (decide (n<m))) w)]; rfl; simp [binOp,Op.intCmp]) h VX.bool
   ·exact s7.value (by rw [run (r:=.ok (.bool (decide (n≤m))) w)]; rfl; simp [binOp,Op.intCmp]) h VX.bool
   ·trivial
  ·trivial

theorem b0Z {P:Program} {T:TypeId} {m n:List UInt8} (hn:m.length+n.length≤maxLen):(binOp .add T (.string ⟨m.toArray⟩) (.string ⟨n.toArray⟩)).run P w=.ok (.string ⟨(m++n).toArray⟩) w:=by
 have h2:¬ ((((ByteArray.mk m.toArray).size+(ByteArray.mk n.toArray).size:Nat):Int) > IntKind.i64.max):=by
  have e1:(ByteArray.mk m.toArray).size=m.length:=by simp [ByteArray.size]
  have e2:(ByteArray.mk n.toArray).size=n.length:=by simp [ByteArray.size]
  rw [e1,e2]
  have:IntKind.i64.max=((maxLen:Nat):Int):=by decide
  omega
 have e:(ByteArray.mk m.toArray)++(ByteArray.mk n.toArray)=ByteArray.mk (m++n).toArray:=by
  apply ByteArray.ext; simp
 simp only [binOp,Op.stringOp,h2,if_false,e]
 rfl

theorem b3G (h:RS B S ι s a w) {o:Oper} {op:BinOp} {T T':TypeId} {x y:Operand} (ho:o.op=.binOp op T x y T') {P:Program} {m n:List UInt8}
  (hx:a.eval x=.string ⟨m.toArray⟩) (hy:a.eval y=.string ⟨n.toArray⟩):A5 P B o a w (a6t op m n s):=by
 have hg:(eqGuard op T x y (a.eval x) (a.eval y)).run P w=.ok () w:=by rw [hx,hy]; cases op<;>rfl
 have run:∀ {r:Result Value},(binOp op T (.string ⟨m.toArray⟩) (.string ⟨n.toArray⟩)).run P w=r→(execOp a.eval o).run P w=r.andThen fun v w'=>.ok (.value v) w':=by
  intro r hr
  exact R7 ho hg (by rw [hx,hy]; exact hr)
 unfold a6t
 split
 ·exact s7.value (by rw [run (r:=.ok (.bool (decide (m=n))) w)]; rfl; simp [binOp,Op.stringOp,ByteArray.toList_mk,Bool.beq_eq_decide_eq]) h VX.bool
 ·exact s7.value (by rw [run (r:=.ok (.bool (decide (m≠n))) w)]; rfl; simp [binOp,Op.stringOp,ByteArray.toList_mk,Bool.beq_eq_decide_eq]) h VX.bool
 ·intro hn
  refine s7.value (by rw [run (r:=.ok (.string ⟨(m++n).toArray⟩) w)]; rfl; exact b0Z hn) h (VX.str (by simpa using hn))
 ·trivial

theorem a0s {P:Program} {n:Nat} {T:TypeId} (hT:n7 P n T .bool=true):P.underlying T=some .bool:=by
 obtain ⟨d,h1,h2⟩:=I7 hT
 cases n with
 | zero=>simp [n7] at hT
 | succ n =>
  simp only [n7,Bool.and_eq_true,h1] at hT
  obtain ⟨_,hT⟩:=hT
  cases d<;>first|exact h1|(exact (Bool.false_ne_true hT).elim)|skip
  rename_i fs
  have hT:l8 (n7 P n) fs.toList 0 .bool=true:=hT
  cases hf:fs.toList with
  | nil=>rw [hf] at hT; simp [l8] at hT
  | cons f l=>rw [hf] at hT; simp [l8] at hT

theorem run_equalIn_bool {P:Program} {T:TypeId} (h1:P.underlying T=some .bool) (d:Nat) (m n:Bool):(Op.equalIn (d+1) T (.bool m) (.bool n)).run P w=.ok (m == n) w:=by
 simp [Op.equalIn,n9 h1]

theorem a6L {P:Program} {n:Nat} {T:TypeId} (hT:n7 P n T .bool=true) (m n:Bool):(Op.equal T (.bool m) (.bool n)).run P w=.ok (m == n) w :=
 run_equalIn_bool (a0s hT) 9999 m n

theorem b3F (h:RS B S ι s a w) {W:Bool} {o:Oper} {op:BinOp} {T T':TypeId} {x y:Operand} (ho:o.op=.binOp op T x y T') {P:Program} {k k':IntKind} {m n:Int}
  (hx:a.eval x=.int k m) (bx:A4 k m) (hy:a.eval y=.int k' n) (by_:A4 k' n):A5 P B o a w (a6s W op k m k' n s):=by
 unfold a6s
 split
 ·split
  ·rename_i hk; subst hk
   have hg:(eqGuard .add T x y (a.eval x) (a.eval y)).run P w=.ok () w:=by rw [hx,hy]; rfl
   exact s7.value (by rw [R7 ho hg (r:=.ok (.int k (k.wrap (m+n))) w)]; rfl; rw [hx,hy]; simp [binOp,Op.intArith]) h (VX.int (W8 _ _))
  ·trivial
 ·exact b3H h ho hx bx hy by_

theorem b3J (hE:t7 E B) (h:RS B S ι s a w) {o:Oper} {op:BinOp} {T T':TypeId} {x y:Operand} (ho:o.op=.binOp op T x y T'):A5 E.P B o a w (a6v E T op (s.ev x) (s.ev y) s):=by
 have hx:=h.ev x
 have hy:=h.ev y
 unfold a6v
 split
 ·rename_i k m k' n e1 e2
  rw [e1] at hx; rw [e2] at hy
  obtain ⟨hx,bx⟩:=VX.C7 hx
  obtain ⟨hy,by_⟩:=VX.C7 hy
  exact b3F h ho hx bx hy by_
 ·rename_i m n e1 e2
  rw [e1] at hx; rw [e2] at hy
  have hx:=VX.a1e hx
  have hy:=VX.a1e hy
  have hg:(eqGuard op T x y (a.eval x) (a.eval y)).run E.P w=.ok () w:=by rw [hx,hy]; cases op<;>rfl
  split
  ·rename_i hc
   exact s7.value (by rw [R7 ho hg (r:=.ok (.bool (m == n)) w)]; rfl; rw [hx,hy]; simp [binOp,a6L (u7 hE hc)]) h VX.bool
  ·rename_i hc
   exact s7.value (by rw [R7 ho hg (r:=.ok (.bool (m != n)) w)]; rfl; rw [hx,hy]; simp [binOp,a6L (u7 hE hc)]; cases (m:Bool)<;>cases (n:Bool)<;>rfl) h VX.bool
  ·trivial
 ·rename_i m n e1 e2
  rw [e1] at hx; rw [e2] at hy
  exact b3G h ho (VX.a0Z hx).1 (VX.a0Z hy).1
 ·trivial

end
end Go.Ex

namespace Go.Ex

section
variable {E:Env} {B:y9} {S S':Nat→Prop} {ι:Ix} {s:St} {a:Act} {w:World} {hp:List (Nat×f9)}

def Ix.L4 (ι:Ix) (d:Nat) (r:Nat×Nat) (o:List Nat):Ix:={ ι with root:=fun i=>if i=d then r else ι.root i,own:=fun i=>if i=d then o else ι.own i }
def Ix.M2 (ι:Ix) (d:Nat) (cs:List Value) (o:List Nat):Ix:={ ι with cells:=fun i=>if i=d then cs else ι.cells i,own:=fun i=>if i=d then o else ι.own i }
def Ix.t8 (ι:Ix) (d:Nat) (o:List Nat):Ix:={ ι with own:=fun i=>if i=d then o else ι.own i }

def w6 (ι ι':Ix) (i:Nat):Prop:=ι'.root i=ι.root i∧ι'.cells i=ι.cells i∧ι'.own i=ι.own i

theorem w6.ob {ι':Ix} {i:Nat} (h:w6 ι ι' i) {H:Array Go.Obj} {e:f9}:OB H S ι' i e↔OB H S ι i e:=by
 obtain ⟨h1,h2,h3⟩:=h
 cases e<;>simp only [OB,h1,h2,h3]
theorem w6.i8 {ι':Ix} {i:Nat} (h:w6 ι ι' i) {e:f9}:i8 ι' i e=i8 ι i e:=by
 obtain ⟨h1,h2,h3⟩:=h
 cases e<;>simp only [Ex.i8,h1,h3]
theorem w6.vh {ι':Ix} {i:Nat} (h:w6 ι ι' i) {H:Array Go.Obj} {e:f9}:VH H ι' i e=VH H ι i e:=by
 obtain ⟨h1,h2,h3⟩:=h
 cases e<;>simp only [VH,h2]
theorem w6.place {ι':Ix} {i:Nat} (h:w6 ι ι' i) {H:Array Go.Obj} {e:f9} {p:List Step}:Place H ι' i e p=Place H ι i e p:=by
 have hv:=h.vh (H:=H) (e:=e)
 obtain ⟨h1,h2,h3⟩:=h
 cases e<;>simp only [Place,VR,h1,hv]
theorem w6.loc {ι':Ix} {i:Nat} (h:w6 ι ι' i) {H:Array Go.Obj} {e:f9} {p:List Step}:Loc H ι' i e p=Loc H ι i e p:=by
 simp only [Loc,h.place]
theorem w6.a4R {ι':Ix} {i:Nat} (h:w6 ι ι' i) {H:Array Go.Obj} {e:f9} {p:List Step} {u:Ty} {cs:List Value}:Cells H ι' i e p u cs↔Cells H ι i e p u cs:=by
 simp only [Cells,h.place,h.vh]

theorem w6.refl (ι:Ix) (i:Nat):w6 ι ι i:=⟨rfl,rfl,rfl⟩
theorem a2R {i d:Nat} (h:i≠d) (r:Nat×Nat) (o:List Nat):w6 ι (ι.L4 d r o) i:=by simp [w6,Ix.L4,h]
theorem a1f {i d:Nat} (h:i≠d) (cs:List Value) (o:List Nat):w6 ι (ι.M2 d cs o) i:=by simp [w6,Ix.M2,h]
theorem L8 {i d:Nat} (h:i≠d) (o:List Nat):w6 ι (ι.t8 d o) i:=by simp [w6,Ix.t8,h]

theorem VX.other {ι':Ix} {hp':List (Nat×f9)} {H:Array Go.Obj} {v:AV} (hl:∀ i,v.e8 i=true→look i hp'=look i hp) (hs:∀ i,v.e8 i=true→w6 ι ι' i) {vs:List Value} (h:VX H S ι hp v vs):VX H S ι' hp' v vs:=by
 have:=VX.map (H':=H) (S':=S) (ι':=ι') (hp':=hp') (f:=fun u=>u) (fun _ _=>rfl) (fun _ h=>h) ?_ h
 ·rwa [AV.map_id] at this
 ·intro u vs hu hm h
  cases u<;>simp only [AV.ref] at hu<;>try cases hu
  ·rename_i i p
   have hi:=hm i (by simp [AV.e8])
   obtain ⟨e,b,off,h1,h2,h3,h4⟩:=h
   exact ⟨e,b,off,(hl i hi).trans h1,h2,(hs i hi).loc.trans h3,h4⟩
  ·rename_i i p
   have hi:=hm i (by simp [AV.e8])
   obtain ⟨e,u,y,cs,h1,h2,h3,h4,h5⟩:=h
   exact ⟨e,u,y,cs,(hl i hi).trans h1,h2,h3,(hs i hi).a4R.2 h4,h5⟩
  ·rename_i i p lo hi'
   have hi:=hm i (by simp [AV.e8])
   obtain ⟨e,v,h1,h2,h3,h4,h5,h6⟩:=h
   refine ⟨e,v,(hl i hi).trans h1,h2,h3,h4,h5,?_⟩
   rcases h6 with ⟨t,l,a,cap,k1,k2,k3,k4⟩|⟨n,t,l,b,off,k1,k2,k3,k4⟩
   ·exact .inl ⟨t,l,a,cap,k1,k2,(hs i hi).a4R.2 k3,k4⟩
   ·exact .inr ⟨n,t,l,b,off,k1,k2,(hs i hi).loc.trans k3,k4⟩

theorem a2b {H:Array Go.Obj} {o:Go.Obj} {b:Nat} (h:b<H.size):(H.push o)[b]?=H[b]?:=by
 rw [Array.getElem?_push,if_neg (by omega)]
theorem a2c {H:Array Go.Obj} {o:Go.Obj}:(H.push o)[H.size]?=some o:=by simp

def w9 (w:World) (o:Go.Obj):World:={ w with heap:=w.heap.push o }

theorem HS.b6D (h:HS B S ι hp w) {b:Nat} (hb:(∃ i e,look i hp=some e∧b∈i8 ι i e)∨S b):b<w.heap.size:=by
 rcases hb with ⟨i,e,h1,h2⟩|hb
 ·exact (h.bl i e h1 b h2).2.2
 ·exact h.slt b hb

def x4 (B:y9) (S:Nat→Prop) (ι:Ix) (hp:List (Nat×f9)) (w:World) (O:List Nat):Prop :=
 O.Nodup∧∀ b∈O,¬ S b∧(B.w0.heap.size≤b∨B.M b)∧b<w.heap.size∧∀ i e,look i hp=some e→b∉i8 ι i e

theorem x4.nil:x4 B S ι hp w []:=⟨List.nodup_nil,by simp⟩
theorem x4.sub {O O':List Nat} (h:x4 B S ι hp w O) (hn:O'.Nodup) (hs:∀ b∈O',b∈O):x4 B S ι hp w O':=⟨hn,fun b hb=>h.2 b (hs b hb)⟩
theorem x4.append {O O':List Nat} (h:x4 B S ι hp w O) (h':x4 B S ι hp w O') (hd:∀ b∈O,b∉O'):x4 B S ι hp w (O++O') :=
 ⟨List.nodup_append.2 ⟨h.1,h'.1,fun a ha _b hb e=>hd a ha (e▸hb)⟩,fun b hb=>(List.mem_append.1 hb).elim (h.2 b) (h'.2 b)⟩

theorem HS.J4 (h:HS B S ι hp w) {O:List Nat} (hF:x4 B S ι hp w O) {w':World} (k:w8 O w w'):HS B S ι hp w':=by
 have hlt:∀ {b},((∃ i e,look i hp=some e∧b∈i8 ι i e)∨S b)→w'.heap[b]?=w.heap[b]?:=by
  intro _ hb
  refine k.frame _ (h.b6D hb) (fun hO=>?_)
  rcases hb with ⟨i,e,h1,h2⟩|hb
  ·exact (hF.2 _ hO).2.2.2 i e h1 h2
  ·exact (hF.2 _ hO).1 hb
 refine ⟨k.os.trans h.os,k.tape.trans h.tape,k.out.trans h.out,Nat.le_trans h.size k.size,?_,fun b hb=>Nat.lt_of_lt_of_le (h.slt b hb) k.size,h.s0,h.s1,?_,?_,h.dj,h.pin⟩
 ·intro c hc hm
  rw [k.frame c (Nat.lt_of_lt_of_le hc h.size) (fun hO=>by rcases (hF.2 c hO).2.1 with h1|h1; omega; exact hm h1)]
  exact h.frame c hc hm
 ·intro i e hi
  exact (h.ob i e hi).o4 (fun b hb=>hlt (hb.imp (fun hb=>⟨i,e,hi,hb⟩) id)) (fun _ h=>h)
 ·intro i e hi b hb
  obtain ⟨h1,h2,h3⟩:=h.bl i e hi b hb
  exact ⟨h1,h2,Nat.lt_of_lt_of_le h3 k.size⟩

theorem VX.J4 (h:HS B S ι hp w) {O:List Nat} (hF:x4 B S ι hp w O) {w':World} (k:w8 O w w') {v:AV} {vs:List Value} (hv:VX w.heap S ι hp v vs):VX w'.heap S ι hp v vs:=by
 refine VX.grow (fun b hb=>k.frame b (h.b6D hb) (fun hO=>?_)) (fun _ h=>h) h.slt h.ob hv
 rcases hb with ⟨i,e,h1,h2⟩|hb
 ·exact (hF.2 b hO).2.2.2 i e h1 h2
 ·exact (hF.2 b hO).1 hb

theorem RS.J4 (h:RS B S ι s a w) {O:List Nat} (hF:x4 B S ι s.hp w O) {w':World} (k:w8 O w w'):RS B S ι s a w' :=
 ⟨h.hs.J4 hF k,h.W7,h.sz,fun t v hv=>VX.J4 h.hs hF k (h.fr t v hv)⟩

theorem x4.J4 {O O':List Nat} (h:x4 B S ι hp w O') {w':World} (k:w8 O w w'):x4 B S ι hp w' O' :=
 ⟨h.1,fun b hb=>⟨(h.2 b hb).1,(h.2 b hb).2.1,Nat.lt_of_lt_of_le (h.2 b hb).2.2.1 k.size,(h.2 b hb).2.2.2⟩⟩

theorem w8.push (o:Go.Obj):w8 [] w (w9 w o):=⟨rfl,.refl w,rfl,by simp [w9],fun c hc _=>a2b hc⟩
theorem w8.drew:w8 [] w w.drew:=⟨rfl,⟨rfl,Nat.le_succ _⟩,rfl,Nat.le_refl _,fun _ _ _=>rfl⟩
theorem w8.mono {O O':List Nat} {w':World} (h:w8 O w w') (ho:∀ b∈O,b∈O'):w8 O' w w':=⟨h.os,h.tape,h.out,h.size,fun c hc hn=>h.frame c hc (fun hO=>hn (ho c hO))⟩
theorem w8.trans {O O':List Nat} {w' w'':World} (h:w8 O w w') (h':w8 O' w' w'') (ho:∀ b∈O',b∈O∨w.heap.size≤b):w8 O w w'' :=
 ⟨h'.os.trans h.os,h'.tape.trans h.tape,h'.out.trans h.out,Nat.le_trans h.size h'.size,fun c hc hn=>(h'.frame c (Nat.lt_of_lt_of_le hc h.size) (fun hO=>by rcases ho c hO with h1|h1; exact hn h1; omega)).trans (h.frame c hc hn)⟩

theorem HS.add (h:HS B S ι hp w) {d:Nat} {e:f9} {ι':Ix} {O:List Nat} (hd:look d hp=none) (hs:∀ i,i≠d→w6 ι ι' i) (hob:OB w.heap S ι' d e) (hb:∀ b∈i8 ι' d e,b∈O) (hF:x4 B S ι hp w O) :
  HS B S ι' (Ex.put d e hp) w:=by
 refine ⟨h.os,h.tape,h.out,h.size,h.frame,h.slt,h.s0,h.s1,?_,?_,?_,?_⟩
 ·intro i e' h1
  rw [l7] at h1
  by_cases e1:i=d
  ·subst e1; rw [if_pos rfl] at h1; cases h1; exact hob
  ·rw [if_neg e1] at h1; exact (hs i e1).ob.2 (h.ob i e' h1)
 ·intro i e' h1 b hb'
  rw [l7] at h1
  by_cases e1:i=d
  ·subst e1; rw [if_pos rfl] at h1; cases h1
   obtain ⟨k1,k2,k3,_⟩:=hF.2 b (hb b hb')
   exact ⟨k1,k2,k3⟩
  ·rw [if_neg e1] at h1
   rw [(hs i e1).i8] at hb'
   exact h.bl i e' h1 b hb'
 ·intro i j ei ej h1 h2 hij b hb'
  rw [l7] at h1 h2
  by_cases e1:i=d
  ·subst e1
   rw [if_neg (Ne.symm hij)] at h2
   rw [if_pos rfl] at h1; cases h1
   rw [(hs j (Ne.symm hij)).i8]
   exact (hF.2 b (hb b hb')).2.2.2 j ej h2
  ·rw [if_neg e1] at h1
   rw [(hs i e1).i8] at hb'
   by_cases e2:j=d
   ·subst e2
    rw [if_pos rfl] at h2; cases h2
    exact fun hbb=>(hF.2 b (hb b hbb)).2.2.2 i ei h1 hb'
   ·rw [if_neg e2] at h2
    rw [(hs j e2).i8]
    exact h.dj i j ei ej h1 h2 hij b hb'
 ·intro q hq
  obtain ⟨k0,⟨e',k1⟩,k2,k3⟩:=h.pin q hq
  have hne:q.1≠d:=by rintro e1; rw [e1,hd] at k1; cases k1
  exact ⟨k0,⟨e',by rw [l7,if_neg hne]; exact k1⟩,by rw [(hs _ hne).1]; exact k2,by rw [(hs _ hne).2.1]; exact k3⟩

theorem a2K {d:Nat} (h:s.fresh d=true):look d s.hp=none∧∀ m v,look m s.fr=some v→v.e8 d=false:=by
 simp only [St.fresh,Bool.and_eq_true,Option.isNone_iff_eq_none] at h
 exact ⟨h.1,fun m v hv=>a0k h.2 hv⟩

theorem VX.add {d:Nat} {e:f9} {ι':Ix} {H:Array Go.Obj} (hs:∀ i,i≠d→w6 ι ι' i) {v:AV} (hm:v.e8 d=false) {vs:List Value} (h:VX H S ι hp v vs):VX H S ι' (Ex.put d e hp) v vs:=by
 have hne:∀ i,v.e8 i=true→i≠d:=by rintro i hi rfl; rw [hm] at hi; cases hi
 exact VX.other (fun i hi=>by rw [l7,if_neg (hne i hi)]) (fun i hi=>hs i (hne i hi)) h

theorem RS.add (h:RS B S ι s a w) {d:Nat} {e:f9} {ι':Ix} {O:List Nat} (hd:s.fresh d=true) (hs:∀ i,i≠d→w6 ι ι' i) (hob:OB w.heap S ι' d e) (hb:∀ b∈i8 ι' d e,b∈O) (hF:x4 B S ι s.hp w O) :
  RS B S ι' (s.o7 d e) a w:=by
 obtain ⟨k1,k2⟩:=a2K hd
 exact ⟨h.hs.add k1 hs hob hb hF,h.W7,h.sz,fun t v hv=>VX.add hs (k2 t v hv) (h.fr t v hv)⟩

/-! ### objects that go -/
theorem VX.dropped {i:Nat} {H:Array Go.Obj} {v:AV} {vs:List Value} (h:VX H S ι hp v vs):VX H S ι (del i hp) (v.drop i) vs:=by
 refine VX.map (fun _ _=>rfl) (fun _ h=>h) (fun u vs hu _ hv=>?_) h
 cases hm:u.e8 i with
 | true=>obtain ⟨x,rfl⟩:=VX.one hu hv; exact ⟨x,rfl⟩
 | false =>
  have hne:∀ j,u.e8 j=true→j≠i:=by rintro j hj rfl; rw [hm] at hj; cases hj
  exact VX.other (fun j hj=>by rw [E3,if_neg (hne j hj)]) (fun j _=>w6.refl ι j) hv

theorem HS.drop (h:HS B S ι hp w) {i:Nat} (hi:pinned i=false):HS B S ι (del i hp) w:=by
 have hl:∀ {j:Nat} {e:f9},look j (del i hp)=some e→look j hp=some e:=by
  intro j e hj
  rw [E3] at hj
  split at hj
  ·cases hj
  ·exact hj
 refine ⟨h.os,h.tape,h.out,h.size,h.frame,h.slt,h.s0,h.s1,fun j e hj=>h.ob j e (hl hj),fun j e hj=>h.bl j e (hl hj),fun j k ej ek hj hk=>h.dj j k ej ek (hl hj) (hl hk),fun q hq=>?_⟩
 obtain ⟨k0,⟨e',k1⟩,k2⟩:=h.pin q hq
 exact ⟨k0,⟨e',by rw [E3,if_neg (by rintro e1; rw [e1,hi] at k0; cases k0)]; exact k1⟩,k2⟩

theorem RS.drop (h:RS B S ι s a w) {i:Nat} (hi:pinned i=false):RS B S ι (s.drop i) a w:=by
 refine ⟨h.hs.drop hi,h.W7,h.sz,?_⟩
 intro t v hv
 simp only [St.drop,D3,Option.map_eq_some_iff] at hv
 obtain ⟨v0,hv0,rfl⟩:=hv
 exact VX.dropped (h.fr t v0 hv0)

theorem RS.p7 {B:y9} {S:Nat→Prop} {ι:Ix} {a:Act} {w:World}:∀ {g:List Nat} {s:St},RS B S ι s a w→(g.all fun i=>!pinned i)=true→RS B S ι (St.p7 g s) a w
 | [],_,h,_=>h
 | i::g,s,h,hg=>by
  simp only [List.all_cons,Bool.and_eq_true,Bool.not_eq_true'] at hg
  exact RS.p7 (g:=g) (s:=s.drop i) (h.drop hg.1) hg.2

theorem F6:∀ {g:List Nat} {s:St} {j:Nat},look j (St.p7 g s).hp=if j∈g then none else look j s.hp
 | [],s,j=>by simp [St.p7]
 | i::g,s,j=>by
  simp only [St.p7,F6 (g:=g),St.drop,E3]
  by_cases e:j=i
  ·subst e; simp
  ·by_cases e2:j∈g<;>simp [e,e2]

theorem x4.p7 (h:HS B S ι s.hp w) {g:List Nat} {O:List Nat} (hn:O.Nodup) (hO:∀ b∈O,∃ i e,i∈g∧look i s.hp=some e∧b∈i8 ι i e):x4 B S ι (St.p7 g s).hp w O:=by
 refine ⟨hn,fun b hb=>?_⟩
 obtain ⟨i,e,hi,h1,h2⟩:=hO b hb
 obtain ⟨k1,k2,k3⟩:=h.bl i e h1 b h2
 refine ⟨k1,k2,k3,fun j ej hj hbj=>?_⟩
 rw [F6] at hj
 split at hj
 ·cases hj
 ·rename_i hjg
  exact h.dj i j e ej h1 hj (by rintro rfl; exact hjg hi) b h2 hbj

theorem x4.a4D {O:List Nat} (h:x4 B S ι s.hp w O) (g:List Nat):x4 B S ι (St.p7 g s).hp w O :=
 ⟨h.1,fun b hb=>⟨(h.2 b hb).1,(h.2 b hb).2.1,(h.2 b hb).2.2.1,fun i e hi=>by rw [F6] at hi; split at hi; cases hi; exact (h.2 b hb).2.2.2 i e hi⟩⟩

/-! ### new objects -/
theorem RS.alloc (h:RS B S ι s a w) {d:Nat} (hd:s.fresh d=true) {t:Ty} {x:t.den} {cs:List Value} {O:List Nat} (hR:d9 w.heap S t O cs x) (hF:x4 B S ι s.hp w O) (T:TypeId) :
  RS B S (ι.L4 d (w.heap.size,0) O) (s.o7 d (.var t x)) a (w9 w (.cells cs.toArray T)):=by
 have h1:=h.J4 x4.nil (w8.push (.cells cs.toArray T))
 have hF1:=hF.J4 (w8.push (w:=w) (.cells cs.toArray T))
 have hnew:(w9 w (.cells cs.toArray T)).heap[w.heap.size]?=some (.cells cs.toArray T):=a2c
 have hold:∀ {b},b<w.heap.size→(w9 w (.cells cs.toArray T)).heap[b]?=w.heap[b]?:=fun hb=>a2b hb
 refine h1.add hd (fun i hi=>a2R hi _ _) ?_ (O:=w.heap.size::O) ?_ ⟨List.nodup_cons.2 ⟨fun hm=>Nat.lt_irrefl _ (hF.2 _ hm).2.2.1,hF.1⟩,?_⟩
 ·refine ⟨⟨O,by simp [Ix.L4],?_⟩,⟨cs.toArray,T,⟨_,by simpa [Ix.L4] using hnew,.inl rfl⟩,by simp [Ix.L4,hR.length]⟩,?_⟩
  ·have e:d8 (w9 w (.cells cs.toArray T)).heap w.heap.size 0 t.size=cs:=by
    have hb:o6 (w9 w (.cells cs.toArray T)).heap w.heap.size=cs:=by simp only [o6,hnew]
    simp only [d8,hb,List.drop_zero]
    exact List.take_of_length_le (by rw [hR.length]; exact Nat.le_refl _)
   simp only [Ix.L4,if_pos]
   rw [e]
   exact hR.o4 (fun b hb=>hold (hb.elim (fun hb=>(hF.2 b hb).2.2.1) (h.hs.slt b))) (fun _ h=>h)
  ·simp only [Ix.L4,if_pos]
   exact List.nodup_cons.2 ⟨fun hm=>Nat.lt_irrefl _ (hF.2 _ hm).2.2.1,hF.1⟩
 ·intro b hb
  simpa [i8,Ix.L4] using hb
 ·intro b hb
  rcases List.mem_cons.1 hb with rfl|hb
  ·refine ⟨fun hS=>Nat.lt_irrefl _ (h.hs.slt _ hS),.inl h.hs.size,by simp [w9],fun i e hi hbi=>?_⟩
   exact Nat.lt_irrefl _ (h.hs.bl i e hi _ hbi).2.2
  ·exact hF1.2 b hb

theorem a7C {d:Nat} {t:Ty} {x:t.den} {w':World} {r:Nat×Nat} {o:List Nat} (hr:r.1<w'.heap.size):VX w'.heap S (ι.L4 d r o) (s.o7 d (.var t x)).hp (.ptr d []) [.pointer (some ⟨r.1,r.2,none⟩)]:=by
 refine ⟨.var t x,r.1,r.2,by simp [St.o7,l7],by cases t<;>trivial,M5 ?_ hr,rfl⟩
 simp only [Place,VR,VH,Ix.L4,if_pos,f9.ty]
 cases t<;>first|rfl|(rename_i o _; cases o<;>rfl)

theorem RS.hold (h:RS B S ι s a w) {d:Nat} (hd:s.fresh d=true) {t:Ty} {x:t.den} {O:List Nat} {cs:List Value} (hR:d9 w.heap S t O cs x) (hF:x4 B S ι s.hp w O):RS B S (ι.M2 d cs O) (s.o7 d (.own t x)) a w:=by
 refine h.add hd (fun i hi=>a1f hi _ _) ⟨⟨O,by simp [Ix.M2],by simpa [Ix.M2] using hR⟩,by simpa [Ix.M2] using hF.1⟩ (O:=O) ?_ hF
 intro b hb
 simpa [i8,Ix.M2] using hb

theorem u5 {t:Ty} {x:t.den}:i6 t x []=some ⟨t,x⟩:=by
 cases t<;>first|rfl|(rename_i o _; cases o<;>rfl)
theorem H5 {t:Ty} {x:t.den}:s6 t x []:=by
 cases t<;>first|trivial|(rename_i o _; cases o<;>trivial)
theorem s8 {H:Array Go.Obj} {t:Ty} {b off:Nat}:s9 H t [] b off=some (b,off):=by
 cases t<;>first|rfl|(rename_i o _; cases o<;>rfl)

theorem a0w {H:Array Go.Obj} {d:Nat} {t:Ty} {x:t.den} {cs:List Value} (h:ι.cells d=cs) (hl:cs.length=t.size):Cells H ι d (.own t x) [] t cs:=by
 refine ⟨H.size,0,by simp only [Place,s8]; rfl,?_⟩
 simp only [VH,h,d8,W6,List.drop_zero]
 exact (List.take_of_length_le (by omega)).symm

theorem K7 {H:Array Go.Obj} {d:Nat} {t:Ty} {x:t.den} {u:Ty} {cs:List Value} (h:Cells H ι d (.own t x) [] u cs) (hl:(ι.cells d).length=u.size):cs=ι.cells d:=by
 obtain ⟨b,off,h1,h2⟩:=h
 simp only [Place,s8,VR,Option.some.injEq,Prod.mk.injEq] at h1
 obtain ⟨rfl,rfl⟩:=h1
 rw [h2]
 simp only [VH,d8,W6,List.drop_zero]
 exact List.take_of_length_le (by omega)

theorem a3n {H:Array Go.Obj} {d:Nat} {t:Ty} {x:t.den} {cs:List Value} {O:List Nat} (hl:cs.length=t.size):VX H S (ι.M2 d cs O) (Ex.put d (.own t x) hp) (.at_ d []) [j7 t cs] :=
 ⟨.own t x,t,x,cs,by simp [l7],H5,u5,a0w (by simp [Ix.M2]) hl,rfl⟩

theorem b1I (hE:t7 E B) (h:RS B S ι s a w) {o:Oper} {T:TypeId} (ho:o.op=.alloc T):A5 E.P B o a w (l4 E o s):=by
 unfold l4
 rw [ho]
 simp only
 split
 ·rename_i t d ht hd
  split
  ·rename_i hf
   have hz:=w7 hE ht
   have hR:d9 w.heap S t.ty [] (zc t.ty) t.ty.n6:=d9.n6 _
   intro next Q hn
   unfold Oper.wp
   have:(execOp a.eval o).run E.P w=.ok (.value (.pointer (some ⟨w.heap.size,0,none⟩))) (w9 w (.cells (zc t.ty).toArray T)):=by
    simp [execOp,ho,Instr.alloc,Y5 hz,newVar,newRow,newObj,Sem.run,w9,hR.cells]
   rw [this]
   exact hn S _ _ _ (h.alloc hf hR x4.nil T) (a7C (by simp [w9]))
  ·trivial
 ·trivial

end
end Go.Ex

namespace Go.Ex

section
variable {E:Env} {B:y9} {S:Nat→Prop} {ι:Ix} {s:St} {a:Act} {w:World} {hp:List (Nat×f9)} {H H':Array Go.Obj}

def x8 (cur:List Value) (off:Nat) (cs:List Value):List Value:=cur.take off++cs++cur.drop (off+cs.length)

theorem a5H {cur cs:List Value} {off:Nat} (h:off+cs.length≤cur.length):(x8 cur off cs).length=cur.length:=by
 simp only [x8,List.length_append,List.length_take,List.length_drop]; omega

theorem b19 {cur cs:List Value} {off:Nat} (h:off+cs.length≤cur.length):((x8 cur off cs).drop off).take cs.length=cs:=by
 have e:(cur.take off).length=off:=by rw [List.length_take]; omega
 rw [x8,List.append_assoc,List.drop_left' e,List.take_left]

theorem a9D {cur cs:List Value} {off:Nat} (h:off+cs.length≤cur.length) {j:Nat} (hj:j<off∨off+cs.length≤j):(x8 cur off cs)[j]?=cur[j]?:=by
 have e:(cur.take off).length=off:=by rw [List.length_take]; omega
 rw [x8]
 rcases hj with hj|hj
 ·rw [List.append_assoc,List.getElem?_append_left (by omega),List.getElem?_take,if_pos hj]
 ·rw [List.getElem?_append_right (by simp only [List.length_append,e]; omega)]
  simp only [List.length_append,e,List.getElem?_drop]
  congr 1; omega

theorem setRow_other {g c:Nat} {cs:Array Value} (h:c≠g):(w.setRow g cs).heap[c]?=w.heap[c]?:=by
 simp only [World.setRow,Array.getElem?_modify,if_neg (Ne.symm h)]

theorem setRow_size {g:Nat} {cs:Array Value}:(w.setRow g cs).heap.size=w.heap.size:=by simp [World.setRow]

theorem a1q {b off:Nat} {cs:List Value} (hf:I2 w.heap b (off+cs.length)) :
  N8 w.heap (w.setRow b (x8 (o6 w.heap b) off cs).toArray).heap b off cs.length∧d8 (w.setRow b (x8 (o6 w.heap b) off cs).toArray).heap b off cs.length=cs:=by
 obtain ⟨arr,T,⟨fz,e,ef⟩,hn⟩:=hf
 have hb:o6 w.heap b=arr.toList:=by simp only [o6,e]
 have hl:off+cs.length≤arr.toList.length:=by simpa using hn
 have hnew:=setRow_heap w b arr (x8 (o6 w.heap b) off cs).toArray T fz e
 rw [hb] at hnew ⊢
 refine ⟨⟨⟨arr,_,T,⟨fz,⟨e,ef⟩,hnew⟩,?_,?_⟩,fun c hc _=>setRow_other hc⟩,?_⟩
 ·simp [a5H hl]
 ·intro j hj; exact a9D hl hj
 ·simp only [d8,o6,hnew]; exact b19 hl

theorem N4 {P:Program} (g o:Nat) (t:TypeId) (fz:Nat×Nat):∀ (vs:List Value) (i:Nat) (cur:Array Value) (w:World),Lie w.heap g cur t fz→o+i+vs.length≤cur.size→(∀ v∈vs,v.oneCell'=true) →
  (storeCells ⟨g,o,none⟩ vs i).run P w=.ok () (w.setRow g (cur.toList.take (o+i)++vs++cur.toList.drop (o+i+vs.length)).toArray)
 | [],i,cur,w,hg,_,_=>by
  simp only [storeCells,List.append_nil,List.length_nil,Nat.add_zero,List.take_append_drop,Array.toArray_toList]
  rw [setRow_self w g cur t fz hg.1]
  rfl
 | v::rest,i,cur,w,⟨hg,hz⟩,hl,h1=>by
  have hi:o+i<cur.size:=by simp at hl; omega
  have hadd:(⟨g,o,none⟩:Addr).add i=⟨g,o+i,none⟩:=by unfold Addr.add; split<;>simp_all
  have hcell:w.cell? ⟨g,o+i,none⟩=some cur[o+i]:=by simp [World.cell?,hg,hi]
  have hfro:w.frozen? ⟨g,o+i,none⟩=false:=by
   rcases hz with rfl|hz
   ·simp [World.frozen?,hg]
   ·obtain ⟨lo,hi'⟩:=fz
    have:¬ lo≤o+i:=by simp only at hz; omega
    simp [World.frozen?,hg,this]
  have hst:(store ((⟨g,o,none⟩:Addr).add i) v).run P w=.ok () (w.setRow g (cur.setIfInBounds (o+i) v)):=by
   rw [hadd,run_store P w _ v _ (h1 v (by simp)),hcell]
   simp [hfro,setCell_eq_setRow w g (o+i) cur t fz v hg]
  have ih:=N4 (P:=P) g o t fz rest (i+1) (cur.setIfInBounds (o+i) v) (w.setRow g (cur.setIfInBounds (o+i) v)) ⟨setRow_heap w g cur _ t _ hg,by simpa using hz⟩ (by simp at hl ⊢; omega) (fun x hx=>h1 x (by simp [hx]))
  simp only [storeCells,Sem.run_bind,hst,Result.andThen_ok,ih,setRow_setRow]
  congr 3
  have e:=list_seg_step cur.toList (o+i) v rest (by simp at hl ⊢; omega)
  simpa [Array.toList_setIfInBounds,Nat.add_assoc] using e

theorem a0G {P:Program} {n:Nat} {T:TypeId} {t u:Ty} (ht:n7 P n T t=true) (hu:u.sh=t.sh) {b off:Nat} (hf:I2 w.heap b (off+t.size)) {O:List Nat} {cs:List Value} {x:u.den} (hR:d9 H S u O cs x) :
  (storeVar T ⟨b,off,none⟩ (j7 u cs)).run P w=.ok () (w.setRow b (x8 (o6 w.heap b) off cs).toArray):=by
 obtain ⟨arr,T',⟨fz,e,ef⟩,hn⟩:=hf
 have hl:=hR.length
 have hs:=C5 hu
 have h1:(j7 u cs).cells=cs.toArray:=hR.cells
 have:=N4 (P:=P) b off T' fz cs 0 arr w ⟨e,ef⟩ (by omega) (fun v hv=>(hR.plain v hv).1)
 simp only [storeVar,Sem.run_bind,run_sizeOf ht,Result.andThen,h1]
 have hsz:cs.toArray.size=t.size:=by simp [hl,hs]
 simp only [hsz,ne_eq,not_true_eq_false,if_false]
 simp only [Nat.add_zero] at this
 have hb:o6 w.heap b=arr.toList:=by simp only [o6,e]
 rw [hb,x8]
 simpa [Sem.run] using this

theorem b7K {cs:List Value} {b off n:Nat} (hc:N8 H H' b off n) (hsz:H'.size=H.size):N8 (gh H cs) (gh H' cs) b off n:=by
 obtain ⟨a1,a2,T,⟨fz,⟨k1,kf⟩,k2⟩,k3,k4⟩:=hc.at_
 have hlt:b<H.size:=(Array.getElem?_eq_some_iff.1 k1).1
 refine ⟨⟨a1,a2,T,⟨fz,⟨(a3f hlt).trans k1,kf⟩,(a3f (by omega)).trans k2⟩,k3,k4⟩,fun c hcb hcl=>?_⟩
 rw [a3e] at hcl
 by_cases h:c<H.size
 ·rw [a3f h,a3f (by omega)]; exact hc.rest c hcb h
 ·have:c=H.size:=by omega
  subst this
  rw [a7a,← hsz,a7a]

theorem a43 {i:Nat} {e:f9} {b off n:Nat} (hc:N8 H H' b off n) (hsz:H'.size=H.size):N8 (VH H ι i e) (VH H' ι i e) b off n:=by
 cases e<;>first|exact hc|exact b7K hc hsz

theorem b2z {i:Nat} {e:f9} (hsz:H'.size=H.size):VR H' ι i e=VR H ι i e:=by cases e<;>simp [VR,hsz]
theorem a1m {i:Nat} {e:f9}:H.size≤(VH H ι i e).size:=by cases e<;>simp [VH,a3e]

theorem b4b {e:f9} {r:Sigma Ty.den} (he:e≠.E8):(e.w4 r).ty=r.1:=by cases e<;>first|rfl|exact absurd rfl he
theorem b1M {e:f9} {r:Sigma Ty.den} (he:e≠.E8):e.w4 r≠.E8:=by cases e<;>first|exact absurd rfl he|(intro h; cases h)
theorem b0s {i:Nat} {e:f9} {r:Sigma Ty.den} {ι':Ix} (h:ι'.cells i=ι.cells i):VH H ι' i (e.w4 r)=VH H ι i e:=by cases e<;>simp [VH,f9.w4,h]
theorem b5e {i:Nat} {e:f9} {r:Sigma Ty.den} {ι':Ix} (h:ι'.root i=ι.root i):VR H ι' i (e.w4 r)=VR H ι i e:=by cases e<;>simp [VR,f9.w4,h]

theorem OB.w4 {i:Nat} {e:f9} (he:e≠.E8) (ho:OB H S ι i e) (hbl:∀ c∈i8 ι i e,¬ S c∧c<H.size) (hS:∀ c,S c→c<H.size) {p:List Step} (hok:s6 e.ty e.x p) {u:Ty} {y:u.den} (hg:i6 e.ty e.x p=some ⟨u,y⟩)
  {b off:Nat} (hl:Loc H ι i e p=some (b,off)) {u':Ty} {z:u'.den} {O2:List Nat} (hc:N8 H H' b off u.size) (hsz:H'.size=H.size) (hz:d9 H' S u' O2 (d8 H' b off u'.size) z)
  (hO2:∀ c∈O2,c<H.size∧(c∈i8 ι i e→∃ Op,d9 H S u Op (d8 H b off u.size) y∧c∈Op)) (hnd2:O2.Nodup) {r:Sigma Ty.den} (hset:m0 e.ty e.x p u' z=some r) :
  ∃ O,(∀ c∈O,c∈ι.own i∨c∈O2)∧OB H' S (ι.t8 i O) i (e.w4 r)∧r.1.sh=e.ty.sh∧∀ c∈O,c∈O2∨∀ Op,d9 H S u Op (d8 H b off u.size) y→c∉Op:=by
 obtain ⟨O,hO,hR,hb,hnd,hlt,hns,hfr⟩:=ho.see he hS
 obtain ⟨O1,O3,b',off',e1,e2,e3,e4,e5,e6⟩:=focus hR hb hok hg
 obtain ⟨hpl,hbl2⟩:=r9 hl
 rw [C3 he] at hpl
 rw [e3] at hpl; cases hpl
 have hndO:(O1++O3).Nodup:=(e1.nodup_iff).1 ((hO.nodup_iff).2 (List.nodup_cons.1 hnd).2)
 have hmem:∀ c∈O1,c∈ι.own i:=fun c hc=>hO.mem_iff.1 (e1.mem_iff.2 (by simp [hc]))
 have hmem3:∀ c∈O3,c∈ι.own i:=fun c hc=>hO.mem_iff.1 (e1.mem_iff.2 (by simp [hc]))
 have hroot:=(List.nodup_cons.1 hnd).1
 have hown:∀ c∈ι.own i,c∈i8 ι i e:=by intro c hc; cases e<;>simp [i8,hc]
 have hrootS:¬ S (VR H ι i e).1:=by
  rcases hns with h|⟨t,x,rfl⟩
  ·exact h
  ·exact (hbl _ (by simp [i8,VR])).1
 have hz':d9 (VH H' ι i e) S u' O2 (d8 (VH H' ι i e) b off u'.size) z:=by
  rw [j6 (B7 (by omega))]
  exact (U9 (fun c hc=>by have:=(hO2 c hc).1; omega) (fun c hc=>by have:=hS c hc; omega)).2 hz
 -- what is new is not in what stays
 have hO3:∀ c∈O2,c∈i8 ι i e→c∈O3:=by
  intro c hc hcb
  obtain ⟨Op,h1,h2⟩:=(hO2 c hc).2 hcb
  have e4':d9 H S u O3 (d8 H b off u.size) y:=by
   rw [j6 (B7 hbl2)] at e4
   exact (U9 (fun c hc=>ho.I9 he (hmem3 c hc)) hS).1 e4
  rwa [h1.det e4'] at h2
 obtain ⟨O4,f1,f2,f3⟩:=a5l e2 hg e3 hb hlt (List.nodup_append.1 hndO).1 (fun h=>hroot (hmem _ h)) (fun c hc=>⟨(hbl c (hown c (hmem c hc))).1,Nat.lt_of_lt_of_le (hbl c (hown c (hmem c hc))).2 a1m⟩) hrootS
  (fun c hc=>Nat.lt_of_lt_of_le (hS c hc) a1m) (fun _ h=>h) (a43 hc hsz) hz' hset
 have hnd4:O4.Nodup:=(f1.nodup_iff).2 (List.nodup_append.2 ⟨(List.nodup_append.1 hndO).1,hnd2,by
  rintro c h1 d h2 rfl
  exact (List.nodup_append.1 hndO).2.2 c h1 c (hO3 c h2 (hown c (hmem c h1))) rfl⟩)
 have hsub:∀ c∈O4,c∈ι.own i∨c∈O2:=by
  intro c hc
  rcases List.mem_append.1 (f1.mem_iff.1 hc) with h|h
  ·exact .inl (hmem c h)
  ·exact .inr h
 have hlt4:∀ c∈O4,c<H'.size:=by
  intro c hc
  rw [hsz]
  rcases hsub c hc with h|h
  ·exact ho.I9 he h
  ·exact (hO2 c h).1
 have f2':=(U9 hlt4 (fun c hc=>by have:=hS c hc; omega)).1 f2
 have hnot:∀ c∈O4,c∈O2∨∀ Op,d9 H S u Op (d8 H b off u.size) y→c∉Op:=by
  intro c hc
  rcases List.mem_append.1 (f1.mem_iff.1 hc) with h|h
  ·refine .inr (fun Op hOp hcO=>?_)
   have e4':d9 H S u O3 (d8 H b off u.size) y:=by
    rw [j6 (B7 hbl2)] at e4
    exact (U9 (fun c hc=>ho.I9 he (hmem3 c hc)) hS).1 e4
   obtain rfl:Op=O3:=hOp.det e4'
   exact (List.nodup_append.1 hndO).2.2 c h c hcO rfl
  ·exact .inl h
 refine ⟨O4,hsub,?_,f3,hnot⟩
 cases e with
 | var t x =>
  simp only [f9.w4,OB,Ix.t8,if_true]
  obtain ⟨_,hf,_⟩:=ho
  refine ⟨⟨O4,List.Perm.refl _,f2'⟩,?_,?_⟩
  ·rw [C5 f3]; exact hc.free hf
  ·refine List.nodup_cons.2 ⟨fun h=>?_,hnd4⟩
   rcases hsub _ h with h1|h1
   ·exact hroot h1
   ·exact hroot (hmem3 _ (hO3 _ h1 (List.mem_cons_self ..)))
 | own t x =>
  simp only [f9.w4,OB,Ix.t8,if_true]
  refine ⟨⟨O4,List.Perm.refl _,?_⟩,hnd4⟩
  obtain ⟨⟨O',_,hR'⟩,_⟩:=ho
  have hsz1:r.1.size=t.size:=C5 f3
  have:d8 (VH H' ι i (.own t x)) (VR H ι i (.own t x)).1 (VR H ι i (.own t x)).2 r.1.size=ι.cells i:=by
   simp only [VH,VR]
   rw [← hsz]
   simp only [d8,W6,List.drop_zero]
   exact List.take_of_length_le (by rw [hR'.length,hsz1]; exact Nat.le_refl _)
  rw [this] at f2'
  exact f2'
 | E8=>exact absurd rfl he

theorem b56 {i:Nat} {e:f9} (he:e≠.E8) (ho:OB H S ι i e) (hbl:∀ c∈i8 ι i e,¬ S c∧c<H.size) (hS:∀ c,S c→c<H.size) {p:List Step} (hok:s6 e.ty e.x p) {u:Ty} {y:u.den} (hg:i6 e.ty e.x p=some ⟨u,y⟩)
  {b off:Nat} (hl:Loc H ι i e p=some (b,off)) {u':Ty} {z:u'.den} (hc:N8 H H' b off u.size) (hsz:H'.size=H.size) {r:Sigma Ty.den} (hset:m0 e.ty e.x p u' z=some r)
  {q:List Step} (hk:kp p q=true) (hq:s6 e.ty e.x q) (O:List Nat) {rr:Nat×Nat} (hr:Loc H ι i e q=some rr):Loc H' (ι.t8 i O) i (e.w4 r) q=some rr∧s6 (e.w4 r).ty (e.w4 r).x q:=by
 obtain ⟨O',hO,hR,hb,hnd,hlt,hns,hfr⟩:=ho.see he hS
 obtain ⟨O1,O3,b',off',e1,e2,e3,e4,e5,e6⟩:=focus hR hb hok hg
 obtain ⟨hpl,hbl2⟩:=r9 hl
 rw [C3 he] at hpl
 rw [e3] at hpl; cases hpl
 have hndO:(O1++O3).Nodup:=(e1.nodup_iff).1 ((hO.nodup_iff).2 (List.nodup_cons.1 hnd).2)
 have hmem:∀ c∈O1,c∈ι.own i:=fun c hc=>hO.mem_iff.1 (e1.mem_iff.2 (by simp [hc]))
 have key:=a9G e2 hg e3 hb hlt (List.nodup_append.1 hndO).1 (fun h=>(List.nodup_cons.1 hnd).1 (hmem _ h)) (fun c hc=>Nat.lt_of_lt_of_le (ho.I9 he (hmem c hc)) a1m) (a43 hc hsz) hset hk hq
 obtain ⟨hr1,hr2⟩:=r9 (b:=rr.1) (off:=rr.2) hr
 rw [C3 he] at hr1
 have hu:s6 (e.w4 r).ty (e.w4 r).x q:=by
  cases e<;>first|exact key.2|exact absurd rfl he
 refine ⟨M5 (b:=rr.1) (off:=rr.2) ?_ (by omega),hu⟩
 rw [C3 (b1M he),b0s (ι:=ι) (ι':=ι.t8 i O) rfl,b5e (ι:=ι) (ι':=ι.t8 i O) rfl,b2z hsz,b4b he,key.1]
 exact hr1

theorem b36 {i:Nat} {e:f9} (he:e≠.E8) (ho:OB H S ι i e) (hbl:∀ c∈i8 ι i e,¬ S c∧c<H.size) (hS:∀ c,S c→c<H.size) {p:List Step} (hok:s6 e.ty e.x p) {u:Ty} {y:u.den} (hg:i6 e.ty e.x p=some ⟨u,y⟩)
  {b off:Nat} (hl:Loc H ι i e p=some (b,off)) {u':Ty} {z:u'.den} (hc:N8 H H' b off u.size) (hsz:H'.size=H.size) {r:Sigma Ty.den} (hset:m0 e.ty e.x p u' z=some r)
  {q:List Step} (hk:kc e.ty p q=true) (hk2:kp p q=true) (hq:s6 e.ty e.x q) (O:List Nat) {u1:Ty} {y1:u1.den} (hg1:i6 e.ty e.x q=some ⟨u1,y1⟩) {cs:List Value} (hcs:Cells H ι i e q u1 cs) :
  s6 (e.w4 r).ty (e.w4 r).x q∧(∃ y2:u1.den,i6 (e.w4 r).ty (e.w4 r).x q=some ⟨u1,y2⟩)∧Cells H' (ι.t8 i O) i (e.w4 r) q u1 cs:=by
 obtain ⟨O',hO,hR,hb,hnd,hlt,hns,hfr⟩:=ho.see he hS
 obtain ⟨O1,O3,b',off',e1,e2,e3,e4,e5,e6⟩:=focus hR hb hok hg
 obtain ⟨hpl,hbl2⟩:=r9 hl
 rw [C3 he] at hpl
 rw [e3] at hpl; cases hpl
 have hndO:(O1++O3).Nodup:=(e1.nodup_iff).1 ((hO.nodup_iff).2 (List.nodup_cons.1 hnd).2)
 have hmem:∀ c∈O1,c∈ι.own i:=fun c hc=>hO.mem_iff.1 (e1.mem_iff.2 (by simp [hc]))
 have hnb:=fun h=>(List.nodup_cons.1 hnd).1 (hmem _ h)
 have hlo:∀ c∈O1,c<(VH H ι i e).size:=fun c hc=>Nat.lt_of_lt_of_le (ho.I9 he (hmem c hc)) a1m
 have key:=a9G e2 hg e3 hb hlt (List.nodup_append.1 hndO).1 hnb hlo (a43 hc hsz) hset hk2 hq
 obtain ⟨⟨y2,hy2⟩,key2⟩:=b3x e2 hg e3 hb hlt (List.nodup_append.1 hndO).1 hnb hlo (a43 hc hsz) hset hk hq hg1
 obtain ⟨b1,o1,hp1,hc1⟩:=hcs
 rw [C3 he] at hp1
 have hc2:=key2 b1 o1 hp1
 refine ⟨?_,⟨y2,?_⟩,b1,o1,?_,?_⟩
 ·cases e<;>first|exact key.2|exact absurd rfl he
 ·cases e<;>first|exact hy2|exact absurd rfl he
 ·rw [C3 (b1M he),b0s (ι:=ι) (ι':=ι.t8 i O) rfl,b5e (ι:=ι) (ι':=ι.t8 i O) rfl,b2z hsz,b4b he,key.1]
  exact hp1
 ·rw [b0s (ι:=ι) (ι':=ι.t8 i O) rfl,hc2]
  exact hc1

end
end Go.Ex

namespace Go.Ex

section
variable {E:Env} {B:y9} {S:Nat→Prop} {ι:Ix} {s:St} {a:Act} {w:World} {hp:List (Nat×f9)} {H H':Array Go.Obj}

theorem a1v:∀ {t:Ty} {x:t.den} {p:List Step} {u:Ty} {y:u.den} {u':Ty} {z:u'.den} {r:Sigma Ty.den},i6 t x p=some ⟨u,y⟩→m0 t x p u' z=some r→u'.sh=u.sh:=by
 intro t
 induction t with
 | pair a c iha ihc =>
  intro x p u y u' z r hg hs
  match p,hg,hs with
  | [],hg,hs =>
   simp only [i6,Option.some.injEq] at hg; cases hg
   simp only [m0] at hs
   split at hs
   ·rename_i e; exact e
   ·cases hs
  | .i9 0::p,hg,hs =>
   simp only [m0] at hs
   split at hs
   ·rename_i t' w hw; exact iha hg hw
   ·cases hs
  | .i9 (n+1)::p,hg,hs =>
   simp only [m0] at hs
   split at hs
   ·rename_i t' w hw; exact ihc hg hw
   ·cases hs
  | .idx i::p,_,hs=>simp [m0] at hs
 | arr n t ih =>
  intro x p u y u' z r hg hs
  match p,hg,hs with
  | [],hg,hs =>
   simp only [i6,Option.some.injEq] at hg; cases hg
   simp only [m0] at hs
   split at hs
   ·rename_i e; exact e
   ·cases hs
  | .idx i::p,hg,hs =>
   simp only [m0] at hs
   split at hs
   ·rename_i t' w hw; exact ih hg hw
   ·cases hs
  | .i9 i::p,_,hs=>simp [m0] at hs
 | d0 o t ih =>
  intro x p u y u' z r hg hs
  match p,hg,hs with
  | [],hg,hs =>
   have hg:some (⟨.d0 o t,x⟩:Sigma Ty.den)=some ⟨u,y⟩:=by cases o<;>exact hg
   cases hg
   have hs:(if u'.sh=(Ty.d0 o t).sh then some (⟨u',z⟩:Sigma Ty.den) else none)=some r:=by cases o<;>exact hs
   split at hs
   ·rename_i e; exact e
   ·cases hs
  | .idx i::p,hg,hs =>
   cases o with
   | false=>simp [m0] at hs
   | true =>
    simp only [m0] at hs
    split at hs
    ·rename_i t' w hw; exact ih hg hw
    ·cases hs
  | .i9 i::p,_,hs=>cases o<;>simp [m0] at hs
 | _ =>
  intro x p u y u' z r hg hs
  match p,hg,hs with
  | [],hg,hs =>
   simp only [i6,Option.some.injEq] at hg; cases hg
   simp only [m0] at hs
   split at hs
   ·rename_i e; exact e
   ·cases hs
  | .idx i::p,_,hs=>simp [m0] at hs
  | .i9 i::p,_,hs=>simp [m0] at hs


theorem RS.a6G (h:RS B S ι s a w) {i:Nat} {e:f9} (he:look i s.hp=some e) {p:List Step} (hok:s6 e.ty e.x p) {u:Ty} {y:u.den} (hg:i6 e.ty e.x p=some ⟨u,y⟩) {b off:Nat} (hl:Loc w.heap ι i e p=some (b,off))
  {u':Ty} {z:u'.den} {cs:List Value} {O2:List Nat} (hz:∀ H',H'.size=w.heap.size→N8 w.heap H' b off u.size→d9 H' S u' O2 cs z) (hcs:cs.length=u.size) (hnd2:O2.Nodup)
  (hO2:∀ c∈O2,(¬ S c∧(B.w0.heap.size≤c∨B.M c)∧c<w.heap.size)∧(∀ j ej,j≠i→look j s.hp=some ej→c∉i8 ι j ej)∧(c∈i8 ι i e→∃ Op,d9 w.heap S u Op (d8 w.heap b off u.size) y∧c∈Op))
  {r:Sigma Ty.den} (hset:m0 e.ty e.x p u' z=some r) (hty:e.O5=true→p≠[]→r.1=e.ty) :
  ∃ ι',(∃ O,ι'=ι.t8 i O∧∀ c∈O,(c∈ι.own i∨c∈O2)∧(c∈O2∨∀ Op,d9 w.heap S u Op (d8 w.heap b off u.size) y→c∉Op))∧RS B S ι' ((s.kill i e.kd p).o7 i (e.w4 r)) a (w.setRow b (x8 (o6 w.heap b) off cs).toArray):=by
 have hnb:=E6 hl
 obtain ⟨Op,m1,mn,m2,m3,m4,m5⟩:=F3 hnb (h.hs.ob i e he) h.hs.slt hok hg hl
 have hf:I2 w.heap b (off+cs.length):=by rw [hcs]; exact m5
 obtain ⟨hc,hcell⟩:=a1q hf
 rw [hcs] at hc hcell
 have hsz:(w.setRow b (x8 (o6 w.heap b) off cs).toArray).heap.size=w.heap.size:=setRow_size
 generalize hw':w.setRow b (x8 (o6 w.heap b) off cs).toArray=w' at *
 have hbl:=h.hs.bl i e he
 have hbl':∀ c∈i8 ι i e,¬ S c∧c<w.heap.size:=fun c hc=>⟨(hbl c hc).1,(hbl c hc).2.2⟩
 have hnS:¬ S b:=(hbl b m4).1
 have hold:∀ c,c≠b→w'.heap[c]?=w.heap[c]?:=by intro c hcb; rw [← hw']; exact setRow_other hcb
 have husz:u'.size=u.size:=C5 (a1v hg hset)
 have hz':d9 w'.heap S u' O2 (d8 w'.heap b off u'.size) z:=by
  rw [husz,hcell]
  exact hz w'.heap hsz hc
 obtain ⟨O,n1,n2,n3,n4⟩:=OB.w4 hnb (h.hs.ob i e he) hbl' h.hs.slt hok hg hl hc hsz hz' (fun c hc=>⟨(hO2 c hc).1.2.2,(hO2 c hc).2.2⟩) hnd2 hset
 have hown:∀ c∈ι.own i,c∈i8 ι i e:=by intro c hc; cases e<;>simp [i8,hc]
 -- blocks of the object now
 have hblks:∀ c∈i8 (ι.t8 i O) i (e.w4 r),c∈i8 ι i e∨c∈O2:=by
  intro c hc
  cases e with
  | var t x =>
   simp only [i8,f9.w4,Ix.t8,if_true,List.mem_cons] at hc ⊢
   rcases hc with hc|hc
   ·exact .inl (.inl hc)
   ·exact (n1 c hc).imp .inr id
  | own t x =>
   simp only [i8,f9.w4,Ix.t8,if_true] at hc ⊢
   exact n1 c hc
  | E8=>exact absurd rfl hnb
 have hfact:∀ c∈i8 (ι.t8 i O) i (e.w4 r),(¬ S c∧(B.w0.heap.size≤c∨B.M c)∧c<w.heap.size)∧∀ j ej,j≠i→look j s.hp=some ej→c∉i8 ι j ej:=by
  intro c hc
  rcases hblks c hc with h1|h1
  ·exact ⟨hbl c h1,fun j ej hj hlj=>h.hs.dj i j e ej he hlj (Ne.symm hj) c h1⟩
  ·exact ⟨(hO2 c h1).1,(hO2 c h1).2.1⟩
 have hsame:∀ j,j≠i→w6 ι (ι.t8 i O) j:=fun j hj=>L8 hj _
 refine ⟨ι.t8 i O,⟨O,rfl,fun c hc=>⟨n1 c hc,n4 c hc⟩⟩,⟨?_,?_,?_,?_,?_,?_,h.hs.s0,h.hs.s1,?_,?_,?_,?_⟩,h.W7,h.sz,?_⟩
 ·rw [← hw']; exact h.hs.os
 ·exact K3.trans (.of (by rw [← hw']; rfl) (by rw [← hw']; rfl)) h.hs.tape
 ·rw [← hw']; exact h.hs.out
 ·rw [hsz]; exact h.hs.size
 ·intro c hc1 hm
  rw [hold c (by rintro rfl; rcases (hbl c m4).2.1 with h|h; omega; exact hm h)]
  exact h.hs.frame c hc1 hm
 ·intro c hc1; rw [hsz]; exact h.hs.slt c hc1
 ·intro j ej hj
  simp only [St.o7,l7] at hj
  by_cases e1:j=i
  ·subst e1; rw [if_pos rfl] at hj; cases hj; exact n2
  ·rw [if_neg e1] at hj
   have hj:look j s.hp=some ej:=hj
   refine (hsame j e1).ob.2 ((h.hs.ob j ej hj).o4 (fun c hcm=>hold c ?_) (fun _ h=>h))
   rintro rfl
   rcases hcm with hcm|hcm
   ·exact h.hs.dj j i ej e hj he e1 c hcm m4
   ·exact hnS hcm
 ·intro j ej hj c hc
  simp only [St.o7,l7] at hj
  rw [hsz]
  by_cases e1:j=i
  ·subst e1; rw [if_pos rfl] at hj; cases hj; exact (hfact c hc).1
  ·rw [if_neg e1] at hj
   rw [(hsame j e1).i8] at hc
   exact h.hs.bl j ej hj c hc
 ·intro j k ej ek hj hk hjk c hc
  simp only [St.o7,l7] at hj hk
  by_cases e1:j=i
  ·subst e1
   rw [if_pos rfl] at hj; cases hj
   rw [if_neg (Ne.symm hjk)] at hk
   rw [(hsame k (Ne.symm hjk)).i8]
   exact (hfact c hc).2 k ek (Ne.symm hjk) hk
  ·rw [if_neg e1] at hj
   rw [(hsame j e1).i8] at hc
   by_cases e2:k=i
   ·subst e2
    rw [if_pos rfl] at hk; cases hk
    exact fun hcc=>(hfact c hcc).2 j ej e1 hj hc
   ·rw [if_neg e2] at hk
    rw [(hsame k e2).i8]
    exact h.hs.dj j k ej ek hj hk hjk c hc
 ·intro q hq
  obtain ⟨k0,⟨e',k1⟩,k2,k3⟩:=h.hs.pin q hq
  refine ⟨k0,?_,k2,k3⟩
  simp only [St.o7,l7]
  by_cases e1:q.1=i
  ·exact ⟨_,by rw [if_pos e1]⟩
  ·exact ⟨e',by rw [if_neg e1]; exact k1⟩
 ·intro t v hv
  simp only [St.o7,St.kill,D3,Option.map_eq_some_iff] at hv
  obtain ⟨v0,hv0,rfl⟩:=hv
  refine VX.map (fun c hc=>hold c (fun e=>hnS (e▸hc))) (fun _ h=>h) (fun v vs hr hm hvx=>?_) (h.fr t v0 hv0)
  unfold AV.a0b
  cases hmi:v.e8 i with
  | false =>
   -- speaks of others
   have hne:∀ j,v.e8 j=true→j≠i:=by rintro j hj rfl; rw [hmi] at hj; cases hj
   have hst:VX w'.heap S ι (del i s.hp) v vs:=by
    refine VX.grow (fun c hcm=>hold c ?_) (fun _ h=>h) h.hs.slt (fun j ej hj=>?_) (VX.other (hp':=del i s.hp) (fun j hj=>by rw [E3,if_neg (hne j hj)]) (fun j _=>w6.refl ι j) hvx)
    ·rintro rfl
     rcases hcm with ⟨j,ej,hj,hcj⟩|hcm
     ·rw [E3] at hj
      split at hj
      ·cases hj
      ·rename_i hji
       exact h.hs.dj j i ej e hj he hji c hcj m4
     ·exact hnS hcm
    ·rw [E3] at hj
     split at hj
     ·cases hj
     ·exact h.hs.ob j ej hj
   exact VX.other (fun j hj=>by simp only [St.o7,l7,E3,if_neg (hne j hj)]; rfl) (fun j hj=>hsame j (hne j hj)) hst
  | true =>
   have hany:∀ {vs:List Value},(∃ x,vs=[x])→VX w'.heap S (ι.t8 i O) ((s.kill i e.kd p).o7 i (e.w4 r)).hp .any vs:=fun h=>h
   have honex:=VX.one hr hvx
   simp only
   cases v<;>simp only [AV.ref] at hr<;>try cases hr
   ·rename_i j q
    have hji:i=j:=Nat.eq_of_beq_eq_true hmi
    subst hji
    cases hkp:kp p q with
    | false=>simp only [hkp]; exact honex
    | true =>
     simp only [hkp]
     obtain ⟨ej,b2,off2,k1,k2,k3,k4⟩:=hvx
     rw [he] at k1; cases k1
     obtain ⟨l1,l2⟩:=b56 hnb (h.hs.ob i e he) hbl' h.hs.slt hok hg hl hc hsz hset hkp k2 O k3
     exact ⟨e.w4 r,b2,off2,by simp [St.o7,l7],l2,l1,k4⟩
   ·rename_i j q
    have hji:i=j:=Nat.eq_of_beq_eq_true hmi
    subst hji
    have hkeep:kc e.ty p q=true→kp p q=true→VX w'.heap S (ι.t8 i O) ((s.kill i e.kd p).o7 i (e.w4 r)).hp (.at_ i q) vs:=by
     intro hk1 hk2
     obtain ⟨ej,u2,y2,cs2,k1,k2,k3,k4,k5⟩:=hvx
     rw [he] at k1; cases k1
     obtain ⟨l1,⟨y3,l2⟩,l3⟩:=b36 hnb (h.hs.ob i e he) hbl' h.hs.slt hok hg hl hc hsz hset hk1 hk2 k2 O k3 k4
     exact ⟨e.w4 r,u2,y3,cs2,by simp [St.o7,l7],l1,l2,l3,k5⟩
    cases q with
    | cons st q =>
     cases hkc:kc e.kd.2 p (st::q) && kp p (st::q) with
     | false=>simp only [hkc]; exact honex
     | true =>
      simp only [hkc]
      rw [Bool.and_eq_true] at hkc
      exact hkeep hkc.1 hkc.2
    | nil =>
     have hdef:VX w'.heap S (ι.t8 i O) ((s.kill i e.kd p).o7 i (e.w4 r)).hp (match kc e.kd.2 p [] with|true=>AV.at_ i []|false=>AV.any) vs:=by
      cases hkc:kc e.kd.2 p [] with
      | false=>exact honex
      | true=>exact hkeep hkc (by cases p<;>rfl)
     rcases hpq:p with _|⟨_|jx,pq⟩<;>cases how:e.O5<;>simp only [f9.kd,how]<;>first|(rw [hpq] at hdef; exact hdef)|skip
     ·obtain ⟨ej,u2,y2,cs2,k1,k2,k3,k4,k5⟩:=hvx
      rw [he] at k1; cases k1
      have hrt:=hty how (by rw [hpq]; simp)
      rw [u5] at k3; cases k3
      obtain ⟨t0,x0,rfl⟩:∃ t0 x0,e=.own t0 x0:=by cases e<;>first|exact ⟨_,_,rfl⟩|(simp [f9.O5] at how)
      obtain ⟨⟨O',_,hR'⟩,_⟩:=h.hs.ob i _ he
      have hcs2:=K7 k4 hR'.length
      have hrt:r.1=t0:=hrt
      refine ⟨.own r.1 r.2,r.1,r.2,cs2,by simp [St.o7,l7,f9.w4],H5,u5,a0w (by rw [hcs2]; rfl) (by rw [hcs2,hR'.length,hrt]),?_⟩
      rw [k5]
      simp only [f9.ty,hrt]
   ·rename_i j q lo hi
    have hji:i=j:=Nat.eq_of_beq_eq_true hmi
    subst hji
    cases q with
    | cons st q=>exact honex
    | nil =>
     rcases hpq:p with _|⟨_|jx,pq⟩<;>cases how:e.O5<;>simp only [f9.kd,how]<;>first|exact honex|skip
     ·obtain ⟨ej,v2,k1,k2,k3,k4,k5,k6⟩:=hvx
      rw [he] at k1; cases k1
      have hrt:=hty how (by rw [hpq]; simp)
      obtain ⟨t0,x0,rfl⟩:∃ t0 x0,e=.own t0 x0:=by cases e<;>first|exact ⟨_,_,rfl⟩|(simp [f9.O5] at how)
      obtain ⟨⟨O',_,hR'⟩,_⟩:=h.hs.ob i _ he
      have hrt:r.1=t0:=hrt
      rcases k6 with ⟨t',l,a',cap,g1,g2,g3,g4⟩|⟨n,t',l,b2,off2,g1,g2,g3,g4⟩
      ·rw [u5] at g1; cases g1
       obtain ⟨rt,rx⟩:=r
       have hrt:rt=.d0 true t':=hrt
       subst hrt
       have hcs2:=K7 g3 hR'.length
       -- the length stands, as the header does
       have hlen:List.length (rx:(Ty.d0 true t').den)=List.length (x0:(Ty.d0 true t').den):=by
        obtain ⟨⟨O'',_,hR''⟩,_⟩:=n2
        have hcc:(ι.t8 i O).cells i=[.slice a' (List.length (x0:(Ty.d0 true t').den)) cap]:=(show ι.cells i=_ from hcs2.symm)
        rw [hcc] at hR''
        rcases hR'' with ⟨_,⟨a2,c2,h1,_⟩,h3⟩|⟨b3,o3,cap3,O3,c1,_⟩
        ·simp only [List.cons.injEq,Value.slice.injEq,and_true] at h1
         subst h3
         simp [h1.2.1]
        ·simp only [List.cons.injEq,Value.slice.injEq,and_true] at c1
         exact c1.2.1.symm
       refine ⟨.own (.d0 true t') rx,v2,by simp [St.o7,l7,f9.w4],H5,k3,k4,k5,.inl ⟨t',rx,a',cap,u5,by rw [hlen]; exact g2,?_,g4⟩⟩
       rw [hlen]
       exact a0w (show ι.cells i=_ from hcs2.symm) rfl
      ·exfalso
       simp only [Loc,Place,s8,VR] at g3
       simp at g3

theorem RS.store (h:RS B S ι s a w) {i:Nat} {e:f9} (he:look i s.hp=some e) {p:List Step} (hok:s6 e.ty e.x p) {u:Ty} {y:u.den} (hg:i6 e.ty e.x p=some ⟨u,y⟩) {b off:Nat} (hl:Loc w.heap ι i e p=some (b,off))
  {u':Ty} {z:u'.den} {cs:List Value} {O2:List Nat} (hz:∀ H',H'.size=w.heap.size→N8 w.heap H' b off u.size→d9 H' S u' O2 cs z) (hcs:cs.length=u.size) (hnd2:O2.Nodup)
  (hO2:∀ c∈O2,(¬ S c∧(B.w0.heap.size≤c∨B.M c)∧c<w.heap.size)∧(∀ j ej,j≠i→look j s.hp=some ej→c∉i8 ι j ej)∧(c∈i8 ι i e→∃ Op,d9 w.heap S u Op (d8 w.heap b off u.size) y∧c∈Op))
  {r:Sigma Ty.den} (hset:m0 e.ty e.x p u' z=some r) (hty:e.O5=true→p≠[]→r.1=e.ty) :
  ∃ ι',RS B S ι' ((s.kill i e.kd p).o7 i (e.w4 r)) a (w.setRow b (x8 (o6 w.heap b) off cs).toArray):=by
 obtain ⟨ι',_,h1⟩:=h.a6G he hok hg hl hz hcs hnd2 hO2 hset hty
 exact ⟨ι',h1⟩

end
end Go.Ex

namespace Go.Ex

section
variable {E:Env} {B:y9} {S:Nat→Prop} {ι:Ix} {s:St} {a:Act} {w:World} {hp:List (Nat×f9)} {H H':Array Go.Obj}

/-! ways that go on -/
theorem b3V:∀ {t:Ty} {x:t.den} {p q:List Step} {b off:Nat} {u:Ty} {y:u.den},i6 t x p=some ⟨u,y⟩→s9 H t (p++q) b off=(s9 H t p b off).bind fun r=>s9 H u q r.1 r.2:=by
 intro t
 induction t with
 | pair a c iha ihc =>
  intro x p q b off u y h
  match p,h with
  | [],h=>simp only [i6,Option.some.injEq] at h; cases h; rfl
  | .i9 0::p,h=>exact iha h
  | .i9 (n+1)::p,h=>exact ihc h
  | .idx i::p,h=>simp [i6] at h
 | arr n t ih =>
  intro x p q b off u y h
  match p,h with
  | [],h=>simp only [i6,Option.some.injEq] at h; cases h; rfl
  | .idx i::p,h=>exact ih h
  | .i9 i::p,h=>simp [i6] at h
 | d0 o t ih =>
  intro x p q b off u y h
  match p,h with
  | [],h =>
   have h:some (⟨.d0 o t,x⟩:Sigma Ty.den)=some ⟨u,y⟩:=by cases o<;>exact h
   cases h
   have:s9 H (.d0 o t) [] b off=some (b,off):=by cases o<;>rfl
   rw [this]; rfl
  | .idx i::p,h =>
   cases o with
   | false=>simp [i6] at h
   | true =>
    simp only [List.cons_append,s9]
    split
    ·exact ih h
    ·rfl
  | .i9 i::p,h=>cases o<;>simp [i6] at h
 | _ =>
  intro x p q b off u y h
  match p,h with
  | [],h=>simp only [i6,Option.some.injEq] at h; cases h; rfl
  | .idx i::p,h=>simp [i6] at h
  | .i9 i::p,h=>simp [i6] at h

theorem P0:∀ {t:Ty} {x:t.den} {p q:List Step} {u:Ty} {y:u.den},i6 t x p=some ⟨u,y⟩→s6 t x p→s6 u y q→s6 t x (p++q):=by
 intro t
 induction t with
 | pair a c iha ihc =>
  intro x p q u y h h1 h2
  match p,h,h1 with
  | [],h,_=>simp only [i6,Option.some.injEq] at h; cases h; exact h2
  | .i9 0::p,h,h1=>exact iha h h1 h2
  | .i9 (n+1)::p,h,h1=>exact ihc h h1 h2
  | .idx i::p,h,_=>simp [i6] at h
 | arr n t ih =>
  intro x p q u y h h1 h2
  match p,h,h1 with
  | [],h,_=>simp only [i6,Option.some.injEq] at h; cases h; exact h2
  | .idx i::p,h,h1=>exact ⟨h1.1,ih h h1.2 h2⟩
  | .i9 i::p,h,_=>simp [i6] at h
 | d0 o t ih =>
  intro x p q u y h h1 h2
  match p,h,h1 with
  | [],h,_ =>
   have h:some (⟨.d0 o t,x⟩:Sigma Ty.den)=some ⟨u,y⟩:=by cases o<;>exact h
   cases h; exact h2
  | .idx i::p,h,h1 =>
   cases o with
   | false=>simp [i6] at h
   | true=>exact ⟨h1.1,ih h h1.2 h2⟩
  | .i9 i::p,h,_=>cases o<;>simp [i6] at h
 | _ =>
  intro x p q u y h h1 h2
  match p,h,h1 with
  | [],h,_=>simp only [i6,Option.some.injEq] at h; cases h; exact h2
  | .idx i::p,h,_=>simp [i6] at h
  | .i9 i::p,h,_=>simp [i6] at h

theorem V0 {i:Nat} {e:f9} {p q:List Step} {u:Ty} {y:u.den} (hg:i6 e.ty e.x p=some ⟨u,y⟩) {b off:Nat} (hl:Place H ι i e p=some (b,off)) {r:Nat×Nat} (hn:s9 (VH H ι i e) u q b off=some r) :
  Place H ι i e (p++q)=some r:=by
 have he:=a1y hl
 rw [C3 he] at hl ⊢
 rw [b3V hg,hl]; exact hn

theorem a0W {i:Nat} {e:f9} {p q:List Step} {u:Ty} {y:u.den} (hg:i6 e.ty e.x p=some ⟨u,y⟩) {b off:Nat} (hl:Loc H ι i e p=some (b,off)) {off':Nat} (hn:∀ G:Array Go.Obj,s9 G u q b off=some (b,off')) :
  Loc H ι i e (p++q)=some (b,off'):=by
 obtain ⟨h1,h2⟩:=r9 hl
 exact M5 (V0 hg h1 (hn _)) h2

/-! fields -/
def J5:Ty→Nat→Nat
 | .pair _ _,0=>0
 | .pair a b,n+1=>a.size+J5 b n
 | _,_=>0

theorem a0B:∀ {t:Ty} {x:t.den} {n:Nat} {u:Ty} {z:u.den} {b off:Nat},i6 t x [.i9 n]=some ⟨u,z⟩→s9 H t [.i9 n] b off=some (b,off+J5 t n):=by
 intro t
 induction t with
 | pair a c _ ihc =>
  intro x n u z b off h
  match n,h with
  | 0,h=>cases a<;>rfl
  | n+1,h =>
   have:=ihc (x:=x.2) (b:=b) (off:=off+a.size) h
   simp only [s9,J5] at this ⊢
   rw [this,Nat.add_assoc]
 | d0 o t _=>intro x n u z b off h; cases o<;>simp [i6] at h
 | _=>intro x n u z b off h; simp [i6] at h

theorem a1u:∀ {t:Ty} {x:t.den} {n:Nat} {u:Ty} {z:u.den},i6 t x [.i9 n]=some ⟨u,z⟩→s6 t x [.i9 n]:=by
 intro t
 induction t with
 | pair a c _ ihc =>
  intro x n u z h
  match n,h with
  | 0,h=>cases a<;>trivial
  | n+1,h=>exact ihc (x:=x.2) h
 | d0 o t _=>intro x n u z h; cases o<;>simp [i6] at h
 | _=>intro x n u z h; simp [i6] at h

theorem b5R {P:Program} {k:Nat}:∀ {t:Ty} {x:t.den} {n:Nat} {u:Ty} {z:u.den} {fs:List Field} {o:Nat},l8 (n7 P k) fs o t=true→i6 t x [.i9 n]=some ⟨u,z⟩ →
  ∃ f,fs[n]?=some f∧f.offset=o+J5 t n∧1≤u.size∧n7 P k f.type u=true:=by
 intro t
 induction t with
 | pair a c _ ihc =>
  intro x n u z fs o h hg
  cases fs with
  | nil=>simp [l8] at h
  | cons f fs =>
   simp only [l8,Bool.and_eq_true] at h
   obtain ⟨⟨⟨⟨h1,h2⟩,h3⟩,_⟩,h4⟩:=h
   match n,hg with
   | 0,hg =>
    have hg:some (⟨a,x.1⟩:Sigma Ty.den)=some ⟨u,z⟩:=by
     rw [← hg]; simp only [i6]
    cases hg
    exact ⟨f,rfl,Nat.eq_of_beq_eq_true h1,Nat.le_of_ble_eq_true h2,h3⟩
   | n+1,hg =>
    obtain ⟨g,e1,e2,e3,e4⟩:=ihc (x:=x.2) h4 hg
    exact ⟨g,by simpa using e1,by rw [e2]; simp only [J5]; omega,e3,e4⟩
 | d0 o t _=>intro x n u z fs o' h hg; cases o<;>simp [i6] at hg
 | _=>intro x n u z fs o h hg; simp [i6] at hg

theorem a2P {P:Program} {k:Nat} {T:TypeId} {t:Ty} {x:t.den} {n:Nat} {u:Ty} {z:u.den} (h:n7 P k T t=true) (hg:i6 t x [.i9 n]=some ⟨u,z⟩) :
  ∃ fs f k',P.underlying T=some (.struct fs)∧fs[n]?=some f∧f.offset=J5 t n∧1≤u.size∧n7 P k' f.type u=true:=by
 cases k with
 | zero=>simp [n7] at h
 | succ k =>
  obtain ⟨d,h1,h2⟩:=I7 h
  simp only [n7,Bool.and_eq_true,h1] at h
  obtain ⟨_,h⟩:=h
  cases t with
  | pair a c =>
   cases d<;>first|(exact (Bool.false_ne_true h).elim)|skip
   rename_i fs
   have h:l8 (n7 P k) fs.toList 0 (.pair a c)=true:=h
   obtain ⟨f,e1,e2,e3,e4⟩:=b5R h hg
   exact ⟨fs,f,k,h1,by simpa using e1,by simpa using e2,e3,e4⟩
  | d0 o t=>cases o<;>simp [i6] at hg
  | _=>simp [i6] at hg

theorem X1 {P:Program} {k:Nat} {T:TypeId} {t:Ty} {x:t.den} {n:Nat} {u:Ty} {z:u.den} (h:n7 P k T t=true) (hg:i6 t x [.i9 n]=some ⟨u,z⟩) (b off:Nat) :
  (Instr.fieldAt T (.pointer (some ⟨b,off,none⟩)) n).run P w=.ok (.pointer (some ⟨b,off+J5 t n,none⟩)) w:=by
 obtain ⟨fs,f,k',h1,h2,h3,h4,h5⟩:=a2P h hg
 have:¬ u.size=0:=by omega
 simp [Instr.fieldAt,n9 h1,h2,Instr.sureAddr,fieldPlace,run_sizeOf h5,this,h3,Addr.B6]

/-! elements -/
theorem Q6 {P:Program} {k:Nat} {T:TypeId} {m:Nat} {t:Ty} (h:n7 P k T (.arr m t)=true):∃ e k',P.underlying T=some (.array m e)∧1≤t.size∧n7 P k' e t=true:=by
 cases k with
 | zero=>simp [n7] at h
 | succ k =>
  obtain ⟨d,h1,h2⟩:=I7 h
  simp only [n7,Bool.and_eq_true,h1] at h
  obtain ⟨_,h⟩:=h
  cases d<;>first|(exact (Bool.false_ne_true h).elim)|skip
  ·simp only [Bool.and_eq_true] at h
   rw [Nat.eq_of_beq_eq_true h.1.1] at h1
   exact ⟨_,k,h1,Nat.le_of_ble_eq_true h.1.2,h.2⟩
  ·rename_i fs
   have h:l8 (n7 P k) fs.toList 0 (.arr m t)=true:=h
   cases hf:fs.toList<;>(rw [hf] at h; simp [l8] at h)

theorem B3 {P:Program} {k:Nat} {T:TypeId} {o:Bool} {t:Ty} (h:n7 P k T (.d0 o t)=true):∃ e k',P.underlying T=some (.slice e)∧1≤t.size∧n7 P k' e t=true:=by
 cases k with
 | zero=>simp [n7] at h
 | succ k =>
  obtain ⟨d,h1,h2⟩:=I7 h
  simp only [n7,Bool.and_eq_true,h1] at h
  obtain ⟨_,h⟩:=h
  cases d<;>first|(exact (Bool.false_ne_true h).elim)|skip
  ·simp only [Bool.and_eq_true] at h
   exact ⟨_,k,h1,Nat.le_of_ble_eq_true h.1,h.2⟩
  ·rename_i fs
   have h:l8 (n7 P k) fs.toList 0 (.d0 o t)=true:=h
   cases hf:fs.toList<;>(rw [hf] at h; simp [l8] at h)

theorem L3 {P:Program} {k:Nat} {T:TypeId} (h:n7 P k T .str=true):P.underlying T=some .string:=by
 cases k with
 | zero=>simp [n7] at h
 | succ k =>
  obtain ⟨d,h1,h2⟩:=I7 h
  simp only [n7,Bool.and_eq_true,h1] at h
  obtain ⟨_,h⟩:=h
  cases d<;>first|exact h1|(exact (Bool.false_ne_true h).elim)|skip
  ·rename_i fs
   have h:l8 (n7 P k) fs.toList 0 .str=true:=h
   cases hf:fs.toList<;>(rw [hf] at h; simp [l8] at h)

theorem b1N {P:Program} {k f:Nat} {T:TypeId} (h:n7 P k T (.fn f)=true):∃ a b c,P.underlying T=some (.func a b c):=by
 cases k with
 | zero=>simp [n7] at h
 | succ k =>
  obtain ⟨d,h1,h2⟩:=I7 h
  simp only [n7,Bool.and_eq_true,h1] at h
  obtain ⟨_,h⟩:=h
  cases d<;>first|exact ⟨_,_,_,h1⟩|(exact (Bool.false_ne_true h).elim)|skip
  ·rename_i fs
   have h:l8 (n7 P k) fs.toList 0 (.fn f)=true:=h
   cases hf:fs.toList<;>(rw [hf] at h; simp [l8] at h)

theorem a51 {P:Program} {k:Nat} {T:TypeId} {o:Bool} {a b:Ty} (h:n7 P k T (.map o a b)=true):∃ K V k',P.underlying T=some (.map K V)∧a.shared=true∧b.shared=true∧n7 P k' K a=true∧n7 P k' V b=true:=by
 cases k with
 | zero=>simp [n7] at h
 | succ k =>
  obtain ⟨d,h1,h2⟩:=I7 h
  simp only [n7,Bool.and_eq_true,h1] at h
  obtain ⟨_,h⟩:=h
  cases d<;>first|(exact (Bool.false_ne_true h).elim)|skip
  ·simp only [Bool.and_eq_true] at h
   exact ⟨_,_,k,h1,h.1.1.1,h.1.1.2,h.1.2,h.2⟩
  ·rename_i fs
   have h:l8 (n7 P k) fs.toList 0 (.map o a b)=true:=h
   cases hf:fs.toList<;>(rw [hf] at h; simp [l8] at h)

theorem a9l {P:Program} {k:Nat} {T:TypeId} {o:Bool} {a:Ty} (h:n7 P k T (.box o none a)=true):∃ e k',P.underlying T=some (.pointer e)∧n7 P k' e a=true:=by
 cases k with
 | zero=>simp [n7] at h
 | succ k =>
  obtain ⟨d,h1,h2⟩:=I7 h
  simp only [n7,Bool.and_eq_true,h1] at h
  obtain ⟨_,h⟩:=h
  cases d<;>first|(exact (Bool.false_ne_true h).elim)|skip
  ·exact ⟨_,k,h1,h⟩
  ·rename_i fs
   have h:l8 (n7 P k) fs.toList 0 (.box o none a)=true:=h
   cases hf:fs.toList<;>(rw [hf] at h; simp [l8] at h)

theorem a76 {P:Program} {k:Nat} {T:TypeId} {o:Bool} {g:Nat} {a:Ty} (h:n7 P k T (.box o (some g) a)=true):∃ p q v,P.underlying T=some (.func p q v):=by
 cases k with
 | zero=>simp [n7] at h
 | succ k =>
  obtain ⟨d,h1,h2⟩:=I7 h
  simp only [n7,Bool.and_eq_true,h1] at h
  obtain ⟨_,h⟩:=h
  cases d<;>first|(exact (Bool.false_ne_true h).elim)|skip
  ·rename_i fs
   have h:l8 (n7 P k) fs.toList 0 (.box o (some g) a)=true:=h
   cases hf:fs.toList<;>(rw [hf] at h; simp [l8] at h)
  ·exact ⟨_,_,_,h1⟩

theorem S8 {P:Program} {k:Nat} {T:TypeId} {kd:IntKind} (h:n7 P k T (.int kd)=true):P.underlying T=some (.int kd):=by
 cases k with
 | zero=>simp [n7] at h
 | succ k =>
  obtain ⟨d,h1,h2⟩:=I7 h
  simp only [n7,Bool.and_eq_true,h1] at h
  obtain ⟨_,h⟩:=h
  cases d<;>first|(exact (Bool.false_ne_true h).elim)|skip
  ·rw [of_decide_eq_true h] at h1; exact h1
  ·rename_i fs
   have h:l8 (n7 P k) fs.toList 0 (.int kd)=true:=h
   cases hf:fs.toList<;>(rw [hf] at h; simp [l8] at h)

theorem X6 {P:Program} {k:Nat} {T:TypeId} {m:Nat} {t:Ty} (h:n7 P k T (.arr m t)=true) (b off:Nat) {kd:IntKind} {n:Int} (hn:0≤n∧n<m) :
  (Instr.indexAt T (.pointer (some ⟨b,off,none⟩)) (.int kd n)).run P w=.ok (.pointer (some ⟨b,off+n.toNat*t.size,none⟩)) w:=by
 obtain ⟨e,k',h1,h2,h3⟩:=Q6 h
 simp [Instr.indexAt,asIntOf,n9 h1,Instr.sureAddr,hn,run_sizeOf h3,Addr.B6]

theorem M6 {P:Program} {k:Nat} {T:TypeId} {o:Bool} {t:Ty} (h:n7 P k T (.d0 o t)=true) (b off len cap:Nat) {kd:IntKind} {n:Int} (hn:0≤n∧n<len) :
  (Instr.indexAt T (.slice (some ⟨b,off,none⟩) len cap) (.int kd n)).run P w=.ok (.pointer (some ⟨b,off+n.toNat*t.size,none⟩)) w:=by
 obtain ⟨e,k',h1,h2,h3⟩:=B3 h
 simp [Instr.indexAt,asIntOf,n9 h1,hn,run_sizeOf h3,Addr.B6]

end
end Go.Ex

namespace Go.Ex

section
variable {E:Env} {B:y9} {S:Nat→Prop} {ι:Ix} {s:St} {a:Act} {w:World} {hp:List (Nat×f9)} {H H':Array Go.Obj}

theorem a6W {α:Type} {n:Int} (h:0≤n∧n<(([]:List α).length:Int)):False:=by
 simp at h; omega

theorem t6 {x:Operand} (h:RS B S ι s a w) {v:AV} (e:s.ev x=v):VX w.heap S ι s.hp v [a.eval x]:=e▸h.ev x

theorem E4 {P:Program} {o:Oper} {sem:Sem Value} (he:execOp a.eval o=(do pure (.value (← sem)))) (h:RS B S ι s a w) {v:AV} {val:Value} (hr:sem.run P w=.ok val w)
  (hv:VX w.heap S ι s.hp v [val]):s7 P B o a w v s:=s7.value (C9 he hr) h hv

theorem U4 {i:Nat} {e e':f9} (h1:look i s.hp=some e) (h:s.obj i=some e'):e'=e:=by
 rw [St.obj,h1] at h; cases h; rfl


theorem C4 (h:HS B S ι hp w) {i:Nat} {e:f9} (hi:look i hp=some e) {p:List Step} (hok:s6 e.ty e.x p) {u:Ty} {y:u.den} (hg:i6 e.ty e.x p=some ⟨u,y⟩) {cs:List Value} (hc:Cells w.heap ι i e p u cs) :
  ∃ O2,(∀ c∈O2,c∈ι.own i)∧O2.Nodup∧d9 w.heap S u O2 cs y:=by
 obtain ⟨b,off,O2,k1,k2,k3,k4,_⟩:=(h.ob i e hi).part (a1z hc) h.slt hok hg
 obtain ⟨b',off',h1,rfl⟩:=hc
 rw [k1] at h1; cases h1
 exact ⟨O2,k2,k3,k4⟩

theorem B4 {i:Nat} {e:f9} {c:Nat} (h:c∈ι.own i):c∈i8 ι i e:=by cases e<;>simp [i8,h]

theorem i5.take {α:Type} {R:List Nat→List Value→α→Prop} {sz:Nat}:∀ {l:List α} {O:List Nat} {cs:List Value} (k:Nat),i5 R sz O cs l→∃ O1 O2,O=O1++O2∧i5 R sz O1 (cs.take (k*sz)) (l.take k)∧i5 R sz O2 (cs.drop (k*sz)) (l.drop k)
 | l,O,cs,0,h=>⟨[],O,rfl,by simp [i5],by simpa using h⟩
 | [],O,cs,k+1,⟨h1,h2⟩=>⟨[],[],by simp [h1],by simp [i5,h2],by simp [i5,h2]⟩
 | x::l,O,cs,k+1,⟨O1,O2,e,h1,h2⟩=>by
  obtain ⟨P1,P2,e',g1,g2⟩:=i5.take k h2
  refine ⟨O1++P1,P2,by rw [e,e',List.append_assoc],⟨O1,P1,rfl,?_,?_⟩,?_⟩
  ·rw [List.take_take,Nat.min_eq_left (by rw [Nat.succ_mul]; omega)]; exact h1
  ·rw [List.drop_take,show (k+1)*sz - sz=k*sz from by rw [Nat.succ_mul]; omega]; exact g1
  ·rw [List.drop_drop,show sz+k*sz=(k+1)*sz from by rw [Nat.succ_mul]; omega] at g2
   exact g2

theorem i5.cut {α:Type} {R:List Nat→List Value→α→Prop} {sz:Nat} {l:List α} {O:List Nat} {cs:List Value} (a n:Nat) (h:i5 R sz O cs l):∃ O1 O2 O3,O=O1++(O2++O3)∧i5 R sz O2 ((cs.drop (a*sz)).take (n*sz)) ((l.drop a).take n):=by
 obtain ⟨O1,O2,e,_,h2⟩:=h.take a
 obtain ⟨P1,P2,e',g1,_⟩:=h2.take n
 exact ⟨O1,P1,P2,by rw [e,e'],g1⟩

theorem T4 {α:Type} {lo hi:Int} {l:List α} (h0:0≤lo) (h2:hi≤(l.length:Int)):(G1 lo hi l).length=(hi - lo).toNat:=by
 simp only [G1,List.length_take,List.length_drop]
 omega

def LB (S:Nat→Prop) (ι:Ix) (hp:List (Nat×f9)) (b:Nat):Prop:=S b∨∃ i e,look i hp=some e∧b∈i8 ι i e

def b3Y (H:Array Go.Obj) (S:Nat→Prop) (t:Ty) (l:List t.den) (A:Option Addr) (L:Nat→Prop):Prop :=
 l=[]∨∃ b off O,A=some ⟨b,off,none⟩∧L b∧off+l.length*t.size≤(o6 H b).length∧i5 (d9 H S t) t.size O (d8 H b off (l.length*t.size)) l∧∀ c∈O,L c

theorem a5m (h:HS B S ι s.hp w) {i:Nat} {p:List Step} {lo hi:Int} {v:Value} (hv:VX w.heap S ι s.hp (.sub i p lo hi) [v]) {t:Ty} {l:List t.den} (hw:s.view i p lo hi=some ⟨t,l⟩) :
  ∃ A c,v=.slice A l.length c∧b3Y w.heap S t l A (LB S ι s.hp)∧(l.length:Int)=hi - lo∧0≤lo∧lo≤hi∧∃ e,look i s.hp=some e∧s6 e.ty e.x p ∧
   (l≠[]→∃ b off,A=some ⟨b,off,none⟩∧∀ n:Int,0≤n→n<l.length→∃ off2,Loc w.heap ι i e (p++[.idx (lo+n)])=some (b,off2)∧off2=off+n.toNat*t.size∧s6 e.ty e.x (p++[.idx (lo+n)])):=by
 obtain ⟨e,v',h1,h2,h3,h4,h5,h6⟩:=hv
 cases h3
 have hob:=h.ob i e h1
 unfold St.view at hw
 rcases h6 with ⟨t',l',a,cap,k1,k2,k3,c,A,k4,kA,k5,k6⟩|⟨n,t',l',b,off,k1,⟨k2,k2'⟩,k3,c,A,k4,kA,k5,k6⟩
 ·have hp:s.part i p=some ⟨.d0 true t',l'⟩:=by unfold St.part St.obj; rw [h1]; exact k1
  rw [hp] at hw
  simp only [Option.some.injEq,Sigma.mk.injEq] at hw
  obtain ⟨rfl,hw⟩:=hw
  have hw:=eq_of_heq hw
  subst hw
  have hlen:(G1 lo hi l').length=(hi - lo).toNat:=T4 h4 k2
  refine ⟨_,c,by rw [hlen]; exact k4,?_,by omega,h4,h5,e,h1,h2,?_⟩
  ·by_cases hz:G1 lo hi l'=[]
   ·exact .inl hz
   ·obtain ⟨O2,m1,m2,m3⟩:=C4 h h1 h2 k1 k3
    rcases m3 with ⟨_,_,hn⟩|⟨b1,o1,cap',O',c1,c2,c3,c4,c5,rfl,c7⟩
    ·exfalso; apply hz; rw [hn]; simp [G1]
    ·simp only [List.cons.injEq,Value.slice.injEq,and_true] at c1
     obtain ⟨rfl,_,rfl⟩:=c1
     have hpos:0<(hi - lo).toNat:=by rw [← hlen]; exact List.length_pos_iff.2 hz
     obtain ⟨P1,P2,P3,e1,g⟩:=c5.cut lo.toNat (hi - lo).toNat
     have hle:lo.toNat*t'.size+(hi - lo).toNat*t'.size≤List.length l'*t'.size:=by rw [← Nat.add_mul]; exact Nat.mul_le_mul_right _ (by omega)
     rw [l6,l5 _ _ _ _ (by omega)] at g
     refine .inr ⟨b1,o1+lo.toNat*t'.size,P2,?_,.inr ⟨i,e,h1,B4 (m1 b1 (by simp))⟩,?_,by rw [hlen]; exact g,fun c hc=>.inr ⟨i,e,h1,B4 (m1 c (by rw [e1]; simp [hc]))⟩⟩
     ·rw [kA (by omega),Option.map_some,Addr.B6]
     ·rw [hlen]; omega
  ·intro hz
   obtain ⟨O2,m1,m2,m3⟩:=C4 h h1 h2 k1 k3
   rcases m3 with ⟨_,_,hn⟩|⟨b1,o1,cap',O',c1,c2,c3,c4,c5,rfl,c7⟩
   ·exfalso; apply hz; rw [hn]; simp [G1]
   ·simp only [List.cons.injEq,Value.slice.injEq,and_true] at c1
    obtain ⟨rfl,_,rfl⟩:=c1
    have hpos:0<(hi - lo).toNat:=by rw [← hlen]; exact List.length_pos_iff.2 hz
    refine ⟨b1,o1+lo.toNat*t'.size,by rw [kA (by omega),Option.map_some,Addr.B6],fun n hn0 hn=>?_⟩
    obtain ⟨b0,off0,q1,q2⟩:=k3
    have hh:=(H4 b0 off0 _).1 q2.symm
    refine ⟨o1+(lo+n).toNat*t'.size,M5 (V0 k1 q1 ?_) c7.free.lt,by rw [show (lo+n).toNat=lo.toNat+n.toNat from by omega,Nat.add_mul]; omega,P0 k1 h2 ⟨⟨by omega,by omega⟩,H5⟩⟩
    simp only [s9,hh,s8]
 ·have hp:s.part i p=some ⟨.arr n t',l'⟩:=by unfold St.part St.obj; rw [h1]; exact k1
  rw [hp] at hw
  simp only [Option.some.injEq,Sigma.mk.injEq] at hw
  obtain ⟨rfl,hw⟩:=hw
  have hw:=eq_of_heq hw
  subst hw
  obtain ⟨O2,m1,m2,m3,m4,m5,m6⟩:=F3 (E6 k3) hob h.slt h2 k1 k3
  obtain ⟨hl,m3⟩:=m3
  have hlen:(G1 lo hi l').length=(hi - lo).toNat:=T4 h4 (by rw [hl]; exact k2)
  refine ⟨_,c,by rw [hlen]; exact k4,?_,by omega,h4,h5,e,h1,h2,?_⟩
  ·by_cases hz:G1 lo hi l'=[]
   ·exact .inl hz
   ·have hpos:0<(hi - lo).toNat:=by rw [← hlen]; exact List.length_pos_iff.2 hz
    obtain ⟨P1,P2,P3,e1,g⟩:=m3.cut lo.toNat (hi - lo).toNat
    have hle:lo.toNat*t'.size+(hi - lo).toNat*t'.size≤n*t'.size:=by rw [← Nat.add_mul]; exact Nat.mul_le_mul_right _ (by omega)
    simp only [Ty.size] at g m4
    rw [l6,l5 _ _ _ _ (by omega)] at g
    refine .inr ⟨b,off+lo.toNat*t'.size,P2,?_,.inr ⟨i,e,h1,m5⟩,?_,by rw [hlen]; exact g,fun c hc=>.inr ⟨i,e,h1,B4 (m1 c (by rw [e1]; simp [hc]))⟩⟩
    ·rw [kA (by omega),Option.map_some,Addr.B6]
    ·rw [hlen]; omega
  ·intro hz
   have hpos:0<(hi - lo).toNat:=by rw [← hlen]; exact List.length_pos_iff.2 hz
   refine ⟨b,off+lo.toNat*t'.size,by rw [kA (by omega),Option.map_some,Addr.B6],fun m hm0 hm=>?_⟩
   refine ⟨off+(lo+m).toNat*t'.size,a0W k1 k3 (fun G=>by simp only [s9,s8]),by rw [show (lo+m).toNat=lo.toNat+m.toNat from by omega,Nat.add_mul]; omega,P0 k1 h2 ⟨⟨by omega,by omega⟩,H5⟩⟩

theorem b1T {H:Array Go.Obj} {o:Bool} {t:Ty} {O:List Nat} {cs:List Value} {l:(Ty.d0 o t).den} (hR:d9 H S (.d0 o t) O cs l) {L:Nat→Prop} (hO:∀ c∈O,L c) (hS:∀ c,S c→L c) :
  ∃ A c,j7 (.d0 o t) cs=.slice A (List.length l) c∧b3Y H S t l A L:=by
 rcases hR with ⟨_,⟨a,c,rfl,_⟩,hn⟩|⟨b1,o1,cap',O',rfl,c2,c3,c4,c5,c6⟩
 ·have:List.length l=0:=by rw [hn]; rfl
  exact ⟨a,c,by rw [this]; rfl,.inl hn⟩
 ·refine ⟨_,_,rfl,.inr ⟨b1,o1,O',rfl,?_,c4,c5,?_⟩⟩
  ·cases o with
   | true=>exact hO b1 (by rw [c6.1]; simp)
   | false=>exact hS b1 c6.2.2
  ·cases o with
   | true=>intro c hc; exact hO c (by rw [c6.1]; simp [hc])
   | false=>intro c hc; rw [c6.2.1] at hc; cases hc

theorem a5x (h:HS B S ι s.hp w) {v:AV} {val:Value} (hv:VX w.heap S ι s.hp v [val]) {t:Ty} {l:List t.den} (hw:v.els s=some ⟨t,l⟩):∃ A c,val=.slice A l.length c∧b3Y w.heap S t l A (LB S ι s.hp):=by
 unfold AV.els at hw
 split at hw
 ·rename_i o t' l'
  simp only [Option.some.injEq,Sigma.mk.injEq] at hw
  obtain ⟨rfl,hw⟩:=hw
  have hw:=eq_of_heq hw
  subst hw
  obtain ⟨cs,e,hR⟩:=hv
  have e:val=j7 (.d0 o t') cs:=by simpa using e
  obtain ⟨A,c,k1,k2⟩:=b1T hR (L:=LB S ι s.hp) (by simp) (fun c hc=>.inl hc)
  exact ⟨A,c,e.trans k1,k2⟩
 ·rename_i i p
  split at hw
  ·rename_i o t' l' hp
   simp only [Option.some.injEq,Sigma.mk.injEq] at hw
   obtain ⟨rfl,hw⟩:=hw
   have hw:=eq_of_heq hw
   subst hw
   obtain ⟨e,u,y,cs,h1,h2,h3,h4,h5⟩:=hv
   have hg:=C6 h1 hp
   rw [h3] at hg; cases hg
   have h5:val=j7 (.d0 o t') cs:=by simpa using h5
   obtain ⟨O2,m1,m2,m3⟩:=C4 h h1 h2 h3 h4
   obtain ⟨A,c,k1,k2⟩:=b1T m3 (L:=LB S ι s.hp) (fun c hc=>.inr ⟨i,e,h1,B4 (m1 c hc)⟩) (fun c hc=>.inl hc)
   exact ⟨A,c,h5.trans k1,k2⟩
  ·cases hw
 ·obtain ⟨A,c,k1,k2,_⟩:=a5m h hv hw
  exact ⟨A,c,k1,k2⟩
 ·cases hw

theorem a5j {t:Ty} {y:Option t.den} {val:Value} (hv:VX w.heap S ι s.hp (.val (.box false none t) y) [val]) (hy:y.isSome=true):VX w.heap S ι s.hp (.N1 t (y.getD t.n6)) [val]:=by
 obtain ⟨cs,e,hR⟩:=hv
 rcases hR with ⟨rfl,_⟩|⟨z,b,off,O',rfl,rfl,h2,h3,_,rfl,h4⟩
 ·cases hy
 ·exact ⟨b,off,by simpa [j7,Ty.agg,a2Z] using e,h4,h2,h3⟩

theorem a50 {f:Nat} {t:Ty} {y:Option t.den} {val:Value} (hv:VX w.heap S ι s.hp (.val (.box false (some f) t) y) [val]) (hy:y.isSome=true):∃ p,val=.func (.func f) #[] #[p]∧VX w.heap S ι s.hp (.N1 t (y.getD t.n6)) [p]:=by
 obtain ⟨cs,e,hR⟩:=hv
 rcases hR with ⟨rfl,_⟩|⟨z,b,off,O',rfl,rfl,h2,h3,_,rfl,h4⟩
 ·cases hy
 ·exact ⟨_,by simpa [j7,Ty.agg,a2Z] using e,b,off,rfl,h4,h2,h3⟩

theorem a7c (hE:t7 E B) (h:RS B S ι s a w) {o:Oper} {T:TypeId} {x:Operand} {n:Nat} (ho:o.op=.fieldAddr T x n):A5 E.P B o a w (l4 E o s):=by
 have he:execOp a.eval o=(do pure (.value (← Instr.fieldAt T (a.eval x) n))):=by simp [execOp,ho]
 unfold l4
 rw [ho]
 simp only
 split
 ·rename_i i p hx
  split
  ·rename_i u z hpt
   split
   ·rename_i r hc hg2
    obtain ⟨e,b,off,h1,h2,h3,h4⟩:=t6 h hx
    have hg:=C6 h1 hpt
    have h4:a.eval x=.pointer (some ⟨b,off,none⟩):=by simpa using h4
    obtain ⟨u2,z2⟩:=r
    exact E4 he h (by rw [h4]; exact X1 (u7 hE hc) hg2 b off) ⟨e,b,off+J5 u n,h1,P0 hg h2 (a1u hg2),a0W hg h3 (fun G=>a0B hg2),rfl⟩
   ·trivial
  ·trivial
 ·rename_i t y hx
  split
  ·rename_i u z hc hg
   obtain ⟨b,off,e,h1,h2,h3⟩:=t6 h hx
   have e:a.eval x=.pointer (some ⟨b,off,none⟩):=by simpa using e
   have hok:=a1u hg
   obtain ⟨O1,O2,b',off',e1,e2,e3,e4,e5,e6⟩:=focus h3 h2 hok hg
   have hO:O1=[]∧O2=[]:=by have:=e1.nil_eq; simpa using this.symm
   rw [a0B hg] at e3; cases e3
   refine E4 he h (by rw [e]; exact X1 (u7 hE hc) hg b off) ⟨b,off+J5 t n,rfl,h1,e5,?_⟩
   rw [hO.2] at e4; exact e4
  ·trivial
 ·rename_i t y hx
  split
  ·rename_i u z hc hg
   intro hy
   obtain ⟨b,off,e,h1,h2,h3⟩:=a5j (t6 h hx) hy
   have e:a.eval x=.pointer (some ⟨b,off,none⟩):=by simpa using e
   have hok:=a1u hg
   obtain ⟨O1,O2,b',off',e1,e2,e3,e4,e5,e6⟩:=focus h3 h2 hok hg
   have hO:O1=[]∧O2=[]:=by have:=e1.nil_eq; simpa using this.symm
   rw [a0B hg] at e3; cases e3
   refine E4 he h (by rw [e]; exact X1 (u7 hE hc) hg b off) ⟨b,off+J5 t n,rfl,h1,e5,?_⟩
   rw [hO.2] at e4; exact e4
  ·trivial
 ·trivial

theorem a68 (hE:t7 E B) (h:RS B S ι s a w) {o:Oper} {T:TypeId} {x y:Operand} (ho:o.op=.indexAddr T x y):A5 E.P B o a w (l4 E o s):=by
 have he:execOp a.eval o=(do pure (.value (← Instr.indexAt T (a.eval x) (a.eval y)))):=by simp [execOp,ho]
 unfold l4
 rw [ho]
 simp only
 split
 ·rename_i d p k n hx hy
  split
  ·rename_i m u z hpt
   split
   ·rename_i hc
    intro hn
    obtain ⟨e,b,off,h1,h2,h3,h4⟩:=t6 h hx
    have hg:=C6 h1 hpt
    have h4:a.eval x=.pointer (some ⟨b,off,none⟩):=by simpa using h4
    obtain ⟨hyv,_⟩:=VX.C7 (t6 h hy)
    exact E4 he h (by rw [h4,hyv]; exact X6 (u7 hE hc) b off hn) ⟨e,b,off+n.toNat*u.size,h1,P0 hg h2 ⟨hn,H5⟩,a0W hg h3 (fun G=>by simp only [s9,s8]),rfl⟩
   ·trivial
  ·trivial
 ·rename_i m t z k n hx hy
  split
  ·rename_i hc
   intro hn
   obtain ⟨b,off,e,h1,h2,h3⟩:=t6 h hx
   have e:a.eval x=.pointer (some ⟨b,off,none⟩):=by simpa using e
   obtain ⟨hyv,_⟩:=VX.C7 (t6 h hy)
   have hok:s6 (.arr m t) z [.idx n]:=⟨hn,by cases t<;>trivial⟩
   have hg:i6 (.arr m t) z [.idx n]=some ⟨t,List.getD z (Int.toNat n) t.n6⟩:=by simp only [i6]
   obtain ⟨O1,O2,b',off',e1,e2,e3,e4,e5,e6⟩:=focus h3 h2 hok hg
   have hO:O1=[]∧O2=[]:=by have:=e1.nil_eq; simpa using this.symm
   have e3':s9 w.heap (.arr m t) [.idx n] b off=some (b,off+Int.toNat n*t.size):=by simp only [s9]
   rw [e3'] at e3; cases e3
   refine E4 he h (by rw [e,hyv]; exact X6 (u7 hE hc) b off hn) ⟨b,off+Int.toNat n*t.size,rfl,h1,e5,?_⟩
   rw [hO.2] at e4; exact e4
  ·trivial
 ·rename_i t z k n hx hy
  split
  ·rename_i hc
   intro hn
   obtain ⟨cs,e,hR⟩:=t6 h hx
   have e:a.eval x=j7 (.d0 false t) cs:=by simpa using e
   obtain ⟨hyv,_⟩:=VX.C7 (t6 h hy)
   rcases hR with ⟨_,_,hz⟩|⟨b1,o1,cap,O',c1,c2,c3,c4,c5,c6,c7,c8⟩
   ·subst hz; exact (a6W hn).elim
   ·have hxv:a.eval x=.slice (some ⟨b1,o1,none⟩) (List.length z) cap:=by rw [e,c1]; rfl
    obtain ⟨b1',b2,b3,b4⟩:=x5 (sz:=t.size) hn
    obtain ⟨P1,P2,P3,e1,g1,g2,g3⟩:=i5.split (d:=t.n6) (i:=Int.toNat n) b1' c5
    have hle:t.size≤List.length z*t.size - Int.toNat n*t.size:=by omega
    rw [l6,l5 _ _ _ _ hle] at g2
    have hP:P2=[]:=by rw [c7] at e1; have:=List.append_eq_nil_iff.1 e1.symm; exact (List.append_eq_nil_iff.1 this.2).1
    refine E4 he h (by rw [hxv,hyv]; exact M6 (u7 hE hc) b1 o1 _ cap hn) ⟨b1,o1+Int.toNat n*t.size,rfl,c8,by omega,?_⟩
    rw [hP] at g2; exact g2
  ·trivial
 ·rename_i d p k n hx hy
  split
  ·rename_i u z hpt
   split
   ·rename_i hc
    intro hn
    obtain ⟨e,u',y',cs,h1,h2,h3,h4,h5⟩:=t6 h hx
    have hg:=C6 h1 hpt
    rw [h3] at hg; cases hg
    obtain ⟨hyv,_⟩:=VX.C7 (t6 h hy)
    have h5:a.eval x=j7 (.d0 true u) cs:=by simpa using h5
    obtain ⟨O2,m1,m2,m3⟩:=C4 h.hs h1 h2 h3 h4
    rcases m3 with ⟨_,_,hz⟩|⟨b1,o1,cap,O',rfl,c2,c3,c4,c5,c6,c7⟩
    ·subst hz; exact (a6W hn).elim
    ·have hxv:a.eval x=.slice (some ⟨b1,o1,none⟩) (List.length z) cap:=h5
     obtain ⟨b0,off0,q1,q2⟩:=h4
     have hh:=(H4 b0 off0 _).1 q2.symm
     refine E4 he h (by rw [hxv,hyv]; exact M6 (u7 hE hc) b1 o1 _ cap hn) ⟨e,b1,o1+n.toNat*u.size,h1,P0 h3 h2 ⟨hn,H5⟩,M5 (V0 h3 q1 ?_) c7.free.lt,rfl⟩
     simp only [s9,hh,s8]
   ·trivial
  ·trivial
 ·rename_i d p lo hi k n hx hy
  split
  ·rename_i u l hvw
   split
   ·rename_i hc
    intro hn
    have hn1:@LE.le Int Int.instLEInt 0 n:=hn.1
    have hn2:@LT.lt Int Int.instLTInt n (hi - lo):=hn.2
    obtain ⟨A,c,k1,k2,k3,k4,k5,e,k6,k7,k8⟩:=a5m h.hs (t6 h hx) hvw
    obtain ⟨hyv,_⟩:=VX.C7 (t6 h hy)
    have hz:l≠[]:=by rintro rfl; have k3:((0:Nat):Int)=hi - lo:=k3; omega
    obtain ⟨b,off,rfl,k9⟩:=k8 hz
    obtain ⟨off2,q1,rfl,q3⟩:=k9 n hn.1 (by omega)
    exact E4 he h (by rw [k1,hyv]; exact M6 (u7 hE hc) b off _ c (by omega)) ⟨e,b,_,k6,q3,q1,rfl⟩
   ·trivial
  ·trivial
 ·trivial

theorem b6N:∀ {t:Ty} {x:t.den} {n:Nat} {u:Ty} {z:u.den} {cs:List Value},d9 H S t [] cs x→i6 t x [.i9 n]=some ⟨u,z⟩→d9 H S u [] ((cs.drop (J5 t n)).take u.size) z∧t.agg=true:=by
 intro t
 induction t with
 | pair a c _ ihc =>
  intro x n u z cs hR h
  obtain ⟨O1,O2,e,h1,h2⟩:=hR
  have e1:O1=[]∧O2=[]:=by simpa using e.symm
  rw [e1.1] at h1; rw [e1.2] at h2
  refine ⟨?_,rfl⟩
  match n,h with
  | 0,h =>
   have h:some (⟨a,x.1⟩:Sigma Ty.den)=some ⟨u,z⟩:=by rw [← h]; simp only [i6]
   cases h
   simpa [J5] using h1
  | n+1,h =>
   have:=(ihc (x:=x.2) h2 h).1
   simpa [J5,List.drop_drop,Nat.add_comm] using this
 | d0 o t _=>intro x n u z cs _ h; cases o<;>simp [i6] at h
 | _=>intro x n u z cs _ h; simp [i6] at h

theorem b5y:∀ {t:Ty} {x:t.den} {n:Nat} {u:Ty} {z:u.den} {O:List Nat} {cs:List Value},d9 H S t O cs x→i6 t x [.i9 n]=some ⟨u,z⟩→∃ O2,(∀ c∈O2,c∈O)∧d9 H S u O2 ((cs.drop (J5 t n)).take u.size) z∧t.agg=true:=by
 intro t
 induction t with
 | pair a c _ ihc =>
  intro x n u z O cs hR h
  obtain ⟨O1,O2,rfl,h1,h2⟩:=hR
  match n,h with
  | 0,h =>
   have h:some (⟨a,x.1⟩:Sigma Ty.den)=some ⟨u,z⟩:=by rw [← h]; simp only [i6]
   cases h
   exact ⟨O1,fun c hc=>by simp [hc],by simpa [J5] using h1,rfl⟩
  | n+1,h =>
   obtain ⟨O3,k1,k2,_⟩:=ihc (x:=x.2) h2 h
   exact ⟨O3,fun c hc=>by simp [k1 c hc],by simpa [J5,List.drop_drop,Nat.add_comm] using k2,rfl⟩
 | d0 o t _=>intro x n u z O cs _ h; cases o<;>simp [i6] at h
 | _=>intro x n u z O cs _ h; simp [i6] at h

theorem b6W:∀ {t:Ty} {x:t.den} {n:Nat} {u:Ty} {z:u.den},i6 t x [.i9 n]=some ⟨u,z⟩→J5 t n+u.size≤t.size:=by
 intro t
 induction t with
 | pair a c _ ihc =>
  intro x n u z h
  match n,h with
  | 0,h =>
   have h:some (⟨a,x.1⟩:Sigma Ty.den)=some ⟨u,z⟩:=by rw [← h]; simp only [i6]
   cases h
   simp [J5,Ty.size]
  | n+1,h =>
   have:=ihc (x:=x.2) h
   simp only [J5,Ty.size]; omega
 | d0 o t _=>intro x n u z h; cases o<;>simp [i6] at h
 | _=>intro x n u z h; simp [i6] at h

theorem a5M:∀ {t:Ty} {x:t.den} {p q:List Step} {u:Ty} {y:u.den} {r:Sigma Ty.den},i6 t x p=some ⟨u,y⟩→i6 u y q=some r→i6 t x (p++q)=some r:=by
 intro t
 induction t with
 | pair a c iha ihc =>
  intro x p q u y r h1 h2
  match p,h1 with
  | [],h1=>simp only [i6,Option.some.injEq] at h1; cases h1; exact h2
  | .i9 0::p,h1=>exact iha h1 h2
  | .i9 (n+1)::p,h1=>exact ihc (p:=.i9 n::p) h1 h2
  | .idx i::p,h1=>simp [i6] at h1
 | arr n t ih =>
  intro x p q u y r h1 h2
  match p,h1 with
  | [],h1=>simp only [i6,Option.some.injEq] at h1; cases h1; exact h2
  | .idx i::p,h1=>exact ih h1 h2
  | .i9 i::p,h1=>simp [i6] at h1
 | d0 o t ih =>
  intro x p q u y r h1 h2
  match p,h1 with
  | [],h1=>rw [u5] at h1; cases h1; exact h2
  | .idx i::p,h1=>cases o with
   | true=>exact ih h1 h2
   | false=>simp [i6] at h1
  | .i9 i::p,h1=>cases o<;>simp [i6] at h1
 | _ =>
  intro x p q u y r h1 h2
  match p,h1 with
  | [],h1=>simp only [i6,Option.some.injEq] at h1; cases h1; exact h2
  | .idx i::p,h1=>simp [i6] at h1
  | .i9 i::p,h1=>simp [i6] at h1

theorem V7 {P:Program} {k:Nat} {T:TypeId} {u:Ty} {cs:List Value} {off:Nat} {z:u.den} {O:List Nat} (h:n7 P k T u=true) (hR:d9 H S u O ((cs.drop off).take u.size) z) :
  (part T cs.toArray off).run P w=.ok (j7 u ((cs.drop off).take u.size)) w:=by
 have hl:=hR.length
 simp only [part,Sem.run_bind,a2B h,Result.andThen]
 cases hg:u.agg with
 | true =>
  simp only [if_true,Sem.run_bind,run_sizeOf h,Result.andThen]
  simp [j7,hg]
 | false =>
  have h1:u.size=1:=by cases u<;>simp_all [Ty.agg,Ty.size]
  rw [h1] at hl ⊢
  match hc:(cs.drop off).take 1,hl with
  | [c],_ =>
   have:cs[off]?=some c:=by
    have:((cs.drop off).take 1)[0]?=some c:=by rw [hc]; rfl
    simpa using this
   simp [this,j7,hg]

theorem b2H (h:RS B S ι s a w) {o:Oper} {op:UnOp} {T:TypeId} {x:Operand} {P:Program} (ho:o.op=.unOp op T x):A5 P B o a w (unA op (s.ev x) s):=by
 have he:execOp a.eval o=(do pure (.value (← Op.unary op (a.eval x)))):=by simp [execOp,ho]
 unfold unA
 split
 ·rename_i b hx
  have:=VX.a1e (t6 h hx)
  exact E4 he h (by rw [this]; rfl) VX.bool
 ·rename_i k n hx
  obtain ⟨hv,_⟩:=VX.C7 (t6 h hx)
  exact a1l (by rw [C9 he (w':=w) (val:=.int k (k.wrap (0 - n)))]; rw [hv]; rfl) h
 ·rename_i k n hx
  obtain ⟨hv,_⟩:=VX.C7 (t6 h hx)
  refine E4 he h (val:=.int k (b0l k (if k.signed then -1 else k.max) n)) (by rw [hv]; rfl) (VX.int (W8 _ _))
 ·trivial

theorem b1m (hE:t7 E B) (h:RS B S ι s a w) {o:Oper} {T:TypeId} {x:Operand} {n:Nat} (ho:o.op=.field T x n):A5 E.P B o a w (l4 E o s):=by
 have he:execOp a.eval o=(do pure (.value (← Instr.field T (a.eval x) n))):=by simp [execOp,ho]
 unfold l4
 rw [ho]
 simp only
 split
 ·rename_i t y hx
  split
  ·rename_i u z hc hg
   obtain ⟨cs,e,hR⟩:=t6 h hx
   have e:a.eval x=j7 t cs:=by simpa using e
   obtain ⟨fs,f,k',h1,h2,h3,h4,h5⟩:=a2P (u7 hE hc) hg
   obtain ⟨hR2,hag⟩:=b6N hR hg
   have:a.eval x=.agg cs.toArray:=by rw [e,j7,hag]; rfl
   refine E4 he h (val:=j7 u ((cs.drop (J5 t n)).take u.size)) ?_ ⟨_,rfl,hR2⟩
   rw [this]
   have:=V7 (w:=w) h5 hR2
   simp [Instr.field,n9 h1,h2,asAgg,h3,this]
  ·trivial
 ·rename_i i p hx
  split
  ·rename_i t y hpt
   split
   ·rename_i u z hc hg
    obtain ⟨e,t',y',cs,h1,h2,h3,h4,h5⟩:=t6 h hx
    have hgp:=C6 h1 hpt
    rw [h3] at hgp; cases hgp
    have h5:a.eval x=j7 t cs:=by simpa using h5
    obtain ⟨fs,f,k',q1,q2,q3,q4,q5⟩:=a2P (u7 hE hc) hg
    obtain ⟨O2,m1,m2,m3⟩:=C4 h.hs h1 h2 h3 h4
    obtain ⟨O3,m4,hR2,hag⟩:=b5y m3 hg
    have hxv:a.eval x=.agg cs.toArray:=by rw [h5,j7,hag]; rfl
    have hrun:=V7 (w:=w) q5 hR2
    have hr:(Instr.field T (a.eval x) n).run E.P w=.ok (j7 u ((cs.drop (J5 t n)).take u.size)) w:=by
     rw [hxv]
     simp [Instr.field,n9 q1,q2,asAgg,q3,hrun]
    split
    ·rename_i hs
     have:=hR2.F4 hs
     subst this
     exact E4 he h hr ⟨_,rfl,hR2⟩
    ·refine E4 he h hr ⟨e,u,z,_,h1,P0 h3 h2 (a1u hg),a5M h3 hg,?_,rfl⟩
     obtain ⟨b0,off0,g1,rfl⟩:=h4
     refine ⟨b0,off0+J5 t n,V0 h3 g1 (a0B hg),?_⟩
     have:=m3.length
     have hle:=b6W hg
     rw [l6,l5 _ _ _ _ (by omega)]
   ·trivial
  ·trivial
 ·trivial

end
end Go.Ex

namespace Go.Ex

section
variable {E:Env} {B:y9} {S S':Nat→Prop} {ι:Ix} {s:St} {a:Act} {w:World} {hp:List (Nat×f9)} {H H':Array Go.Obj}

theorem Ty.a5n (t:Ty):t.sh.sh=t.sh:=by
 induction t with
 | pair a b iha ihb=>simp only [Ty.sh,iha,ihb]
 | arr n t ih=>simp only [Ty.sh,ih]
 | d0 o t ih=>simp only [Ty.sh,ih]
 | hole t ih=>simp only [Ty.sh,ih]
 | r7 t ih=>simp only [Ty.sh,ih]
 | box o g t ih=>simp only [Ty.sh,ih]
 | _=>rfl

theorem a8t {A A' C C':Type} (ha:A=A') (hc:C=C') (h:(A×C)=(A'×C')) (x:A×C):cast h x=(cast ha x.1,cast hc x.2):=by subst ha; subst hc; rfl
theorem Z2 {A A':Type} (ha:A=A') (h:List A=List A') (l:List A):cast h l=l.map (cast ha):=by
 subst ha
 show l=List.map (fun x=>x) l
 simp

theorem b5X {A A':Type} (ha:A=A') (h:Option A=Option A') (x:Option A):cast h x=x.map (cast ha):=by
 subst ha
 show x=Option.map (fun x=>x) x
 simp

theorem i5.map {α β:Type} {R:List Nat→List Value→α→Prop} {R':List Nat→List Value→β→Prop} {sz:Nat} {f:α→β} {L:List Nat} (hr:∀ O cs x,(∀ b∈O,b∈L)→R O cs x→R' [] cs (f x)) :
  ∀ {l:List α} {O:List Nat} {cs:List Value},(∀ b∈O,b∈L)→i5 R sz O cs l→i5 R' sz [] cs (l.map f)
 | [],_,_,_,⟨_,h⟩=>⟨rfl,h⟩
 | _::_,_,_,hO,⟨O1,O2,e,h1,h2⟩=>by
  subst e
  exact ⟨[],[],rfl,hr _ _ _ (fun b hb=>hO b (by simp [hb])) h1,i5.map hr (fun b hb=>hO b (by simp [hb])) h2⟩

theorem d9.a0Y:∀ {u:Ty} {O:List Nat} {cs:List Value} {y:u.den},d9 H S u O cs y→(∀ b∈O,S' b)→(∀ b,S b→S' b)→u.M8=true→d9 H S' u.sh [] cs (cast (A7 u).symm y):=by
 intro u
 induction u with
 | int k=>intro O cs y h _ _ _; exact ⟨rfl,h.2⟩
 | bool=>intro O cs y h _ _ _; exact ⟨rfl,h.2⟩
 | str=>intro O cs y h _ _ _; exact ⟨rfl,h.2⟩
 | unit=>intro O cs y h _ _ _; exact ⟨rfl,h.2⟩
 | fn f=>intro O cs y h _ _ _; exact ⟨rfl,h.2⟩
 | map o k v =>
  rintro O cs y h hO hS hn
  show d9 H S' (.map false k v) [] cs y
  rcases h with h|⟨l,b,es,ck,h0,h2,h3,h4,h5⟩
  ·exact .inl ⟨h.1,rfl,h.2.2⟩
  have hb:S' b:=by
   cases o with
   | true=>exact hO b (by rw [h5]; simp)
   | false=>exact hS b h5.2
  exact .inr ⟨l,b,es,ck,h0,h2,h3,h4.mono (fun _ _ h=>h.o4 (fun _ _=>rfl) hS) (fun _ _ h=>h.o4 (fun _ _=>rfl) hS),rfl,hb⟩
 | box o g t ih =>
  rintro O cs y h hO hS hn
  have e:=b5X (A7 t).symm (A7 (.box o g t)).symm y
  refine Eq.subst (motive:=fun z=>d9 H S' (.box false g t.sh) [] cs z) e.symm ?_
  rcases h with ⟨rfl,_,h⟩|⟨z,b,off,O',rfl,h1,h2,h3,h4⟩
  ·exact .inl ⟨rfl,rfl,h⟩
  have hb:S' b:=by
   cases o with
   | true=>exact hO b (by rw [h4.1]; simp)
   | false=>exact hS b h4.2.2
  have hO':∀ c∈O',S' c:=by
   intro c hc
   cases o with
   | true=>exact hO c (by rw [h4.1]; simp [hc])
   | false=>rw [h4.2.1] at hc; cases hc
  exact .inr ⟨_,b,off,[],rfl,h1,by rw [I8]; exact h2,by rw [I8]; exact ih h3 hO' hS hn,rfl,rfl,hb⟩
 | pair a c iha ihc =>
  rintro O cs y ⟨O1,O2,rfl,h1,h2⟩ hO hS hn
  simp only [Ty.M8,Bool.and_eq_true] at hn
  have e:=a8t (A7 a).symm (A7 c).symm (A7 (.pair a c)).symm y
  refine Eq.subst (motive:=fun z=>d9 H S' (.pair a.sh c.sh) [] cs z) e.symm ?_
  exact ⟨[],[],rfl,by rw [I8]; exact iha h1 (fun b hb=>hO b (by simp [hb])) hS hn.1,by rw [I8]; exact ihc h2 (fun b hb=>hO b (by simp [hb])) hS hn.2⟩
 | arr n t ih =>
  rintro O cs y ⟨h1,h2⟩ hO hS hn
  have e:=Z2 (A7 t).symm (A7 (.arr n t)).symm y
  refine Eq.subst (motive:=fun z=>d9 H S' (.arr n t.sh) [] cs z) e.symm ?_
  refine ⟨by rw [List.length_map]; exact h1,?_⟩
  rw [I8]
  exact i5.map (L:=O) (fun O1 cs x hL hr=>ih hr (fun b hb=>hO b (hL b hb)) hS hn) (fun _ h=>h) h2
 | d0 o t ih =>
  rintro O cs y h hO hS hn
  have e:=Z2 (A7 t).symm (A7 (.d0 o t)).symm y
  refine Eq.subst (motive:=fun z=>d9 H S' (.d0 false t.sh) [] cs z) e.symm ?_
  rcases h with ⟨_,⟨a,c,h2,h2'⟩,h3⟩|⟨b,off,cap,O',c1,c2,c3,c4,c5,c6⟩
  ·subst h3; exact .inl ⟨rfl,⟨a,c,h2,fun h=>by cases h⟩,rfl⟩
  ·have hb:S' b:=by
    cases o with
    | true=>exact hO b (by rw [c6.1]; simp)
    | false=>exact hS b c6.2.2
   have hO':∀ c∈O',c∈O:=by
    intro c hc
    cases o with
    | true=>rw [c6.1]; simp [hc]
    | false=>rw [c6.2.1] at hc; cases hc
   refine .inr ⟨b,off,cap,[],by rw [List.length_map]; exact c1,by rw [List.length_map]; exact c2,⟨c3.1,fun h=>by cases h⟩,by rw [List.length_map,I8]; exact c4,?_,rfl,rfl,hb⟩
   rw [List.length_map,I8]
   exact i5.map (L:=O) (fun O1 cs x hL hr=>ih hr (fun b hb=>hO b (hL b hb)) hS hn) hO' c5
 | hole t ih=>intro O cs y _ _ _ hn; cases hn
 | r7 t ih=>intro O cs y _ _ _ hn; cases hn

theorem Ty.b4m (t:Ty):t.shH.sh=t.sh:=by
 induction t with
 | pair a b iha ihb=>simp only [Ty.shH,Ty.sh,iha,ihb]
 | arr n t ih=>simp only [Ty.shH,Ty.sh,Ty.a5n]
 | d0 o t ih=>simp only [Ty.shH,Ty.sh,Ty.a5n]
 | r7 t ih=>simp only [Ty.shH,Ty.sh,Ty.a5n]
 | box o g t ih=>simp only [Ty.shH,Ty.sh,Ty.a5n]
 | _=>rfl

theorem a56 (t:Ty):t.shH.size=t.size:=C5 (Ty.b4m t)

theorem d9.b75:∀ {u:Ty} {O:List Nat} {cs:List Value} {y:u.den},d9 H S u O cs y→(∀ b∈O,S' b)→(∀ b,S b→S' b)→u.okH=true→d9 H S' u.shH [] cs (cast (a3i u).symm y):=by
 intro u
 induction u with
 | pair a c iha ihc =>
  rintro O cs y ⟨O1,O2,rfl,h1,h2⟩ hO hS hn
  simp only [Ty.okH,Bool.and_eq_true] at hn
  have e:=a8t (a3i a).symm (a3i c).symm (a3i (.pair a c)).symm y
  refine Eq.subst (motive:=fun z=>d9 H S' (.pair a.shH c.shH) [] cs z) e.symm ?_
  exact ⟨[],[],rfl,by rw [a56]; exact iha h1 (fun b hb=>hO b (by simp [hb])) hS hn.1,by rw [a56]; exact ihc h2 (fun b hb=>hO b (by simp [hb])) hS hn.2⟩
 | hole t ih=>intro O cs y h _ _ _; exact ⟨rfl,h.2⟩
 | r7 t ih=>intro O cs y h _ _ hn; cases hn
 | arr n t ih=>intro O cs y h hO hS hn; exact d9.a0Y (u:=.arr n t) h hO hS hn
 | d0 o t ih=>intro O cs y h hO hS hn; exact d9.a0Y (u:=.d0 o t) h hO hS hn
 | box o g t ih=>intro O cs y h hO hS hn; exact d9.a0Y (u:=.box o g t) h hO hS hn
 | map o k v=>intro O cs y h hO hS hn; exact d9.a0Y (u:=.map o k v) h hO hS hn
 | int k=>intro O cs y h _ _ _; exact ⟨rfl,h.2⟩
 | bool=>intro O cs y h _ _ _; exact ⟨rfl,h.2⟩
 | str=>intro O cs y h _ _ _; exact ⟨rfl,h.2⟩
 | unit=>intro O cs y h _ _ _; exact ⟨rfl,h.2⟩
 | fn f=>intro O cs y h _ _ _; exact ⟨rfl,h.2⟩

theorem i5.b5G {α β:Type} {R:List Nat→List Value→α→Prop} {R':List Nat→List Value→β→Prop} {sz:Nat} {f:α→β} (hr:∀ O cs x,R O cs x→R' O cs (f x)) :
  ∀ {l:List α} {O:List Nat} {cs:List Value},i5 R sz O cs l→i5 R' sz O cs (l.map f)
 | [],_,_,⟨h0,h⟩=>⟨h0,h⟩
 | _::_,_,_,⟨O1,O2,e,h1,h2⟩=>⟨O1,O2,e,hr _ _ _ h1,i5.b5G hr h2⟩

theorem V4:∀ {u t:Ty},a0q u t=true→t.size=u.size∧u.isB=t.isB:=by
 have base:∀ {u t:Ty},decide (u=t)=true→t.size=u.size∧u.isB=t.isB:=by
  intro u t h
  have e:=of_decide_eq_true h
  subst e
  exact ⟨rfl,rfl⟩
 intro u
 induction u with
 | pair a b iha ihb =>
  intro t h
  cases t with
  | pair c d =>
   have h:(a0q a c && a0q b d)=true:=h
   rw [Bool.and_eq_true] at h
   exact ⟨by simp only [Ty.size,(iha h.1).1,(ihb h.2).1],rfl⟩
  | _=>exact base h
 | arr n a ih =>
  intro t h
  cases t with
  | arr m b =>
   have h:(Nat.beq n m && a0q a b)=true:=h
   rw [Bool.and_eq_true] at h
   have e:=Nat.eq_of_beq_eq_true h.1
   subst e
   exact ⟨by simp only [Ty.size,(ih h.2).1],rfl⟩
  | _=>exact base h
 | d0 o a ih =>
  intro t h
  cases t with
  | d0 o2 b=>exact ⟨rfl,rfl⟩
  | r7 b=>exact ⟨rfl,rfl⟩
  | _=>cases o<;>exact base h
 | _=>intro t h; cases t<;>exact base h

theorem i5.b7G {α β:Type} {R:List Nat→List Value→α→Prop} {R':List Nat→List Value→β→Prop} {sz:Nat} {f:α→β} (hr:∀ O cs x,R' O cs (f x)→R O cs x) :
  ∀ {l:List α} {O:List Nat} {cs:List Value},i5 R' sz O cs (l.map f)→i5 R sz O cs l
 | [],_,_,⟨h0,h⟩=>⟨h0,h⟩
 | _::_,_,_,⟨O1,O2,e,h1,h2⟩=>⟨O1,O2,e,hr _ _ _ h1,i5.b7G hr h2⟩

theorem b61:∀ {u t:Ty} {y:u.den} {O:List Nat} {cs:List Value},a0q u t=true→d9 H S u O cs y→d9 H S t O cs (msV u t y):=by
 have base:∀ {u t:Ty} {y:u.den} {O:List Nat} {cs:List Value},decide (u=t)=true→d9 H S u O cs y→d9 H S t O cs (if h:u=t then h▸y else t.n6):=by
  intro u t y O cs h hR
  have e:=of_decide_eq_true h
  subst e
  rw [dif_pos rfl]
  exact hR
 intro u
 induction u with
 | pair a b iha ihb =>
  intro t y O cs h hR
  cases t with
  | pair c d =>
   have h:(a0q a c && a0q b d)=true:=h
   rw [Bool.and_eq_true] at h
   obtain ⟨P1,P2,rfl,r1,r2⟩:=hR
   exact ⟨P1,P2,rfl,by rw [(V4 h.1).1]; exact iha h.1 r1,by rw [(V4 h.1).1]; exact ihb h.2 r2⟩
  | _=>exact base h hR
 | arr n a ih =>
  intro t y O cs h hR
  cases t with
  | arr m b =>
   have h:(Nat.beq n m && a0q a b)=true:=h
   rw [Bool.and_eq_true] at h
   have e:=Nat.eq_of_beq_eq_true h.1
   subst e
   show d9 H S (.arr n b) O cs (if h:a=b then h▸y else List.map (msV a b) y)
   split
   ·rename_i e; subst e; exact hR
   ·obtain ⟨h1,h2⟩:=hR
    refine ⟨by rw [List.length_map]; exact h1,?_⟩
    rw [(V4 h.2).1]
    exact i5.b5G (fun _ _ _ q=>ih h.2 q) h2
  | _=>exact base h hR
 | d0 o a ih =>
  intro t y O cs h hR
  cases t with
  | d0 o2 b =>
   cases o with
   | false=>exact base h hR
   | true=>cases o2 with
    | false=>exact base h hR
    | true =>
     have h:a0q a b=true:=h
     show d9 H S (.d0 true b) O cs (if h:a=b then h▸y else List.map (msV a b) y)
     split
     ·rename_i e; subst e; exact hR
     ·have hR:d9 H S (.d0 true a) O cs y:=hR
      rcases hR with ⟨h1,h2,h3⟩|⟨c,off,cap,O',c1,c2,c3,c4,c5,c6,c7⟩
      ·have h3:y=[]:=h3
       rw [h3]; exact .inl ⟨h1,h2,rfl⟩
      ·refine .inr ⟨c,off,cap,O',by rw [List.length_map]; exact c1,by rw [List.length_map]; exact c2,c3,by rw [List.length_map,(V4 h).1]; exact c4,?_,c6,by rw [(V4 h).1,← (V4 h).2]; exact c7⟩
       rw [List.length_map,(V4 h).1]
       exact i5.b5G (fun _ _ _ q=>ih h q) c5
  | r7 b =>
   have e:a=b:=by cases o<;>exact of_decide_eq_true h
   subst e
   cases o with
   | false=>show d9 H S (.r7 a) O cs (if h:a=a then (0,h▸y,[]) else (0,[],[])); rw [dif_pos rfl]; exact hR
   | true=>show d9 H S (.r7 a) O cs (if h:a=a then (1,h▸y,[]) else (1,[],[])); rw [dif_pos rfl]; exact hR
  | _=>cases o<;>exact base h hR
 | _=>intro t y O cs h hR; cases t<;>exact base h hR

theorem b5U:∀ {u t:Ty} {y:u.den} {z:t.den} {O:List Nat} {cs:List Value},a4Q u t y=some z→d9 H S u O cs y→∃ O1 D,O.Perm (O1++D)∧t.size=u.size∧∀ S':Nat→Prop,(∀ b,S b→S' b)→(∀ b∈D,S' b)→d9 H S' t O1 cs z:=by
 have base:∀ {u t:Ty} {y:u.den} {z:t.den} {O:List Nat} {cs:List Value},(if h:u=t then some (D8 h y) else if h:u.sh=t then (match u.M8 with
   | true=>some (cast ((A7 u).symm.trans (congrArg Ty.den h)) y)
   | false=>none) else (match a0q u t with
   | true=>some (msV u t y)
   | false=>none))=some z→d9 H S u O cs y→∃ O1 D,O.Perm (O1++D)∧t.size=u.size∧∀ S':Nat→Prop,(∀ b,S b→S' b)→(∀ b∈D,S' b)→d9 H S' t O1 cs z:=by
  intro u t y z O cs h hR
  split at h
  ·rename_i e
   subst e
   cases h
   exact ⟨O,[],by simp,rfl,fun S' hS _=>hR.o4 (fun _ _=>rfl) hS⟩
  ·split at h
   ·rename_i e
    subst e
    split at h
    ·rename_i hn
     cases h
     exact ⟨[],O,by simp,I8 u,fun S' hS hD=>hR.a0Y hD hS hn⟩
    ·cases h
   ·split at h
    ·rename_i hm
     cases h
     exact ⟨O,[],by simp,(V4 hm).1,fun S' hS _=>(b61 hm hR).o4 (fun _ _=>rfl) hS⟩
    ·cases h
 intro u
 induction u with
 | pair a b iha ihb =>
  intro t y z O cs h hR
  cases t with
  | pair c d =>
   simp only [a4Q] at h
   split at h
   ·rename_i x1 x2 h1 h2
    cases h
    obtain ⟨P1,P2,rfl,r1,r2⟩:=hR
    obtain ⟨A1,D1,e1,s1,k1⟩:=iha h1 r1
    obtain ⟨A2,D2,e2,s2,k2⟩:=ihb h2 r2
    refine ⟨A1++A2,D1++D2,?_,by simp only [Ty.size,s1,s2],fun S' hS hD=>⟨A1,A2,rfl,?_,?_⟩⟩
    ·refine (e1.append e2).trans ?_
     rw [List.append_assoc,List.append_assoc]
     refine List.Perm.append_left _ ?_
     rw [← List.append_assoc,← List.append_assoc]
     exact List.Perm.append_right _ List.perm_append_comm
    ·rw [s1]; exact k1 S' hS (fun b hb=>hD b (by simp [hb]))
    ·rw [s1]; exact k2 S' hS (fun b hb=>hD b (by simp [hb]))
   ·cases h
  | _=>exact base h hR
 | _=>intro t y z O cs h hR; cases t<;>exact base h hR

def b0R (ι:Ix) (hp:List (Nat×f9)) (i b:Nat):Prop:=∃ e,look i hp=some e∧b∈i8 ι i e

theorem b1Q (h:HS B S ι s.hp w) {i:Nat} {p:List Step} {lo hi:Int} {v:Value} (hv:VX w.heap S ι s.hp (.sub i p lo hi) [v]) {t:Ty} {l:List t.den} (hw:s.view i p lo hi=some ⟨t,l⟩) :
  ∃ A c,v=j7 (.d0 false t.sh) [.slice A l.length c]∧(l=[]∨∃ b off O,A=some ⟨b,off,none⟩∧b0R ι s.hp i b∧off+l.length*t.size≤(o6 w.heap b).length∧i5 (d9 w.heap S t) t.size O (d8 w.heap b off (l.length*t.size)) l∧(∀ c∈O,b0R ι s.hp i c)∧(l.length≤c∧c≤maxLen)):=by
 obtain ⟨e,v',h1,h2,h3,h4,h5,h6⟩:=hv
 cases h3
 have hob:=h.ob i e h1
 unfold St.view at hw
 rcases h6 with ⟨t',l',a,cap,k1,k2,k3,c,A,k4,kA,k5,k6⟩|⟨n,t',l',b,off,k1,⟨k2,k2'⟩,k3,c,A,k4,kA,k5,k6⟩
 ·have hp:s.part i p=some ⟨.d0 true t',l'⟩:=by unfold St.part St.obj; rw [h1]; exact k1
  rw [hp] at hw
  simp only [Option.some.injEq,Sigma.mk.injEq] at hw
  obtain ⟨rfl,hw⟩:=hw
  have hw:=eq_of_heq hw
  subst hw
  have hlen:(G1 lo hi l').length=(hi - lo).toNat:=T4 h4 k2
  refine ⟨_,c,by rw [hlen]; exact k4,?_⟩
  by_cases hz:G1 lo hi l'=[]
  ·exact .inl hz
  ·obtain ⟨O2,m1,m2,m3⟩:=C4 h h1 h2 k1 k3
   rcases m3 with ⟨_,_,hn⟩|⟨b1,o1,cap',O',c1,c2,c3,c4,c5,rfl,c7⟩
   ·exfalso; apply hz; rw [hn]; simp [G1]
   ·simp only [List.cons.injEq,Value.slice.injEq,and_true] at c1
    obtain ⟨rfl,_,rfl⟩:=c1
    have hpos:0<(hi - lo).toNat:=by rw [← hlen]; exact List.length_pos_iff.2 hz
    obtain ⟨P1,P2,P3,e1,g⟩:=c5.cut lo.toNat (hi - lo).toNat
    have hle:lo.toNat*t'.size+(hi - lo).toNat*t'.size≤List.length l'*t'.size:=by rw [← Nat.add_mul]; exact Nat.mul_le_mul_right _ (by omega)
    rw [l6,l5 _ _ _ _ (by omega)] at g
    refine .inr ⟨b1,o1+lo.toNat*t'.size,P2,by rw [kA (by omega),Option.map_some,Addr.B6],⟨e,h1,B4 (m1 b1 (by simp))⟩,by rw [hlen]; omega,by rw [hlen]; exact g,fun c hc=>⟨e,h1,B4 (m1 c (by rw [e1]; simp [hc]))⟩,by rw [hlen]; exact k5,by have:=c3.1; omega⟩
 ·have hp:s.part i p=some ⟨.arr n t',l'⟩:=by unfold St.part St.obj; rw [h1]; exact k1
  rw [hp] at hw
  simp only [Option.some.injEq,Sigma.mk.injEq] at hw
  obtain ⟨rfl,hw⟩:=hw
  have hw:=eq_of_heq hw
  subst hw
  obtain ⟨O2,m1,m2,m3,m4,m5,m6⟩:=F3 (E6 k3) hob h.slt h2 k1 k3
  obtain ⟨hl,m3⟩:=m3
  have hlen:(G1 lo hi l').length=(hi - lo).toNat:=T4 h4 (by rw [hl]; exact k2)
  refine ⟨_,c,by rw [hlen]; exact k4,?_⟩
  by_cases hz:G1 lo hi l'=[]
  ·exact .inl hz
  ·have hpos:0<(hi - lo).toNat:=by rw [← hlen]; exact List.length_pos_iff.2 hz
   obtain ⟨P1,P2,P3,e1,g⟩:=m3.cut lo.toNat (hi - lo).toNat
   have hle:lo.toNat*t'.size+(hi - lo).toNat*t'.size≤n*t'.size:=by rw [← Nat.add_mul]; exact Nat.mul_le_mul_right _ (by omega)
   simp only [Ty.size] at g m4
   rw [l6,l5 _ _ _ _ (by omega)] at g
   exact .inr ⟨b,off+lo.toNat*t'.size,P2,by rw [kA (by omega),Option.map_some,Addr.B6],⟨e,h1,m5⟩,by rw [hlen]; omega,by rw [hlen]; exact g,fun c hc=>⟨e,h1,B4 (m1 c (by rw [e1]; simp [hc]))⟩,by rw [hlen]; exact k5,by omega⟩


theorem a01:∀ t:Ty,t.rdT.size=t.size:=by
 intro t
 induction t with
 | pair a b iha ihb=>simp only [Ty.rdT,Ty.size,iha,ihb]
 | arr n t ih=>simp only [Ty.rdT,Ty.size,ih]
 | _=>rfl
theorem b7j (t:Ty):t.rdT.agg=t.agg:=by cases t<;>rfl

theorem a7A:∀ {u:Ty} {O:List Nat} {cs:List Value} {y:u.den},d9 H S u O cs y→(∀ b∈O,S' b)→(∀ b,S b→S' b)→u.okM=true→d9 H S' u.rdT [] cs (rdV u y):=by
 have d0:∀ {o:Bool} {u v:Ty} {f:u.den→v.den} {O:List Nat} {cs:List Value} {y:List u.den},v.size=u.size→(∀ {O:List Nat} {cs:List Value} {y:u.den},d9 H S u O cs y→(∀ b∈O,S' b)→d9 H S' v [] cs (f y)) →
   d9 H S (.d0 o u) O cs y→(∀ b∈O,S' b)→(∀ b,S b→S' b)→d9 H S' (.d0 false v) [] cs (y.map f):=by
  intro o u v f O cs y hsz ih h hO hS
  rcases h with ⟨_,⟨a,c,h2,h2'⟩,h3⟩|⟨b,off,cap,O',c1,c2,c3,c4,c5,c6⟩
  ·have h3:y=[]:=h3
   subst h3; exact .inl ⟨rfl,⟨a,c,h2,fun h=>by cases h⟩,rfl⟩
  ·have hb:S' b:=by
    cases o with
    | true=>exact hO b (by rw [c6.1]; simp)
    | false=>exact hS b c6.2.2
   have hO':∀ c∈O',c∈O:=by
    intro c hc
    cases o with
    | true=>rw [c6.1]; simp [hc]
    | false=>rw [c6.2.1] at hc; cases hc
   refine .inr ⟨b,off,cap,[],by rw [List.length_map]; exact c1,by rw [List.length_map]; exact c2,⟨c3.1,fun h=>by cases h⟩,by rw [List.length_map,hsz]; exact c4,?_,rfl,rfl,hb⟩
   rw [List.length_map,hsz]
   exact i5.map (L:=O) (fun O1 cs x hL hr=>ih hr (fun b hb=>hO b (hL b hb))) hO' c5
 intro u
 induction u with
 | int k=>intro O cs y h _ _ _; exact ⟨rfl,h.2⟩
 | bool=>intro O cs y h _ _ _; exact ⟨rfl,h.2⟩
 | str=>intro O cs y h _ _ _; exact ⟨rfl,h.2⟩
 | unit=>intro O cs y h _ _ _; exact ⟨rfl,h.2⟩
 | fn f=>intro O cs y h _ _ _; exact ⟨rfl,h.2⟩
 | map o k v=>intro O cs y h hO hS hn; exact d9.a0Y (u:=.map o k v) h hO hS hn
 | box o g t=>intro O cs y h hO hS hn; exact d9.a0Y (u:=.box o g t) h hO hS hn
 | hole t=>intro O cs y h hO hS hn; cases hn
 | pair a c iha ihc =>
  rintro O cs y ⟨O1,O2,rfl,h1,h2⟩ hO hS hn
  simp only [Ty.okM,Bool.and_eq_true] at hn
  exact ⟨[],[],rfl,by rw [a01]; exact iha h1 (fun b hb=>hO b (by simp [hb])) hS hn.1,by rw [a01]; exact ihc h2 (fun b hb=>hO b (by simp [hb])) hS hn.2⟩
 | arr n t ih =>
  rintro O cs y h hO hS hn
  by_cases hh:t.M8=true
  ·have:=d9.a0Y (S':=S') (u:=.arr n t) h hO hS hh
   show d9 H S' (.arr n t.rdT) [] cs (if h:t.M8=true then cast (congrArg List (a0e h)) y else List.map (rdV t) y)
   rw [dif_pos hh]
   have e:=a7B t hh
   revert this
   generalize a0e hh=e2
   revert e2
   rw [e]
   intro e2 this
   exact this
  ·show d9 H S' (.arr n t.rdT) [] cs (if h:t.M8=true then cast (congrArg List (a0e h)) y else List.map (rdV t) y)
   rw [dif_neg hh]
   refine ⟨by rw [List.length_map]; exact h.1,?_⟩
   rw [a01]
   exact i5.map (L:=O) (fun O1 cs x hL hr=>ih hr (fun b hb=>hO b (hL b hb)) hS hn) (fun _ h=>h) h.2
 | d0 o t ih =>
  rintro O cs y h hO hS hn
  by_cases hh:t.M8=true
  ·have:=d9.a0Y (S':=S') (u:=.d0 o t) h hO hS hh
   show d9 H S' (.d0 false t.rdT) [] cs (if h:t.M8=true then cast (congrArg List (a0e h)) y else List.map (rdV t) y)
   rw [dif_pos hh]
   have e:=a7B t hh
   revert this
   generalize a0e hh=e2
   revert e2
   rw [e]
   intro e2 this
   exact this
  ·show d9 H S' (.d0 false t.rdT) [] cs (if h:t.M8=true then cast (congrArg List (a0e h)) y else List.map (rdV t) y)
   rw [dif_neg hh]
   exact d0 (a01 t) (fun hr hO=>ih hr hO hS hn) h hO hS
 | r7 t ih =>
  rintro O cs ⟨n,l,m⟩ h hO hS hn
  show d9 H S' (.d0 false t.sh) [] cs (cast (congrArg List (A7 t).symm) l)
  rw [Z2 (A7 t).symm]
  have ih:∀ {O:List Nat} {cs:List Value} {y:t.den},d9 H S t O cs y→(∀ b∈O,S' b)→d9 H S' t.sh [] cs (cast (A7 t).symm y):=fun hr hO=>hr.a0Y hO hS hn
  match n,h with
  | 0,h=>exact d0 (o:=false) (I8 t) ih h hO hS
  | 1,h=>exact d0 (o:=true) (I8 t) ih h hO hS
  | n+2,⟨b,off,O',c1,c2,c3,c4,c5⟩ =>
   have hb:S' b:=by
    cases n with
    | zero=>exact hO b (by rw [c5.1]; simp)
    | succ n=>exact hS b c5.2.2
   have hO':∀ c∈O',c∈O:=by
    intro c hc
    cases n with
    | zero=>rw [c5.1]; simp [hc]
    | succ n=>rw [c5.2.1] at hc; cases hc
   rw [List.length_append,Nat.add_mul] at c3 c4
   obtain ⟨P1,P2,P3,e1,g⟩:=c4.cut 0 l.length
   simp only [Nat.zero_mul,List.drop_zero,List.take_left'] at g
   refine .inr ⟨b,off,List.length l+List.length m,[],by rw [List.length_map]; exact c1,by rw [List.length_map]; omega,⟨c2.1,fun h=>by cases h⟩,by rw [List.length_map,I8]; omega,?_,rfl,rfl,hb⟩
   rw [List.length_map,I8]
   have g2:i5 (d9 H S t) t.size P2 (d8 H b off (l.length*t.size)) l:=by
    rw [l5 _ _ _ _ (by omega)] at g
    exact g
   exact i5.map (L:=O) (fun O1 cs x hL hr=>ih hr (fun b hb=>hO b (hL b hb))) (fun c hc=>hO' c (by rw [e1]; simp [hc])) g2

theorem b6P {a t:Ty} {y:(Ty.r7 a).den} {x:t.den} (h:rdS a t y=some x):t.size=1∧t.agg=false∧∀ {O:List Nat} {cs:List Value},d9 H S (.r7 a) O cs y→(∀ b∈O,S' b)→(∀ b,S b→S' b)→d9 H S' t [] cs x:=by
 unfold rdS at h
 split at h
 ·rename_i b
  split at h
  ·rename_i e
   subst e
   split at h
   ·rename_i hn
    obtain ⟨n,l,m⟩:=y
    cases h
    refine ⟨rfl,rfl,fun {O cs} hR hO hS=>?_⟩
    show d9 H S' (.r7 a.sh) [] cs (shF n,cast (congrArg List (A7 a).symm) l,cast (congrArg List (A7 a).symm) m)
    have h0:=a7A (S':=S') hR hO hS hn
    match n,hR with
    | 0,hR=>exact h0
    | 1,hR=>exact h0
    | n+2,⟨b,off,O',c1,c2,c3,c4,c5⟩ =>
     have hb:S' b:=by
      cases n with
      | zero=>exact hO b (by rw [c5.1]; simp)
      | succ n=>exact hS b c5.2.2
     have hO':∀ c∈O',c∈O:=by
      intro c hc
      cases n with
      | zero=>rw [c5.1]; simp [hc]
      | succ n=>rw [c5.2.1] at hc; cases hc
     have hlen:∀ l:List a.den,List.length (cast (congrArg List (A7 a).symm) l:List a.sh.den)=l.length:=fun l=>by rw [Z2 (A7 a).symm,List.length_map]
     have happ:((cast (congrArg List (A7 a).symm) l:List a.sh.den)++(cast (congrArg List (A7 a).symm) m:List a.sh.den))=(l++m).map (cast (A7 a).symm):=by
      rw [Z2 (A7 a).symm,Z2 (A7 a).symm,List.map_append]
     refine ⟨b,off,[],by rw [hlen,hlen]; exact c1,by rw [hlen,hlen]; exact c2,by rw [happ,List.length_map,I8]; exact c3,?_,rfl,rfl,hb⟩
     rw [happ,List.length_map,I8]
     exact i5.map (L:=O) (fun O1 cs x hL hr=>hr.a0Y (fun b hb=>hO b (hL b hb)) hS hn) hO' c4
   ·cases h
  ·cases h
 ·cases h

theorem b6Q {t u:Ty} {y:u.den} {x:t.den} (h:rdM t u y=some x):t.size=u.size∧t.agg=u.agg∧∀ {O:List Nat} {cs:List Value},d9 H S u O cs y→(∀ b∈O,S' b)→(∀ b,S b→S' b)→d9 H S' t [] cs x:=by
 unfold rdM at h
 split at h
 ·rename_i hm
  split at h
  ·rename_i e
   subst e
   cases h
   exact ⟨a01 u,b7j u,fun hR hO hS=>a7A hR hO hS hm⟩
  ·split at h
   ·exact b6P h
   ·cases h
 ·cases h

theorem a3N {t:Ty} {r:Option (Sigma Ty.den)} {x:t.den} (h:a1N t r=some x):∃ u y,r=some ⟨u,y⟩:=by
 unfold a1N at h
 split at h
 ·exact ⟨_,_,rfl⟩
 ·cases h

theorem a1Z {t u:Ty} (h:t.agg=u.agg) (cs:List Value):j7 t cs=j7 u cs:=by simp only [j7,h]

theorem a3M {t u:Ty} {y:u.den} {x:t.den} (h:a1N t (some ⟨u,y⟩)=some x):t.size=u.size∧t.agg=u.agg∧∀ {O:List Nat} {cs:List Value},d9 H S u O cs y→(∀ b∈O,S' b)→(∀ b,S b→S' b)→d9 H S' t [] cs x:=by
 simp only [a1N] at h
 split at h
 ·rename_i hn
  split at h
  ·rename_i e
   subst e
   cases h
   exact ⟨a56 u,a7n (Ty.b4m u),fun hR hO hS=>hR.b75 hO hS hn⟩
  ·cases h
 ·exact b6Q h

theorem b5I {t u:Ty} {l:List u.den} {x:t.den} (h:a1N t (some ⟨.d0 true u,l⟩)=some x):∃ (t':Ty) (f:u.den→t'.den) (e:t=.d0 false t'),D8 e x=l.map f∧t'.size=u.size ∧
  ∀ {O:List Nat} {cs:List Value} {y:u.den},d9 H S u O cs y→(∀ b∈O,S' b)→(∀ b,S b→S' b)→d9 H S' t' [] cs (f y):=by
 simp only [a1N] at h
 split at h
 ·rename_i hn
  split at h
  ·rename_i e
   subst e
   cases h
   exact ⟨u.sh,cast (A7 u).symm,rfl,Z2 (A7 u).symm _ l,I8 u,fun hR hO hS=>hR.a0Y hO hS hn⟩
  ·cases h
 ·rename_i hn
  unfold rdM at h
  split at h
  ·rename_i hm
   split at h
   ·rename_i e
    subst e
    cases h
    refine ⟨u.rdT,rdV u,rfl,?_,a01 u,fun hR hO hS=>a7A hR hO hS hm⟩
    show (if h:u.M8=true then cast (congrArg List (a0e h)) l else List.map (rdV u) l)=List.map (rdV u) l
    rw [dif_neg (fun e=>by rw [show (Ty.d0 true u).okH=u.M8 from rfl,e] at hn; cases hn)]
   ·cases h
  ·cases h

theorem b0m {v:AV} {t:Ty} {x:t.den} {val:Value} (h:v.as t=some x) (hv:VX H S ι hp v [val]):∃ cs,val=j7 t cs∧d9 H S t [] cs x:=by
 unfold AV.as at h
 split at h
 ·rename_i u y
  split at h
  ·rename_i hu; subst hu; cases h
   obtain ⟨cs,e,hR⟩:=hv
   exact ⟨cs,by simpa using e,hR⟩
  ·cases h
 ·split at h
  ·cases h
   have:[val]=[Value.slice none 0 0]:=hv
   exact ⟨[.slice none 0 0],by simpa [j7,Ty.agg] using this,.inl ⟨rfl,⟨none,0,rfl,fun _=>rfl⟩,rfl⟩⟩
  ·cases h
 ·cases h

def E9 (ι:Ix) (hp:List (Nat×f9)) (g:List Nat) (b:Nat):Prop:=∃ i e,i∈g∧look i hp=some e∧b∈i8 ι i e

theorem b2v (h:HS B S ι s.hp w) {v:AV} {t:Ty} {x:t.den} {val:Value} (hx:v.asV s t=some x) (hv:VX w.heap S ι s.hp v [val]) {S1:Nat→Prop} (hS:∀ b,S b→S1 b) (hL:∀ b,E9 ι s.hp v.C2 b→S1 b) :
  ∃ cs,val=j7 t cs∧d9 w.heap S1 t [] cs x:=by
 unfold AV.asV at hx
 split at hx
 ·rename_i i p
  obtain ⟨u,y,hp⟩:=a3N hx
  unfold St.a1a at hx
  rw [hp] at hx
  obtain ⟨e,u',y',cs,h1,h2,h3,h4,h5⟩:=hv
  have hg:=C6 h1 hp
  rw [h3] at hg; cases hg
  obtain ⟨O2,k1,_,k2⟩:=C4 h h1 h2 h3 h4
  obtain ⟨_,g2,g3⟩:=a3M (H:=w.heap) (S:=S) (S':=S1) hx
  exact ⟨cs,by rw [a1Z g2]; simpa using h5,g3 k2 (fun b hb=>hL b ⟨i,e,by simp [AV.C2],h1,B4 (k1 b hb)⟩) hS⟩
 ·rename_i i p lo hi
  split at hx
  ·rename_i u l hw
   obtain ⟨t',f,e,hf,hsz,hr⟩:=b5I (H:=w.heap) (S:=S) (S':=S1) hx
   subst e
   have hf:x=l.map f:=hf
   subst hf
   have hLB:∀ b,(S b∨b0R ι s.hp i b)→S1 b:=fun b hb=>hb.elim (hS b) (fun ⟨e,h1,h2⟩=>hL b ⟨i,e,by simp [AV.C2],h1,h2⟩)
   -- the blocks are of object i or shared
   obtain ⟨A,c,k1,k2⟩:=b1Q h hv hw
   refine ⟨[.slice A l.length c],k1,?_⟩
   rcases k2 with rfl|⟨b,off,O,rfl,hb,h4,h5,h6,h7⟩
   ·exact .inl ⟨rfl,⟨A,c,rfl,fun h=>by cases h⟩,rfl⟩
   ·refine .inr ⟨b,off,c,[],by rw [List.length_map],by rw [List.length_map]; exact h7.1,⟨h7.2,fun h=>by cases h⟩,by rw [List.length_map,hsz]; exact h4,?_,rfl,rfl,hLB b (.inr hb)⟩
    rw [List.length_map,hsz]
    exact i5.map (L:=O) (fun O1 cs x hLm hq=>hr hq (fun b hb=>hLB b (.inr (h6 b (hLm b hb)))) hS) (fun _ h=>h) h5
  ·cases hx
 ·rename_i u x'
  split at hx
  ·rename_i hu; subst hu; cases hx
   obtain ⟨cs,e,hR⟩:=hv
   exact ⟨cs,by simpa using e,hR.o4 (fun _ _=>rfl) hS⟩
  ·obtain ⟨cs,e,hR⟩:=hv
   obtain ⟨_,g2,g3⟩:=a3M (H:=w.heap) (S:=S) (S':=S1) hx
   exact ⟨cs,by rw [a1Z g2]; simpa using e,g3 hR (by simp) hS⟩
 ·obtain ⟨cs,e,hR⟩:=b0m hx hv
  exact ⟨cs,e,hR.o4 (fun _ _=>rfl) hS⟩

theorem a7X (h:HS B S ι s.hp w) {v:AV} {t:Ty} {x:t.den} {val:Value} (hx:v.asR s t=some x) (hv:VX w.heap S ι s.hp v [val]) {S1:Nat→Prop} (hS:∀ b,S b→S1 b) (hL:∀ b,E9 ι s.hp v.C2 b→S1 b) :
  b3U w.heap S1 t val x:=by
 unfold AV.asR at hx
 split at hx
 ·rename_i i p
  obtain ⟨u,y,hp⟩:=a3N hx
  unfold St.a1a at hx
  rw [hp] at hx
  obtain ⟨e,b,off,h1,h2,h3,h4⟩:=hv
  have hg:=C6 h1 hp
  obtain ⟨O2,m1,m2,m3,m4,m5,_⟩:=F3 (E6 h3) (h.ob i e h1) h.slt h2 hg h3
  obtain ⟨g1,g2,g3⟩:=a3M (H:=w.heap) (S:=S) (S':=S1) hx
  refine ⟨b,off,by simpa using h4,hL b ⟨i,e,by simp [AV.C2],h1,m5⟩,by rw [g1]; exact m4,?_⟩
  rw [g1]
  exact g3 m3 (fun b hb=>hL b ⟨i,e,by simp [AV.C2],h1,B4 (m1 b hb)⟩) hS
 ·rename_i u x'
  split at hx
  ·rename_i hu; subst hu; cases hx
   obtain ⟨b,off,e,h1,h2,h3⟩:=hv
   exact ⟨b,off,by simpa using e,hS b h1,h2,h3.o4 (fun _ _=>rfl) hS⟩
  ·cases hx
 ·rename_i i p
  split at hx
  ·rename_i u
   split at hx
   ·rename_i x0 hx0
    cases hx
    obtain ⟨u',y,hp⟩:=a3N hx0
    unfold St.a1a at hx0
    rw [hp] at hx0
    obtain ⟨b0,off0,v0,e0,hb0,hl0,hc0,e,b,off,h1,h2,h3,h4⟩:=hv
    have hg:=C6 h1 hp
    obtain ⟨O2,m1,m2,m3,m4,m5,_⟩:=F3 (E6 h3) (h.ob i e h1) h.slt h2 hg h3
    obtain ⟨g1,g2,g3⟩:=a3M (H:=w.heap) (S:=S) (S':=S1) hx0
    obtain rfl:v0=.pointer (some ⟨b,off,none⟩):=by simpa using h4
    have hk:=g3 m3 (fun b hb=>hL b ⟨i,e,by simp [AV.C2],h1,B4 (m1 b hb)⟩) hS
    refine ⟨b0,off0,by simpa using e0,hS _ hb0,hl0,?_⟩
    rw [show d8 w.heap b0 off0 (Ty.box false none u).size=[.pointer (some ⟨b,off,none⟩)] from hc0]
    exact .inr ⟨_,b,off,[],rfl,rfl,by rw [g1]; exact m4,by rw [g1]; exact hk,rfl,rfl,hL b ⟨i,e,by simp [AV.C2],h1,m5⟩⟩
   ·cases hx
  ·cases hx
 ·cases hx

theorem b0o (h:HS B S ι s.hp w) {S1:Nat→Prop} (hS:∀ b,S b→S1 b):∀ {ts:List Ty} {v:AV} {x:DL ts} {vs:List Value},AV.a4W s ts v=some x→VX w.heap S ι s.hp v vs→(∀ b,E9 ι s.hp v.C2 b→S1 b)→RdL w.heap S1 ts vs x
 | [],v,x,vs,hx,hv,_=>by
  cases v<;>simp only [AV.a4W] at hx<;>first|cases hx|skip
  exact hv
 | t::ts,v,x,vs,hx,hv,hL=>by
  cases v<;>simp only [AV.a4W] at hx<;>first|cases hx|skip
  rename_i a b
  split at hx
  ·rename_i x1 x2 h1 h2
   cases hx
   obtain ⟨v,us,rfl,ha,hb⟩:=hv
   exact ⟨v,us,rfl,a7X h h1 ha hS (fun c hc=>hL c (by obtain ⟨i,e,q1,q2⟩:=hc; exact ⟨i,e,by simp [AV.C2,q1],q2⟩)),b0o h hS h2 hb (fun c hc=>hL c (by obtain ⟨i,e,q1,q2⟩:=hc; exact ⟨i,e,by simp [AV.C2,q1],q2⟩))⟩
  ·cases hx

theorem b2r {H:Array Go.Obj} {t':Ty} {O2:List Nat} {A:Option Addr} {cap:Nat} {x':List t'.den} {lo hi:Int} {v:Value} (m3:d9 H S (.d0 true t') O2 [.slice A (List.length x') cap] x') (m2:O2.Nodup) (h4:0≤lo) (h5:lo≤hi) (k2:hi≤(List.length x':Int)) (hv:b0t t'.size A cap lo hi v) :
  ∃ O cs,v=j7 (.d0 true t') cs∧d9 H S (.d0 true t') O cs (G1 lo hi x')∧O.Nodup∧∀ b∈O,b∈O2:=by
 obtain ⟨c,A',k4,kA,k5,k6⟩:=hv
 have hlen:(G1 lo hi x').length=(hi - lo).toNat:=T4 h4 k2
 by_cases hc:c=0
 ·refine ⟨[],[.slice A' 0 0],?_,.inl ⟨rfl,⟨A',0,rfl,fun _=>rfl⟩,?_⟩,List.nodup_nil,by simp⟩
  ·rw [k4,hc]
   have:(hi - lo).toNat=0:=by omega
   rw [this]; rfl
  ·exact List.length_eq_zero_iff.1 (by omega)
 ·rcases m3 with ⟨_,⟨a2,c2,q1,q2⟩,hn⟩|⟨b1,o1,cap',O',c1,c2,c3,c4,c5,rfl,c7⟩
  ·exfalso
   simp only [List.cons.injEq,Value.slice.injEq,and_true] at q1
   have:=q2 rfl
   omega
  ·simp only [List.cons.injEq,Value.slice.injEq,and_true] at c1
   obtain ⟨rfl,_,rfl⟩:=c1
   obtain ⟨P1,P2,P3,e1,g1⟩:=c5.cut lo.toNat (hi - lo).toNat
   have hle:lo.toNat*t'.size+(hi - lo).toNat*t'.size≤List.length x'*t'.size:=by rw [← Nat.add_mul]; exact Nat.mul_le_mul_right _ (by omega)
   have hcap:(lo.toNat+c)*t'.size≤cap*t'.size:=Nat.mul_le_mul_right _ (Nat.le_of_eq k6)
   rw [Nat.add_mul] at hcap
   rw [l6,l5 _ _ _ _ (by omega)] at g1
   have hnd:(b1::P2).Nodup:=by
    rw [e1] at m2
    have h1:=List.nodup_cons.1 m2
    refine List.nodup_cons.2 ⟨fun hb=>h1.1 (by simp [hb]),(List.nodup_append.1 (List.nodup_append.1 h1.2).2.1).1⟩
   refine ⟨b1::P2,[.slice (some ⟨b1,o1+lo.toNat*t'.size,none⟩) (G1 lo hi x').length c],?_,.inr ⟨b1,o1+lo.toNat*t'.size,c,P2,rfl,by rw [hlen]; exact k5,⟨by have:=c3.1; omega,fun _=>by omega⟩,by rw [hlen]; omega,by rw [hlen]; exact g1,rfl,c7.mono (by omega)⟩,hnd,fun b hb=>?_⟩
   ·rw [k4,kA hc,hlen,Option.map_some,Addr.B6]; rfl
   ·rcases List.mem_cons.1 hb with rfl|hb
    ·simp
    ·rw [e1]; simp [hb]

theorem V8 (h:HS B S ι s.hp w) {v:AV} {val:Value} {t:Ty} {x:t.den} {g:List Nat} (hg:v.L6 s=some (⟨t,x⟩,g)) (hv:VX w.heap S ι s.hp v [val]) :
  ∃ O cs,val=j7 t cs∧d9 w.heap S t O cs x∧O.Nodup∧∀ b∈O,E9 ι s.hp g b:=by
 unfold AV.L6 at hg
 split at hg
 ·cases hg
  obtain ⟨cs,e,hR⟩:=hv
  exact ⟨[],cs,by simpa using e,hR,List.nodup_nil,by simp⟩
 ·rename_i i
  split at hg
  ·rename_i t' x' hob
   cases hg
   obtain ⟨e,u,y,cs,h1,h2,h3,h4,h5⟩:=hv
   obtain rfl:=U4 h1 hob
   rw [u5] at h3; cases h3
   obtain ⟨O2,m1,m2,m3⟩:=C4 h h1 h2 u5 h4
   have h5:val=j7 t cs:=by simpa [f9.ty] using h5
   exact ⟨O2,cs,h5,m3,m2,fun b hb=>⟨i,_,by simp,h1,B4 (m1 b hb)⟩⟩
  ·cases hg
 ·rename_i i lo hi
  split at hg
  ·rename_i t' x' hob
   cases hg
   obtain ⟨e,v,h1,h2,h3,h4,h5,h6⟩:=hv
   obtain rfl:=U4 h1 hob
   cases h3
   rcases h6 with ⟨t1,l,A,cap,k1,k2,k3,k4⟩|⟨n,t1,l,b,off,k1,_,k3,_⟩
   ·have k1:i6 (.d0 true t') x' []=some ⟨.d0 true t1,l⟩:=k1
    rw [u5] at k1; cases k1
    obtain ⟨O2,m1,m2,m3⟩:=C4 h h1 h2 u5 k3
    obtain ⟨O,cs,q1,q2,q3,q4⟩:=b2r m3 m2 h4 h5 k2 k4
    exact ⟨O,cs,q1,q2,q3,fun b hb=>⟨i,_,by simp,h1,B4 (m1 b (q4 b hb))⟩⟩
   ·exfalso
    simp only [Loc,Place,s8,VR] at k3
    simp at k3
  ·cases hg
 ·cases hg

theorem a2J (h:HS B S ι s.hp w) {v:AV} {val:Value} {t:Ty} {x:t.den} {g:List Nat} (hg:v.T8 s=some (⟨t,x⟩,g)) (hv:VX w.heap S ι s.hp v [val]) :
  ∃ O cs,val=j7 t cs∧d9 w.heap S t O cs x∧O.Nodup∧∀ b∈O,E9 ι s.hp g b:=by
 unfold AV.T8 at hg
 split at hg
 ·rename_i i
  split at hg
  ·rename_i t' x' hob
   cases hg
   obtain ⟨e,u,y,cs,h1,h2,h3,h4,h5⟩:=hv
   obtain rfl:=U4 h1 hob
   rw [u5] at h3; cases h3
   obtain ⟨O2,m1,m2,m3⟩:=C4 h h1 h2 u5 h4
   have h5:val=j7 t cs:=by simpa [f9.ty] using h5
   exact ⟨O2,cs,h5,m3,m2,fun b hb=>⟨i,_,by simp,h1,B4 (m1 b hb)⟩⟩
  ·exact V8 h hg hv
 ·rename_i f
  cases hg
  obtain ⟨us,e,rfl⟩:=hv
  have e:val=.func (.func f) #[] #[]:=by simpa using e
  exact ⟨[],[fnV f true],e,⟨rfl,rfl⟩,List.nodup_nil,by simp⟩
 ·exact V8 h hg hv

theorem E9.mono {g g':List Nat} {b:Nat} (h:E9 ι hp g b) (hs:∀ i∈g,i∈g'):E9 ι hp g' b:=by
 obtain ⟨i,e,h1,h2⟩:=h; exact ⟨i,e,hs i h1,h2⟩

def PK.reads:PK→Bool
 | .own _|.rw _|.mu _|.R8 _ _|.el _=>false
 | _=>true

theorem a7Y (h:HS B S ι s.hp w) {S1:Nat→Prop} (hS:∀ b,S b→S1 b) {k:PK} {v:AV} {x:k.den} {val:Value} {g m:List Nat} (hx:v.G4 s k=some (x,g,m)) (hv:VX w.heap S ι s.hp v [val])
  (hL:k.reads=true→∀ b,E9 ι s.hp v.C2 b→S1 b) :
  ∃ L,b7U w.heap S1 k val x L∧L.Nodup∧(∀ b∈L,E9 ι s.hp (g++m) b)∧∀ i∈m,∀ e,look i s.hp=some e→∀ b∈i8 ι i e,b∈L:=by
 cases k with
 | v t =>
  simp only [AV.G4] at hx
  split at hx
  ·rename_i y hy; cases hx
   obtain ⟨cs,e,hR⟩:=b2v h hy hv hS (hL rfl)
   exact ⟨[],⟨rfl,cs,e,hR⟩,List.nodup_nil,by simp,by simp⟩
  ·cases hx
 | rd t =>
  simp only [AV.G4] at hx
  split at hx
  ·rename_i y hy; cases hx
   exact ⟨[],⟨rfl,a7X h hy hv hS (hL rfl)⟩,List.nodup_nil,by simp,by simp⟩
  ·cases hx
 | y7 f ts =>
  cases v<;>simp only [AV.G4] at hx<;>first|cases hx|skip
  rename_i f' l
  cases hb:Nat.beq f f' with
  | false=>rw [hb] at hx; cases hx
  | true =>
   rw [hb] at hx
   simp only at hx
   have hff:=Nat.eq_of_beq_eq_true hb
   split at hx
   ·rename_i y hy; cases hx
    obtain ⟨us,e,hus⟩:=hv
    exact ⟨[],⟨rfl,us,by simpa [hff] using e,b0o h hS hy hus (fun b hb=>hL rfl b hb)⟩,List.nodup_nil,by simp,by simp⟩
   ·cases hx
 | R8 f n=>simp only [AV.G4] at hx; cases hx
 | el q=>simp only [AV.G4] at hx; cases hx
 | L5 =>
  simp only [AV.G4] at hx
  split at hx
  ·cases hx
   exact ⟨[],⟨rfl,by simpa using (show [val]=[Value.slice none 0 0] from hv)⟩,List.nodup_nil,by simp,by simp⟩
  ·cases hx
 | own t =>
  simp only [AV.G4] at hx
  split at hx
  ·split at hx
   ·rename_i y hy; cases hx
    obtain ⟨cs,e,hR⟩:=b0m hy hv
    exact ⟨[],⟨cs,e,hR.o4 (fun _ _=>rfl) hS⟩,List.nodup_nil,by simp,by simp⟩
   ·cases hx
  ·split at hx
   ·rename_i u y l hg
    split at hx
    ·rename_i hu; subst hu; cases hx
     obtain ⟨O,cs,e,hR,hnd,hO⟩:=a2J h hg hv
     exact ⟨O,⟨cs,e,hR.o4 (fun _ _=>rfl) hS⟩,hnd,fun b hb=>(hO b hb).mono (by simp),by simp⟩
    ·cases hx
   ·cases hx
 | rw t =>
  simp only [AV.G4] at hx
  split at hx
  ·rename_i i
   split at hx
   ·rename_i u y hob
    split at hx
    ·rename_i hu; subst hu; cases hx
     obtain ⟨e,b,off,h1,h2,h3,h4⟩:=hv
     obtain rfl:=U4 h1 hob
     obtain ⟨⟨O,hO,hR⟩,hf,hnd⟩:=h.ob i _ h1
     have hl:(ι.root i).1=b∧(ι.root i).2=off:=by
      have:=(r9 h3).1
      simp only [Place,s8,VR,Option.some.injEq,Prod.mk.injEq] at this
      exact this
     obtain ⟨rfl,rfl⟩:=hl
     refine ⟨(ι.root i).1::O,⟨_,_,O,by simpa using h4,hR.o4 (fun _ _=>rfl) hS,hf,rfl⟩,?_,?_,?_⟩
     ·exact ((hO.cons _).nodup_iff).2 hnd
     ·intro c hc
      refine ⟨i,_,by simp,h1,?_⟩
      simp only [i8]
      exact ((hO.cons _).mem_iff).1 hc
     ·intro j hj e' he' c hc
      simp only [List.mem_cons,List.not_mem_nil,or_false] at hj
      subst hj
      rw [h1] at he'; cases he'
      exact ((hO.cons _).mem_iff).2 hc
    ·cases hx
   ·cases hx
  ·cases hx
 | mu t =>
  simp only [AV.G4] at hx
  split at hx
  ·rename_i i
   split at hx
   ·rename_i u y hob
    split at hx
    ·rename_i hu; subst hu; cases hx
     obtain ⟨e,u',y',cs,h1,h2,h3,h4,h5⟩:=hv
     obtain rfl:=U4 h1 hob
     rw [u5] at h3; cases h3
     obtain ⟨⟨O,hO,hR⟩,hnd⟩:=h.ob i _ h1
     have hcs:=K7 h4 hR.length
     have h5:val=j7 (.d0 true t) cs:=by simpa [f9.ty] using h5
     refine ⟨O,⟨cs,h5,by rw [hcs]; exact hR.o4 (fun _ _=>rfl) hS⟩,(hO.nodup_iff).2 hnd,?_,?_⟩
     ·intro c hc
      exact ⟨i,_,by simp,h1,hO.mem_iff.1 hc⟩
     ·intro j hj e' he' c hc
      simp only [List.mem_cons,List.not_mem_nil,or_false] at hj
      subst hj
      rw [h1] at he'; cases he'
      exact hO.mem_iff.2 hc
    ·cases hx
   ·cases hx
  ·cases hx

end
end Go.Ex

namespace Go.Ex

section
variable {E:Env} {B:y9} {S S':Nat→Prop} {ι:Ix} {s:St} {a:Act} {w:World} {hp:List (Nat×f9)} {H H':Array Go.Obj}

theorem X3:∀ {l:List Nat},a0o l=true→l.Nodup
 | [],_=>List.nodup_nil
 | a::l,h=>by
  simp only [a0o,Bool.and_eq_true,Bool.not_eq_true'] at h
  refine List.nodup_cons.2 ⟨fun hm=>?_,X3 h.2⟩
  have:=h.1
  simp [hm] at this

theorem a4P:∀ {l m:List Nat},a92 l m=true→∀ i∈l,i∉m
 | [],_,_,i,hi=>by cases hi
 | a::l,m,h,i,hi=>by
  simp only [a92,Bool.and_eq_true,Bool.not_eq_true'] at h
  rcases List.mem_cons.1 hi with rfl|hi
  ·intro hm; have:=h.1; simp [hm] at this
  ·exact a4P h.2 i hi

theorem a3Z (h:HS B S ι s.hp w) {S1:Nat→Prop} (hS:∀ b,S b→S1 b):∀ {ks:List PK} {v:AV} {x:DK ks} {vs:List Value} {g m:List Nat},AV.T5 s ks v=some (x,g,m)→VX w.heap S ι s.hp v vs→(g++m).Nodup →
  (∀ b,E9 ι s.hp (H7.loose ks v) b→S1 b)→∃ L,I6 w.heap S1 ks vs x L∧L.Nodup∧(∀ b∈L,E9 ι s.hp (g++m) b)∧∀ i∈m,∀ e,look i s.hp=some e→∀ b∈i8 ι i e,b∈L
 | [],v,x,vs,g,m,hx,hv,_,_=>by
  cases v<;>simp only [AV.T5] at hx<;>first|cases hx|skip
  exact ⟨[],⟨hv,rfl⟩,List.nodup_nil,by simp,by simp⟩
 | k::ks,v,x,vs,g,m,hx,hv,hnd,hL=>by
  cases v<;>simp only [AV.T5] at hx<;>first|cases hx|skip
  rename_i a b
  split at hx
  ·rename_i x1 g1 m1 x2 g2 m2 h1 h2
   cases hx
   obtain ⟨v,us,rfl,ha,hb⟩:=hv
   have hn1:∀ i,i∈g1++m1→i∉g2++m2:=by
    intro i hi hi'
    simp only [List.mem_append] at hi hi'
    have hgm:=List.nodup_append.1 hnd
    have hg:=List.nodup_append.1 hgm.1
    have hm:=List.nodup_append.1 hgm.2.1
    rcases hi with hi|hi<;>rcases hi' with hi'|hi'
    ·exact hg.2.2 i hi i hi' rfl
    ·exact hgm.2.2 i (by simp [hi]) i (by simp [hi']) rfl
    ·exact hgm.2.2 i (by simp [hi']) i (by simp [hi]) rfl
    ·exact hm.2.2 i hi i hi' rfl
   have hnd2:(g2++m2).Nodup:=by
    have hgm:=List.nodup_append.1 hnd
    have hg:=List.nodup_append.1 hgm.1
    have hm:=List.nodup_append.1 hgm.2.1
    exact List.nodup_append.2 ⟨hg.2.1,hm.2.1,fun i hi j hj=>hgm.2.2 i (by simp [hi]) j (by simp [hj])⟩
   obtain ⟨L1,k1,k2,k3,k4⟩:=a7Y h hS h1 ha (fun hr c hc=>hL c (by
    obtain ⟨i,e,q1,q2⟩:=hc
    refine ⟨i,e,?_,q2⟩
    cases k<;>first|(show i∈a.C2++H7.loose ks b; exact List.mem_append_left _ q1)|(exfalso; simp [PK.reads] at hr; done)))
   obtain ⟨L2,n1,n2,n3,n4⟩:=a3Z h hS h2 hb hnd2 (fun c hc=>hL c (by
    obtain ⟨i,e,q1,q2⟩:=hc
    refine ⟨i,e,?_,q2⟩
    cases k<;>first|(show i∈a.C2++H7.loose ks b; exact List.mem_append_right _ q1)|(show i∈H7.loose ks b; exact q1)))
   refine ⟨L1++L2,⟨v,us,L1,L2,rfl,rfl,k1,n1⟩,List.nodup_append.2 ⟨k2,n2,?_⟩,?_,?_⟩
   ·rintro c hc d hd rfl
    obtain ⟨i,e,q1,q2,q3⟩:=k3 c hc
    obtain ⟨j,e',r1,r2,r3⟩:=n3 c hd
    have hij:i≠j:=by rintro rfl; exact hn1 i q1 r1
    exact h.dj i j e e' q2 r2 hij c q3 r3
   ·intro c hc
    rcases List.mem_append.1 hc with hc|hc
    ·exact (k3 c hc).mono (by simp; intro i hi; rcases hi with hi|hi<;>simp [hi])
    ·exact (n3 c hc).mono (by simp; intro i hi; rcases hi with hi|hi<;>simp [hi])
   ·intro i hi e he c hc
    rcases List.mem_append.1 hi with hi|hi
    ·exact List.mem_append_left _ (k4 i hi e he c hc)
    ·exact List.mem_append_right _ (n4 i hi e he c hc)
  ·cases hx

theorem a2q {s:St}:∀ {ks:List PK} {v:AV} {r:DK ks×List Nat×List Nat},AV.T5 s ks v=some r→ks.any PK.lnk=false
 | [],_,_,_=>rfl
 | k::ks,v,r,hx=>by
  cases v<;>simp only [AV.T5] at hx<;>first|cases hx|skip
  split at hx
  ·rename_i x1 g1 m1 x2 g2 m2 h1 h2
   rw [List.any_cons,a2q h2,Bool.or_false]
   cases k<;>first|rfl|(simp only [AV.G4] at h1; cases h1)
  ·cases hx

theorem d9.E2:∀ {t:Ty} {O:List Nat} {cs:List Value} {x:t.den},t.E2=true→d9 H S t O cs x→d9 H S' t O cs x:=by
 intro t
 induction t with
 | int k=>intro O cs x _ h; exact h
 | bool=>intro O cs x _ h; exact h
 | str=>intro O cs x _ h; exact h
 | unit=>intro O cs x _ h; exact h
 | fn f=>intro O cs x _ h; exact h
 | hole t _=>intro O cs x _ h; exact h
 | r7 t _=>intro O cs x hn; cases hn
 | map o k v ihk ihv =>
  rintro O cs x hn h
  simp only [Ty.E2,Bool.and_eq_true] at hn
  rcases h with h|⟨l,b,es,ck,h0,h2,h3,h4,h5⟩
  ·exact .inl h
  refine .inr ⟨l,b,es,ck,h0,h2,h3,h4.mono (fun _ _ h=>ihk hn.1.2 h) (fun _ _ h=>ihv hn.2 h),?_⟩
  rw [hn.1.1] at h5 ⊢
  exact h5
 | box o g t ih =>
  rintro O cs x hn h
  simp only [Ty.E2,Bool.and_eq_true] at hn
  rcases h with h|⟨y,b,off,O',h0,h1,h2,h3,h4⟩
  ·exact .inl h
  refine .inr ⟨y,b,off,O',h0,h1,h2,ih hn.2 h3,?_⟩
  rw [hn.1] at h4 ⊢
  exact h4
 | pair a c iha ihc =>
  rintro O cs x hn ⟨O1,O2,e,h1,h2⟩
  simp only [Ty.E2,Bool.and_eq_true] at hn
  exact ⟨O1,O2,e,iha hn.1 h1,ihc hn.2 h2⟩
 | arr n t ih =>
  rintro O cs x hn ⟨h1,h2⟩
  exact ⟨h1,i5.mono (L:=O) (fun _ h=>h) (fun _ _ _ _ h=>ih hn h) h2⟩
 | d0 o t ih =>
  rintro O cs x hn h
  simp only [Ty.E2,Bool.and_eq_true] at hn
  rcases h with h|⟨b,off,cap,O',c1,c2,c3,c4,c5,c6⟩
  ·exact .inl h
  ·rw [hn.1] at c6
   refine .inr ⟨b,off,cap,O',c1,c2,c3,c4,i5.mono (L:=O') (fun _ h=>h) (fun _ _ _ _ h=>ih hn.2 h) c5,?_⟩
   rw [hn.1]; exact c6

theorem H3.mono {T:Nat→Prop}:∀ {ts:List Ty} {O:List Nat} {vs:List Value} {x:DL ts},H3 H S ts O vs x→(∀ b,S b→T b)→H3 H T ts O vs x
 | [],_,_,_,h,_=>h
 | _::_,_,_,_,⟨v,us,O1,O2,cs,e1,e2,e3,h1,h2⟩,hT=>⟨v,us,O1,O2,cs,e1,e2,e3,h1.o4 (fun _ _=>rfl) hT,H3.mono h2 hT⟩

theorem H3.E2:∀ {ts:List Ty} {O:List Nat} {vs:List Value} {x:DL ts},ts.all Ty.E2=true→H3 H S ts O vs x→H3 H S' ts O vs x
 | [],_,_,_,_,h=>h
 | t::ts,_,_,_,hn,⟨v,us,O1,O2,cs,e1,e2,e3,h1,h2⟩=>by
  simp only [List.all_cons,Bool.and_eq_true] at hn
  exact ⟨v,us,O1,O2,cs,e1,e2,e3,h1.E2 hn.1,H3.E2 hn.2 h2⟩


theorem C0.E2:∀ {ks:List PK} {vs:List Value} {y:DL (u6 ks)} {L:List Nat},(u6 ks).all Ty.E2=true→C0 H S ks vs y L→C0 H S' ks vs y L
 | [],_,_,_,_,h=>h
 | .rw t::ks,_,_,_,hn,⟨b,off,O,us,L',e1,e2,e3,e4,e5⟩=>by
  simp only [u6,List.all_cons,Bool.and_eq_true] at hn
  exact ⟨b,off,O,us,L',e1,e2.E2 hn.1,e3,e4,C0.E2 hn.2 e5⟩
 | .mu t::ks,_,_,_,hn,⟨cs,O,us,L',e1,e1',e2,e4,e5⟩=>by
  simp only [u6,List.all_cons,Bool.and_eq_true] at hn
  exact ⟨cs,O,us,L',e1,e1',e2.E2 hn.1,e4,C0.E2 hn.2 e5⟩
 | .v _::ks,_,_,_,hn,⟨v,us,e,h⟩=>⟨v,us,e,C0.E2 (ks:=ks) hn h⟩
 | .rd _::ks,_,_,_,hn,⟨v,us,e,h⟩=>⟨v,us,e,C0.E2 (ks:=ks) hn h⟩
 | .y7 _ _::ks,_,_,_,hn,⟨v,us,e,h⟩=>⟨v,us,e,C0.E2 (ks:=ks) hn h⟩
 | .L5::ks,_,_,_,hn,⟨v,us,e,h⟩=>⟨v,us,e,C0.E2 (ks:=ks) hn h⟩
 | .R8 _ _::ks,_,_,_,hn,⟨v,us,e,h⟩=>⟨v,us,e,C0.E2 (ks:=ks) hn h⟩
 | .el _::ks,_,_,_,hn,⟨v,us,e,h⟩=>⟨v,us,e,C0.E2 (ks:=ks) hn h⟩
 | .own _::ks,_,_,_,hn,⟨v,us,e,h⟩=>⟨v,us,e,C0.E2 (ks:=ks) hn h⟩


theorem b0u:∀ {t:Ty} {p:List Step} {b off:Nat} {G G':Array Go.Obj},a2k p=true→s9 G t p b off=s9 G' t p b off:=by
 intro t
 induction t with
 | pair a c iha ihc =>
  intro p b off G G' h
  match p,h with
  | [],_=>rfl
  | .i9 0::p,h=>exact iha h
  | .i9 (n+1)::p,h=>exact ihc (p:=.i9 n::p) h
  | .idx i::p,h=>cases h
 | d0 o t ih =>
  intro p b off G G' h
  match p,h with
  | [],_=>rw [s8,s8]
  | .i9 i::p,_=>cases o<;>simp [s9]
  | .idx i::p,h=>cases h
 | _ =>
  intro p b off G G' h
  match p,h with
  | [],_=>rw [s8,s8]
  | .i9 i::p,_=>simp [s9]
  | .idx i::p,h=>cases h

theorem b2a:∀ {t:Ty} {p:List Step} {x y:t.den},a2k p=true→s6 t x p→s6 t y p:=by
 intro t
 induction t with
 | pair a c iha ihc =>
  intro p x y h ho
  match p,h,ho with
  | [],_,_=>trivial
  | .i9 0::p,h,ho=>exact iha (x:=x.1) h ho
  | .i9 (n+1)::p,h,ho=>exact ihc (p:=.i9 n::p) (x:=x.2) h ho
  | .idx i::p,h,_=>cases h
 | d0 o t ih =>
  intro p x y h ho
  match p,h,ho with
  | [],_,_=>exact H5
  | .i9 i::p,_,ho=>cases o<;>simp [s6] at ho
  | .idx i::p,h,_=>cases h
 | _ =>
  intro p x y h ho
  match p,h,ho with
  | [],_,_=>exact H5
  | .i9 i::p,_,ho=>simp [s6] at ho
  | .idx i::p,h,_=>cases h

def a5g (e e':f9):Prop:=(∃ t x x',e=.var t x∧e'=.var t x')∨(∃ t x x',e=.own (.d0 true t) x∧e'=.own (.d0 true t) x')∨(∃ o k v x x',e=.own (.map o k v) x∧e'=.own (.map o k v) x')

theorem RS.renew (h:RS B S ι s a w) {i:Nat} {e e':f9} (he:look i s.hp=some e) (hal:a5g e e') {F:List Nat} (hF:x4 B S ι s.hp w F) {L:List Nat} {w':World} (k:w8 L w w') (hLs:∀ b∈L,b∈i8 ι i e∨b∈F) (hS:∀ b,S b→S' b)
  (hS':∀ b,S' b→S b∨(w.heap.size≤b∧b<w'.heap.size)) {O':List Nat} (hob:OB w'.heap S' (ι.t8 i O') i e') (hO':∀ c∈i8 (ι.t8 i O') i e',¬ S' c∧(w.heap.size≤c∨c∈L)∧c<w'.heap.size) :
  RS B S' (ι.t8 i O') ((s.N0 i e.O5).o7 i e') a w':=by
 have hnb:e≠.E8:=by rcases hal with ⟨_,_,_,h,_⟩|⟨_,_,_,h,_⟩|⟨_,_,_,_,_,h,_⟩<;>(rw [h]; intro h; cases h)
 have hLfact:∀ b∈L,¬ S b∧(B.w0.heap.size≤b∨B.M b)∧b<w.heap.size∧∀ j ej,j≠i→look j s.hp=some ej→b∉i8 ι j ej:=by
  intro b hb
  rcases hLs b hb with h1|h1
  ·obtain ⟨q1,q2,q3⟩:=h.hs.bl i e he b h1
   exact ⟨q1,q2,q3,fun j ej hj hlj=>h.hs.dj i j e ej he hlj (Ne.symm hj) b h1⟩
  ·obtain ⟨q1,q2,q3,q4⟩:=hF.2 b h1
   exact ⟨q1,q2,q3,fun j ej _ hlj=>q4 j ej hlj⟩
 have hold:∀ {b:Nat},((∃ j ej,j≠i∧look j s.hp=some ej∧b∈i8 ι j ej)∨S b)→w'.heap[b]?=w.heap[b]?:=by
  intro b hb
  refine k.frame b (hb.elim (fun ⟨j,ej,_,h1,h2⟩=>(h.hs.bl j ej h1 b h2).2.2) (h.hs.slt b)) (fun hbL=>?_)
  obtain ⟨q1,_,_,q4⟩:=hLfact b hbL
  rcases hb with ⟨j,ej,h0,h1,h2⟩|hb
  ·exact q4 j ej h0 h1 h2
  ·exact q1 hb
 have hnew:∀ c∈i8 (ι.t8 i O') i e',(¬ S' c∧(B.w0.heap.size≤c∨B.M c)∧c<w'.heap.size)∧∀ j ej,j≠i→look j s.hp=some ej→c∉i8 ι j ej:=by
  intro c hc
  obtain ⟨q1,q2,q3⟩:=hO' c hc
  rcases q2 with q2|q2
  ·exact ⟨⟨q1,.inl (Nat.le_trans h.hs.size q2),q3⟩,fun j ej _ hlj hcb=>by have:=(h.hs.bl j ej hlj c hcb).2.2; omega⟩
  ·obtain ⟨r1,r2,r3,r4⟩:=hLfact c q2
   exact ⟨⟨q1,r2,q3⟩,r4⟩
 have hsame:∀ j,j≠i→w6 ι (ι.t8 i O') j:=fun j hj=>L8 hj _
 have hHS:HS B S' (ι.t8 i O') (Ex.put i e' s.hp) w':=by
  refine ⟨k.os.trans h.hs.os,k.tape.trans h.hs.tape,k.out.trans h.hs.out,Nat.le_trans h.hs.size k.size,?_,?_,fun b hb=>hS b (h.hs.s0 b hb),?_,?_,?_,?_,?_⟩
  ·intro c hc hm
   rw [k.frame c (Nat.lt_of_lt_of_le hc h.hs.size) (fun hcL=>by rcases (hLfact c hcL).2.1 with h1|h1; omega; exact hm h1)]
   exact h.hs.frame c hc hm
  ·intro b hb
   rcases hS' b hb with h1|h1
   ·exact Nat.lt_of_lt_of_le (h.hs.slt b h1) k.size
   ·exact h1.2
  ·intro b hb
   rcases hS' b hb with h1|h1
   ·exact h.hs.s1 b h1
   ·exact .inr (Nat.le_trans h.hs.size h1.1)
  ·intro j ej hj
   rw [l7] at hj
   by_cases e1:j=i
   ·subst e1; rw [if_pos rfl] at hj; cases hj; exact hob
   ·rw [if_neg e1] at hj
    exact (hsame j e1).ob.2 ((h.hs.ob j ej hj).o4 (fun b hb=>hold (hb.imp (fun hb=>⟨j,ej,e1,hj,hb⟩) id)) hS)
  ·intro j ej hj c hc
   rw [l7] at hj
   by_cases e1:j=i
   ·subst e1; rw [if_pos rfl] at hj; cases hj; exact (hnew c hc).1
   ·rw [if_neg e1] at hj
    rw [(hsame j e1).i8] at hc
    obtain ⟨q1,q2,q3⟩:=h.hs.bl j ej hj c hc
    refine ⟨fun hs=>?_,q2,Nat.lt_of_lt_of_le q3 k.size⟩
    rcases hS' c hs with h1|h1
    ·exact q1 h1
    ·omega
  ·intro j l ej el hj hl hjl c hc
   rw [l7] at hj hl
   by_cases e1:j=i
   ·subst e1
    rw [if_pos rfl] at hj; cases hj
    rw [if_neg (Ne.symm hjl)] at hl
    rw [(hsame l (Ne.symm hjl)).i8]
    exact (hnew c hc).2 l el (Ne.symm hjl) hl
   ·rw [if_neg e1] at hj
    rw [(hsame j e1).i8] at hc
    by_cases e2:l=i
    ·subst e2
     rw [if_pos rfl] at hl; cases hl
     exact fun hcc=>(hnew c hcc).2 j ej e1 hj hc
    ·rw [if_neg e2] at hl
     rw [(hsame l e2).i8]
     exact h.hs.dj j l ej el hj hl hjl c hc
  ·intro q hq
   obtain ⟨k0,⟨e1,k1⟩,k2,k3⟩:=h.hs.pin q hq
   refine ⟨k0,?_,k2,k3⟩
   rw [l7]
   by_cases e2:q.1=i
   ·exact ⟨_,by rw [if_pos e2]⟩
   ·exact ⟨e1,by rw [if_neg e2]; exact k1⟩
 refine ⟨hHS,h.W7,h.sz,?_⟩
 intro t v hv
 simp only [St.o7,St.N0,D3,Option.map_eq_some_iff] at hv
 obtain ⟨v0,hv0,rfl⟩:=hv
 refine VX.map (fun c hc=>hold (.inr hc)) hS (fun v vs hr hm hvx=>?_) (h.fr t v0 hv0)
 unfold AV.a0M
 have honex:=VX.one hr hvx
 cases hmi:v.e8 i with
 | false =>
  have hne:∀ j,v.e8 j=true→j≠i:=by rintro j hj rfl; rw [hmi] at hj; cases hj
  have hst:VX w'.heap S' ι (del i s.hp) v vs:=by
   refine VX.grow (fun c hcm=>hold ?_) hS h.hs.slt (fun j ej hj=>?_) (VX.other (hp':=del i s.hp) (fun j hj=>by rw [E3,if_neg (hne j hj)]) (fun j _=>w6.refl ι j) hvx)
   ·rcases hcm with ⟨j,ej,hj,hcj⟩|hcm
    ·rw [E3] at hj
     split at hj
     ·cases hj
     ·rename_i hji
      exact .inl ⟨j,ej,hji,hj,hcj⟩
    ·exact .inr hcm
   ·rw [E3] at hj
    split at hj
    ·cases hj
    ·exact h.hs.ob j ej hj
  exact VX.other (fun j hj=>by simp only [St.o7,l7,E3,if_neg (hne j hj)]; rfl) (fun j hj=>hsame j (hne j hj)) hst
 | true =>
  simp only
  cases v<;>simp only [AV.ref] at hr<;>try cases hr
  ·rename_i j q
   have hji:i=j:=Nat.eq_of_beq_eq_true hmi
   subst hji
   cases hfl:a2k q with
   | false=>simp only [hfl]; exact honex
   | true =>
    simp only [hfl]
    obtain ⟨ej,b2,off2,k1,k2,k3,k4⟩:=hvx
    rw [he] at k1; cases k1
    rcases hal with ⟨t0,x0,x1,rfl,rfl⟩|⟨t0,x0,x1,rfl,rfl⟩|⟨o0,k0,v0,x0,x1,rfl,rfl⟩
    ·obtain ⟨p1,p2⟩:=r9 k3
     refine ⟨.var t0 x1,b2,off2,by simp [St.o7,l7],b2a hfl k2,M5 ?_ (Nat.lt_of_lt_of_le p2 k.size),k4⟩
     simp only [Place,VR,VH,Ix.t8,f9.ty] at p1 ⊢
     rw [b0u (G':=w.heap) hfl]; exact p1
    ·exfalso
     obtain ⟨p1,p2⟩:=r9 k3
     cases q with
     | nil =>
      simp only [Place,s8,VR,Option.some.injEq,Prod.mk.injEq] at p1
      omega
     | cons st q =>
      cases st with
      | i9 n=>have k2:s6 (.d0 true t0) x0 (.i9 n::q):=k2; simp [s6] at k2
      | idx n=>cases hfl
    ·exfalso
     obtain ⟨p1,p2⟩:=r9 k3
     cases q with
     | nil =>
      simp only [Place,s8,VR,Option.some.injEq,Prod.mk.injEq] at p1
      omega
     | cons st q =>
      cases st with
      | i9 n=>have k2:s6 (.map o0 k0 v0) x0 (.i9 n::q):=k2; simp [s6] at k2
      | idx n=>cases hfl
  ·rename_i j q
   have hji:i=j:=Nat.eq_of_beq_eq_true hmi
   subst hji
   cases q with
   | cons st q=>exact honex
   | nil =>
    rcases hal with ⟨t0,x0,x1,rfl,rfl⟩|⟨t0,x0,x1,rfl,rfl⟩|⟨o0,k0,v0,x0,x1,rfl,rfl⟩
    ·exact honex
    ·obtain ⟨ej,u2,y2,cs2,k1,k2,k3,k4,k5⟩:=hvx
     rw [he] at k1; cases k1
     rw [u5] at k3; cases k3
     obtain ⟨⟨O1,_,hR1⟩,_⟩:=h.hs.ob i _ he
     have hcs2:=K7 k4 hR1.length
     exact ⟨.own (.d0 true t0) x1,.d0 true t0,x1,cs2,by simp [St.o7,l7],H5,u5,a0w (show ι.cells i=cs2 from hcs2.symm) (by rw [hcs2]; exact hR1.length),k5⟩
    ·obtain ⟨ej,u2,y2,cs2,k1,k2,k3,k4,k5⟩:=hvx
     rw [he] at k1; cases k1
     rw [u5] at k3; cases k3
     obtain ⟨⟨O1,_,hR1⟩,_⟩:=h.hs.ob i _ he
     have hcs2:=K7 k4 hR1.length
     exact ⟨.own (.map o0 k0 v0) x1,.map o0 k0 v0,x1,cs2,by simp [St.o7,l7],H5,u5,a0w (show ι.cells i=cs2 from hcs2.symm) (by rw [hcs2]; exact hR1.length),k5⟩
  ·rename_i j q lo hi
   have hji:i=j:=Nat.eq_of_beq_eq_true hmi
   subst hji
   cases q with
   | cons st q=>exact honex
   | nil =>
    rcases hal with ⟨t0,x0,x1,rfl,rfl⟩|⟨t0,x0,x1,rfl,rfl⟩|⟨o0,k0,v0,x0,x1,rfl,rfl⟩
    ·exact honex
    ·obtain ⟨ej,v2,k1,k2,k3,k4,k5,k6⟩:=hvx
     rw [he] at k1; cases k1
     obtain ⟨⟨O1,_,hR1⟩,_⟩:=h.hs.ob i _ he
     rcases k6 with ⟨t',l,a',cap,g1,g2,g3,g4⟩|⟨n,t',l,b2,off2,g1,g2,g3,g4⟩
     ·have g1:i6 (.d0 true t0) x0 []=some ⟨.d0 true t',l⟩:=g1
      rw [u5] at g1; cases g1
      have hcs2:=K7 g3 hR1.length
      have hlen:List.length x1=List.length x0:=by
       obtain ⟨⟨O'',_,hR''⟩,_⟩:=hob
       have hcc:(ι.t8 i O').cells i=[.slice a' (List.length x0) cap]:=(show ι.cells i=_ from hcs2.symm)
       rw [hcc] at hR''
       rcases hR'' with ⟨_,⟨a2,c2,h1,_⟩,h3⟩|⟨b3,o3,cap3,O3,c1,_⟩
       ·simp only [List.cons.injEq,Value.slice.injEq,and_true] at h1
        subst h3
        simp [h1.2.1]
       ·simp only [List.cons.injEq,Value.slice.injEq,and_true] at c1
        exact c1.2.1.symm
      refine ⟨.own (.d0 true t0) x1,v2,by simp [St.o7,l7],H5,k3,k4,k5,.inl ⟨t0,x1,a',cap,u5,by rw [hlen]; exact g2,?_,g4⟩⟩
      rw [hlen]
      exact a0w (show ι.cells i=_ from hcs2.symm) rfl
     ·exfalso
      simp only [Loc,Place,s8,VR] at g3
      simp at g3
    ·exfalso
     obtain ⟨ej,v2,k1,k2,k3,k4,k5,k6⟩:=hvx
     rw [he] at k1; cases k1
     rcases k6 with ⟨t',l,a',cap,g1,_⟩|⟨n,t',l,b2,off2,g1,_⟩
     ·have g1:i6 (.map o0 k0 v0) x0 []=some ⟨.d0 true t',l⟩:=g1
      rw [u5] at g1; cases g1
     ·have g1:i6 (.map o0 k0 v0) x0 []=some ⟨.arr n t',l⟩:=g1
      rw [u5] at g1; cases g1

end
end Go.Ex
