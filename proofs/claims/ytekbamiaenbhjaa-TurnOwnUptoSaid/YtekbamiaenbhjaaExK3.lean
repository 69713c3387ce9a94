import Derived.Test.YtekbamiaenbhjaaExK2
import Derived.Laws.IdiomCopy
import Derived.Laws.Strings
import Derived.Laws.CopyRow

namespace Go.Ex

/-! ### contracts: what they say -/
section
variable (H:Array Go.Obj) (S:Nat→Prop)
def b5M (t:Ty) (v:Value) (x:t.den):Prop :=
 ∃ b off,v=.pointer (some ⟨b,off,none⟩)∧S b∧off+t.size≤(r8 H b).length∧f7 H S t [] (d8 H b off t.size) x

def RdL:(ts:List Ty)→List Value→DL ts→Prop
 | [],vs,_=>vs=[]
 | t::ts,vs,x=>∃ v us,vs=v::us∧b5M H S t v x.1∧RdL ts us x.2

def c1n:(k:PK)→Value→k.den→List Nat→Prop
 | .v t,v,x,L=>L=[]∧∃ cs,v=j7 t cs∧f7 H S t [] cs x
 | .rd t,v,x,L=>L=[]∧b5M H S t v x
 | .s8 f ts,v,x,L=>L=[]∧∃ us,v=.func (.func f) #[] us.toArray∧RdL H S ts us x
 | .own t,v,x,L=>∃ cs,v=j7 t cs∧f7 H S t L cs x
 | .rw t,v,x,L=>∃ b off O,v=.pointer (some ⟨b,off,none⟩)∧f7 H S t O (d8 H b off t.size) x∧J5 H b (off+t.size)∧L=b::O
 | .mu t,v,x,L=>∃ cs,v=j7 (.d0 true t) cs∧f7 H S (.d0 true t) L cs x
 | .Q6,v,_,L=>L=[]∧v=.slice none 0 0
 | .T7 _ _,_,_,L=>L=[]
 | .el _,_,_,L=>L=[]

def K3:(ks:List PK)→List Value→DK ks→List Nat→Prop
 | [],vs,_,L=>vs=[]∧L=[]
 | k::ks,vs,x,L=>∃ v us L1 L2,vs=v::us∧L=L1++L2∧c1n H S k v x.1 L1∧K3 ks us x.2 L2

def J0:(ts:List Ty)→List Nat→List Value→DL ts→Prop
 | [],O,vs,_=>O=[]∧vs=[]
 | t::ts,O,vs,x=>∃ v us O1 O2 cs,vs=v::us∧O=O1++O2∧v=j7 t cs∧f7 H S t O1 cs x.1∧J0 ts O2 us x.2

def E1:(ks:List PK)→List Value→DL (B1 ks)→List Nat→Prop
 | [],vs,_,L=>vs=[]∧L=[]
 | .rw t::ks,vs,y,L=>∃ b off O us L',vs=.pointer (some ⟨b,off,none⟩)::us∧f7 H S t O (d8 H b off t.size) y.1∧J5 H b (off+t.size)∧L=(b::O)++L'∧E1 ks us y.2 L'
 | .mu t::ks,vs,y,L=>∃ cs O us L',vs=j7 (.d0 true t) cs::us∧cs.length=1∧f7 H S (.d0 true t) O cs y.1∧L=O++L'∧E1 ks us y.2 L'
 | .v _::ks,vs,y,L=>∃ v us,vs=v::us∧E1 ks us y L
 | .rd _::ks,vs,y,L=>∃ v us,vs=v::us∧E1 ks us y L
 | .s8 _ _::ks,vs,y,L=>∃ v us,vs=v::us∧E1 ks us y L
 | .own _::ks,vs,y,L=>∃ v us,vs=v::us∧E1 ks us y L
 | .Q6::ks,vs,y,L=>∃ v us,vs=v::us∧E1 ks us y L
 | .T7 _ _::ks,vs,y,L=>∃ v us,vs=v::us∧E1 ks us y L
 | .el _::ks,vs,y,L=>∃ v us,vs=v::us∧E1 ks us y L

def O6:(ks:List PK)→Option (Sigma Ty.den)→List Value→List Value→DK ks→Prop
 | [],_,_,_,_=>True
 | .T7 f n::ks,_,pre,vs,x=>(∃ us b off,vs=Value.pointer (some ⟨b,off,none⟩)::us∧S b∧off+1≤(r8 H b).length∧d8 H b off 1=[.func (.func f) #[] ((pre.take n).reverse++[Value.pointer (some ⟨b,off,none⟩)]).toArray]∧n≤pre.length) ∧
   O6 ks none (vs.take 1++pre) (vs.drop 1) x.2
 | .el q::ks,c,pre,vs,x=>(∃ t y b0 off0 pre' b off us,c=some ⟨t,y⟩∧pre=Value.pointer (some ⟨b0,off0,none⟩)::pre'∧vs=Value.pointer (some ⟨b,off,none⟩)::us∧u6 t y (q++[.idx x.1])∧w9 H t (q++[.idx x.1]) b0 off0=some (b,off)∧b<H.size) ∧
   O6 ks none (vs.take 1++pre) (vs.drop 1) x.2
 | .rw t::ks,_,pre,vs,x=>O6 ks (some ⟨t,x.1⟩) (vs.take 1++pre) (vs.drop 1) x.2
 | .v _::ks,_,pre,vs,x=>O6 ks none (vs.take 1++pre) (vs.drop 1) x.2
 | .rd _::ks,_,pre,vs,x=>O6 ks none (vs.take 1++pre) (vs.drop 1) x.2
 | .s8 _ _::ks,_,pre,vs,x=>O6 ks none (vs.take 1++pre) (vs.drop 1) x.2
 | .own _::ks,_,pre,vs,x=>O6 ks none (vs.take 1++pre) (vs.drop 1) x.2
 | .mu _::ks,_,pre,vs,x=>O6 ks none (vs.take 1++pre) (vs.drop 1) x.2
 | .Q6::ks,_,pre,vs,x=>O6 ks none (vs.take 1++pre) (vs.drop 1) x.2
end

def PK.lnk:PK→Bool
 | .T7 _ _|.el _=>true
 | _=>false

theorem a0e {H:Array Go.Obj} {S:Nat→Prop}:∀ {ks:List PK} {c:Option (Sigma Ty.den)} {pre vs:List Value} {x:DK ks},ks.any PK.lnk=false→O6 H S ks c pre vs x
 | [],_,_,_,_,_=>trivial
 | k::ks,c,pre,vs,x,h=>by
  rw [List.any_cons,Bool.or_eq_false_iff] at h
  cases k<;>first|(exfalso; simp [PK.lnk] at h; done)|exact a0e (ks:=ks) h.2

def a2k:List Value→Value
 | [v]=>v
 | us=>.tuple us.toArray

structure A4 (L:List Nat) (w w':World):Prop where
 os:w'.os=w.os
 tape:M2 w w'
 out:w'.output=w.output
 size:w.heap.size≤w'.heap.size
 frame:∀ c,c<w.heap.size→c∉L→w'.heap[c]?=w.heap[c]?

def a0y (w:World) (S:Nat→Prop) (rs:List Ty) (ps:List PK) (vs:List Value) (L:List Nat) (y:DL rs) (z:DL (B1 ps)) (e:Ending) (w':World):Prop :=
 ∃ us O Lo S',e=.returned (a2k us)∧A4 L w w'∧(∀ b,S b→S' b)∧(∀ b,S' b→S b∨(w.heap.size≤b∧b<w'.heap.size)) ∧
  J0 w'.heap S' rs O us y∧E1 w'.heap S' ps vs z Lo∧(O++Lo).Nodup∧∀ b∈O++Lo,¬ S' b∧(w.heap.size≤b∨b∈L)∧b<w'.heap.size

/-! ### package-level variables that are only read -/
def b0Q:List (String×(Array Value→Prop)) :=
 [("internal/strconv.uint64pow10",fun cs=>cs=(((List.range 20).map fun i=>((10^i:Nat):Int)).map fun z=>Value.int .u64 z).toArray),
 ("internal/bytealg.MaxLen",fun cs=>∃ m,cs[0]?=some (.int .i64 m))]

def X1 (P:Program) (w:World) (S:Nat→Prop):Prop:=∀ x∈b0Q,∀ g,P.globalNamed x.1=some g→S g∧∃ cs,w.var? P x.1=some cs∧x.2 cs

theorem X1.mono {P:Program} {w w':World} {S S':Nat→Prop} (h:X1 P w S) (hH:∀ b,S b→w'.heap[b]?=w.heap[b]?) (hS:∀ b,S b→S' b):X1 P w' S':=by
 intro x hx g hg
 obtain ⟨h1,cs,h2,h3⟩:=h x hx g hg
 refine ⟨hS _ h1,cs,?_,h3⟩
 unfold World.var? at h2 ⊢
 rw [hg,Option.bind_some] at h2 ⊢
 rw [hH _ h1]
 exact h2

theorem X1.sub {P:Program} {w:World} {S S':Nat→Prop} (h:X1 P w S) (hS:∀ b,S b→S' b):X1 P w S':=h.mono (fun _ _=>rfl) hS

theorem X1.none {P:Program} {w:World} {S:Nat→Prop} (h:(b0Q.all fun x=>(P.globalNamed x.1).isNone)=true):X1 P w S:=by
 intro x hx g hg
 have:=List.all_eq_true.1 h x hx
 rw [hg] at this
 cases this

def GlB (P:Program) (B:C4):Prop:=X1 P B.w0 B.S0∧∀ b,B.S0 b→b<B.w0.heap.size∧¬ B.M b

theorem GlB.at_ {P:Program} {B:C4} {S:Nat→Prop} {ι:Ix} {hp:List (Nat×i6)} {w:World} (h:GlB P B) (hs:HS B S ι hp w):X1 P w S :=
 h.1.mono (fun b hb=>hs.frame b (h.2 b hb).1 (h.2 b hb).2) hs.s0

structure w6.Valid (P:Program) (f:FuncId) (c:w6):Prop where
 ent:∃ fn,P.funcs[f]?=some fn∧(fn.name == "runtime.NumGoroutine")=false∧fn.body.isNone=false
 run:∀ (w:World) (S:Nat→Prop) (vs:List Value) (x:DK c.ps) (L:List Nat),(∀ b,S b→b<w.heap.size)→X1 P w S→c.pre x→K3 w.heap S c.ps vs x L→O6 w.heap S c.ps none [] vs x→L.Nodup→(∀ b∈L,¬ S b∧b<w.heap.size) →
  Calls P f vs.toArray w (a0y w S c.rs c.ps vs L (c.fn x) (c.out x))
 fresh:c.new=true→∀ (w:World) (S:Nat→Prop) (vs:List Value) (x:DK c.ps) (L:List Nat),(∀ b,S b→b<w.heap.size)→X1 P w S→c.pre x→K3 w.heap S c.ps vs x L→O6 w.heap S c.ps none [] vs x→L.Nodup→(∀ b∈L,¬ S b∧b<w.heap.size) →
  Calls P f vs.toArray w (fun e w'=>∃ us O Lo S',e=.returned (a2k us)∧A4 L w w'∧(∀ b,S b→S' b)∧(∀ b,S' b→S b∨(w.heap.size≤b∧b<w'.heap.size)) ∧
   J0 w'.heap S' c.rs O us (c.fn x)∧E1 w'.heap S' c.ps vs (c.out x) Lo∧(O++Lo).Nodup∧(∀ b∈O++Lo,¬ S' b∧(w.heap.size≤b∨b∈L)∧b<w'.heap.size) ∧
   J0 w'.heap (fun b=>S' b∧w.heap.size≤b) c.rs O us (c.fn x))

def b7x (p:List Step):(ps:List PK)→DK ps→Prop
 | .rw t::_,x=>u6 t x.1 p
 | _,_=>True

def b1G (p:List Step) (H H':Array Go.Obj):(ps:List PK)→List Value→DL (B1 ps)→Prop
 | .rw t::_,vs,z=>(match vs with
  | .pointer (some ⟨b,off,none⟩)::_=>u6 t z.1 p∧w9 H' t p b off=w9 H t p b off
  | _=>True)
 | _,_,_=>True

def w6.Kept (P:Program) (f:FuncId) (c:w6) (pat:List (Option Nat)):Prop :=
 ∀ (w:World) (S:Nat→Prop) (vs:List Value) (x:DK c.ps) (L:List Nat),(∀ b,S b→b<w.heap.size)→X1 P w S→c.pre x→K3 w.heap S c.ps vs x L→O6 w.heap S c.ps none [] vs x→L.Nodup→(∀ b∈L,¬ S b∧b<w.heap.size) →
  ∀ p,pm pat p=true→b7x p c.ps x→Calls P f vs.toArray w (fun e w'=>a0y w S c.rs c.ps vs L (c.fn x) (c.out x) e w'∧b1G p w.heap w'.heap c.ps vs (c.out x))

structure B0 (E:Env):Prop where
 tt:∀ T i,look T E.tt=some i→a3D E.P (T,i)=true
 C7:∀ f c,look f E.C7=some c→c.Valid E.P f
 kept:∀ f c pat,look f E.C7=some c→look f E.keeps=some pat→c.Kept E.P f pat

structure y9 (E:Env) (B:C4):Prop extends B0 E where
 gb:GlB E.P B

/-! ### the state, step by step -/
section
variable {E:Env} {B:C4} {S:Nat→Prop} {ι:Ix} {s:St} {a:Act} {w:World}

theorem RS.get (h:RS B S ι s a w) (t:Nat):VX w.heap S ι s.hp (s.get t) [a.tmps.getD t (B.gd t)]:=by
 unfold St.get
 cases hl:look t s.fr with
 | none=>exact ⟨_,rfl⟩
 | some v=>exact h.fr t v hl

theorem VX.const (v:Value) {H:Array Go.Obj} {hp:List (Nat×i6)}:VX H S ι hp (ofConst v) [v]:=by
 unfold ofConst
 split
 ·rename_i k n
  split
  ·rename_i h; exact ⟨[.int k n],rfl,rfl,rfl,h⟩
  ·rfl
 ·rename_i b; exact ⟨[.bool b],rfl,rfl,rfl⟩
 ·rename_i s
  split
  ·rename_i h
   refine ⟨[.string s],rfl,rfl,?_,by simpa using h⟩
   simp
  ·rfl
 ·rfl

theorem RS.ev (h:RS B S ι s a w) (x:Operand):VX w.heap S ι s.hp (s.ev x) [a.eval x]:=by
 cases x with
 | tmp t =>
  show VX w.heap S ι s.hp (match Nat.beq t F9 with|true=>.any|false=>s.get t) [a.tmps.getD t undef]
  have:=h.get t
  unfold C4.gd at this
  cases hb:Nat.beq t F9 with
  | true=>exact ⟨_,rfl⟩
  | false=>rw [hb] at this; exact this
 | const v=>exact VX.const v
 | global g=>exact ⟨_,rfl⟩
 | func f=>exact ⟨[],by simp [Act.eval],rfl⟩

theorem RS.E7 (h:RS B S ι s a w):∀ l:List Operand,VX w.heap S ι s.hp (s.E7 l) (l.map a.eval)
 | []=>rfl
 | x::l=>⟨_,_,rfl,h.ev x,h.E7 l⟩

theorem RS.put (h:RS B S ι s a w) {d:Option Nat} (hd:C0 B.n d=true) {v:AV} {val:Value} (hv:VX w.heap S ι s.hp v [val]):RS B S ι (s.put d v) (a.put d val) w:=by
 cases d with
 | none=>exact h
 | some d =>
  have hlt:d<B.n:=by simpa [C0,Nat.blt_eq] using hd
  refine ⟨h.hs,h.Y2,by simpa [Act.put] using h.sz,?_⟩
  intro t v' ht
  simp only [St.put,n8] at ht
  simp only [Act.put]
  by_cases e:t=d
  ·subst e
   rw [if_pos rfl] at ht; cases ht
   have:t<a.tmps.size:=by rw [h.sz]; exact hlt
   show VX w.heap S ι s.hp v [_]
   simpa [Array.getD,this,Array.getElem?_setIfInBounds] using hv
  ·rw [if_neg e] at ht
   have:=h.fr t v' ht
   show VX w.heap S ι s.hp v' [_]
   simpa [Array.getD_eq_getD_getElem?,Array.getElem?_setIfInBounds_ne (Ne.symm e)] using this

def u5 (P:Program) (B:C4) (o:Oper) (a:Act) (w:World) (v:AV) (s':St):Prop :=
 ∀ (next:Act→World→Prop) (Q:Exit→Act→World→Prop),
  (∀ S' ι' w' val,RS B S' ι' s' a w'→VX w'.heap S' ι' s'.hp v [val]→next (a.put o.dst val) w')→o.wp P a w next Q

theorem u5.value {P:Program} {o:Oper} {v:AV} {val:Value} (hr:(execOp a.eval o).run P w=.ok (.value val) w) (h:RS B S ι s a w) (hv:VX w.heap S ι s.hp v [val]) :
  u5 P B o a w v s:=by
 intro next Q hn
 unfold Oper.wp
 rw [hr]
 exact hn S ι w val h hv

theorem B2 (hE:y9 E B) {T:TypeId} {u:Ty} (h:G1 E T u=true):p8 E.P 100 T u=true:=by
 unfold G1 at h
 split at h
 ·rename_i i hi
  have h1:=hE.tt T i hi
  simp only [a3D,Bool.and_eq_true] at h1
  exact b7J (a2c (of_decide_eq_true h).symm (b7K h1.1))
 ·cases h

theorem t8 (hE:y9 E B) {T:TypeId} {i:TI} (h:look T E.tt=some i):p8 E.P 100 T i.ty=true:=by
 have h1:=hE.tt T i h
 simp only [a3D,Bool.and_eq_true] at h1
 exact h1.1

/-! reading memory -/
theorem J8 {b off n:Nat} {j:Nat} {v:Value} (h:(d8 w.heap b off n)[j]?=some v):w.cell? ⟨b,off+j,none⟩=some v:=by
 simp only [d8,List.getElem?_take,List.getElem?_drop] at h
 split at h
 ·unfold r8 at h
  split at h
  ·rename_i arr T fz e
   simp [World.cell?,e] 
   simpa using h
  ·simp at h
 ·cases h

theorem Addr.E8 (b off n:Nat):(⟨b,off,none⟩:Addr).add n=⟨b,off+n,none⟩:=by
 unfold Addr.add
 split
 ·subst_vars; simp
 ·rfl

theorem X5 {P:Program} {T:TypeId} {t:Ty} {n:Nat} (ht:p8 P n T t=true) {b off:Nat} {O:List Nat} {x:t.den} (hR:f7 w.heap S t O (d8 w.heap b off t.size) x) :
  (loadVar T ⟨b,off,none⟩).run P w=.ok (j7 t (d8 w.heap b off t.size)) w:=by
 have hl:=hR.length
 simp only [loadVar,Sem.run_bind,a2I ht,Result.andThen]
 cases hg:t.agg with
 | true =>
  simp only [if_true,Sem.run_bind,run_sizeOf ht,Result.andThen]
  have:=run_loadCells_list (P:=P) w ⟨b,off,none⟩ (d8 w.heap b off t.size) (fun j v h=>by rw [Addr.E8]; exact J8 h)
  rw [hl] at this
  rw [this]
  simp [j7,hg]
 | false =>
  have h1:t.size=1:=by cases t<;>simp_all [Ty.agg,Ty.size]
  rw [h1] at hl ⊢
  match hc:d8 w.heap b off 1,hl with
  | [c],_ =>
   have:=J8 (w:=w) (b:=b) (off:=off) (n:=1) (j:=0) (v:=c) (by rw [hc]; rfl)
   simp only [Nat.add_zero] at this
   simp [run_load,this,j7,hg]

theorem H5 {P:Program} {o:Oper} {sem:Sem Value} {val:Value} {w':World} (h:execOp a.eval o=(do pure (.value (← sem)))) (hr:sem.run P w=.ok val w') :
  (execOp a.eval o).run P w=.ok (.value val) w':=by
 rw [h]; simp [hr]

theorem F8 {i:Nat} {e:i6} (h1:look i s.hp=some e) {p:List Step} {r:Sigma Ty.den} (h:s.part i p=some r):i8 e.ty e.x p=some r:=by
 unfold St.part St.obj at h
 rw [h1] at h
 exact h

theorem b3Q (hE:y9 E B) {T:TypeId} (ht:b9c (look T E.tt)=true) {l:AV} {val:Value} (hv:VX w.heap S ι s.hp (.bx l) [val]) :
  ∃ u,(Instr.loadAt T val).run E.P w=.ok u w∧VX w.heap S ι s.hp l [u]:=by
 obtain ⟨b,off,u,e,hb,h1,h2,h3⟩:=hv
 refine ⟨u,?_,h3⟩
 obtain rfl:val=.pointer (some ⟨b,off,none⟩):=by simpa using e
 obtain ⟨t,hta,hag⟩:∃ t,p8 E.P 100 T t=true∧t.agg=false:=by
  cases hl:look T E.tt with
  | none=>rw [hl] at ht; cases ht
  | some i =>
   rw [hl] at ht
   refine ⟨i.ty,t8 hE hl,?_⟩
   obtain ⟨ty,n⟩:=i
   cases ty<;>first|rfl|cases ht
 have:=J8 (w:=w) (b:=b) (off:=off) (n:=1) (j:=0) (v:=u) (by rw [h2]; rfl)
 simp only [Nat.add_zero] at this
 simp [Instr.loadAt,Instr.sureAddr,loadVar,a2I hta,hag,run_load,this]

theorem b2Q (hE:y9 E B) (h:RS B S ι s a w) {o:Oper} {T:TypeId} {x:Operand} (ho:o.op=.load T x) {v:AV} {s':St} (hl:T1 E T (s.ev x) s=.ok v s') :
  u5 E.P B o a w v s':=by
 have he:execOp a.eval o=(do pure (.value (← Instr.loadAt T (a.eval x)))):=by simp [execOp,ho]
 have hv:=h.ev x
 unfold T1 at hl
 split at hl
 ·rename_i t y hx
  rw [hx] at hv
  obtain ⟨b,off,e,hb,hr,hR⟩:=hv
  split at hl
  ·rename_i hc
   cases hl
   have e:a.eval x=.pointer (some ⟨b,off,none⟩):=by simpa using e
   refine u5.value (H5 he (w':=w) (val:=j7 t (d8 w.heap b off t.size)) ?_) h ⟨_,rfl,hR⟩
   rw [e]
   simp [Instr.loadAt,Instr.sureAddr,X5 (B2 hE hc) hR]
  ·cases hl
 ·rename_i l hx
  rw [hx] at hv
  split at hl
  ·rename_i ht
   cases hl
   obtain ⟨val,k1,k2⟩:=b3Q (hE:=hE) ht hv
   exact u5.value (H5 he k1) h k2
  ·cases hl
 ·rename_i i p hx
  rw [hx] at hv
  obtain ⟨e,b,off,h1,h2,h3,h4⟩:=hv
  have h4:a.eval x=.pointer (some ⟨b,off,none⟩):=by simpa using h4
  split at hl
  ·rename_i u y hpt
   have hg:=F8 h1 hpt
   obtain ⟨O2,k1,k2,k3,k4,k5⟩:=I5 (I2 h3) (h.hs.ob i e h1) h.hs.slt h2 hg h3
   split at hl
   ·rename_i hc
    have hr:(Instr.loadAt T (a.eval x)).run E.P w=.ok (j7 u (d8 w.heap b off u.size)) w:=by
     rw [h4]; simp [Instr.loadAt,Instr.sureAddr,X5 (B2 hE hc) k3]
    split at hl
    ·rename_i hs
     cases hl
     have:=k3.H7 hs
     subst this
     exact u5.value (H5 he hr) h ⟨_,rfl,k3⟩
    ·cases hl
     have hp:=w5 h3
     exact u5.value (H5 he hr) h ⟨e,u,y,_,h1,h2,hg,⟨b,off,hp.1,(l6 (E0 hp.2) _ _).symm⟩,rfl⟩
   ·cases hl
  ·cases hl
 ·cases hl

/-! arithmetic -/
theorem Z5 (k:IntKind) (n:Int):C3 k (k.wrap n):=by
 unfold C3 IntKind.wrap IntKind.min IntKind.max
 have h1:(0:Int)<2^k.bits:=by cases k<;>decide
 have h2:=Int.emod_nonneg n (b:=2^k.bits) (by omega)
 have h3:=Int.emod_lt_of_pos n h1
 cases k<;>simp [IntKind.signed,IntKind.bits] at*<;> (try split)<;>omega

theorem T5 {k:IntKind} {n:Int} (h:C3 k n):k.wrap n=n:=by
 unfold C3 IntKind.min IntKind.max at h
 unfold IntKind.wrap
 cases k<;>simp [IntKind.signed,IntKind.bits] at*<;> (try split)<;>omega

theorem VX.int {H:Array Go.Obj} {hp:List (Nat×i6)} {k:IntKind} {n:Int} (h:C3 k n):VX H S ι hp (.val (.int k) n) [.int k n]:=⟨[.int k n],rfl,rfl,rfl,h⟩
theorem VX.bool {H:Array Go.Obj} {hp:List (Nat×i6)} {b:Bool}:VX H S ι hp (.val .bool b) [.bool b]:=⟨[.bool b],rfl,rfl,rfl⟩
theorem VX.str {H:Array Go.Obj} {hp:List (Nat×i6)} {l:List UInt8} (h:l.length≤maxLen):VX H S ι hp (.val .str l) [.string ⟨l.toArray⟩]:=⟨[.string ⟨l.toArray⟩],rfl,rfl,rfl,h⟩

theorem VX.E6 {H:Array Go.Obj} {hp:List (Nat×i6)} {k:IntKind} {n:Int} {v:Value} (h:VX H S ι hp (.val (.int k) n) [v]):v=.int k n∧C3 k n:=by
 obtain ⟨cs,e,_,rfl,h2⟩:=h
 exact ⟨by simpa [j7,Ty.agg] using e,h2⟩
theorem VX.a1v {H:Array Go.Obj} {hp:List (Nat×i6)} {b:Bool} {v:Value} (h:VX H S ι hp (.val .bool b) [v]):v=.bool b:=by
 obtain ⟨cs,e,_,rfl⟩:=h
 simpa [j7,Ty.agg] using e
theorem VX.a1h {H:Array Go.Obj} {hp:List (Nat×i6)} {l:List UInt8} {v:Value} (h:VX H S ι hp (.val .str l) [v]):v=.string ⟨l.toArray⟩∧l.length≤maxLen:=by
 obtain ⟨cs,e,_,rfl,h2⟩:=h
 exact ⟨by simpa [j7,Ty.agg] using e,h2⟩

def C6 (P:Program) (B:C4) (o:Oper) (a:Act) (w:World):OR→Prop
 | .fail _=>True
 | .ok v s=>u5 P B o a w v s
 | .D8 p v s=>p→u5 P B o a w v s

theorem C6.pure {P:Program} {o:Oper} {sem:Sem Value} (he:execOp a.eval o=(do pure (.value (← sem)))) (h:RS B S ι s a w) {v:AV} {val:Value} (hr:sem.run P w=.ok val w)
  (hv:VX w.heap S ι s.hp v [val]):u5 P B o a w v s:=u5.value (H5 he hr) h hv

theorem a1E {P:Program} {o:Oper} {k:IntKind} {r:Int} (he:(execOp a.eval o).run P w=.ok (.value (.int k (k.wrap r))) w) (h:RS B S ι s a w):C6 P B o a w (arith k r s):=by
 unfold arith
 split
 ·intro hk
  exact u5.value (by rw [he,T5 hk]) h (VX.int hk)
 ·exact u5.value he h (VX.int (Z5 _ _))

theorem M7 {P:Program} {o:Oper} {op:BinOp} {T T':TypeId} {x y:Operand} (ho:o.op=.binOp op T x y T') (hg:(eqGuard op T x y (a.eval x) (a.eval y)).run P w=.ok () w) {r:Result Value}
  (hr:(binOp op T (a.eval x) (a.eval y)).run P w=r):(execOp a.eval o).run P w=r.andThen fun v w'=>.ok (.value v) w':=by
 simp only [execOp,ho,Sem.run_bind,hg,Result.andThen,hr]
 cases r<;>rfl

theorem b5z (h:RS B S ι s a w) {o:Oper} {op:BinOp} {T T':TypeId} {x y:Operand} (ho:o.op=.binOp op T x y T') {P:Program} {k k':IntKind} {m n:Int}
  (hx:a.eval x=.int k m) (bx:C3 k m) (hy:a.eval y=.int k' n) (by_:C3 k' n):C6 P B o a w (a6q op k m k' n s):=by
 have hg:(eqGuard op T x y (a.eval x) (a.eval y)).run P w=.ok () w:=by rw [hx,hy]; cases op<;>rfl
 have run:∀ {r:Result Value},(binOp op T (.int k m) (.int k' n)).run P w=r→(execOp a.eval o).run P w=r.andThen fun v w'=>.ok (.value v) w':=by
  intro r hr
  exact M7 ho hg (by rw [hx,hy]; exact hr)
 have h0:k.min≤0:=by cases k<;>decide
 have h1:0≤k.max:=by cases k<;>decide
 unfold a6q
 split
 ·intro hn
  have:¬ n<0:=by omega
  exact u5.value (by rw [run (r:=.ok (.int k (k.wrap (m*2^(min n.toNat k.bits)))) w)]; rfl; simp [binOp,Op.shift,this]) h (VX.int (Z5 _ _))
 ·intro hn
  have:¬ n<0:=by omega
  generalize hc:min n.toNat k.bits=c
  have hp:(0:Int)<2^c:=Int.pow_pos (by decide)
  have hb:C3 k (m / 2^c):=by
   unfold C3 at *
   refine ⟨?_,?_⟩
   ·apply (Int.le_ediv_iff_mul_le hp).2
    by_cases hm:m<0
    ·have:k.min*2^c≤k.min*1:=Int.mul_le_mul_of_nonpos_left h0 (by omega)
     omega
    ·have:k.min*2^c≤0:=Int.mul_nonpos_of_nonpos_of_nonneg h0 (Int.le_of_lt hp)
     omega
   ·by_cases hm:m<0
    ·have:=Int.ediv_neg_of_neg_of_pos hm hp
     omega
    ·have:=Int.ediv_le_self (2^c) (a:=m) (by omega)
     omega
  refine u5.value (by rw [run (r:=.ok (.int k (m / 2^c)) w)]; rfl; simp [binOp,Op.shift,this,hc,Int.fdiv_eq_ediv_of_nonneg _ (Int.le_of_lt hp)]) h (VX.int hb)
 ·rename_i hne1 hne2
  split
  ·rename_i hk; subst hk
   split
   ·exact a1E (by rw [run (r:=.ok (.int k (k.wrap (m+n))) w)]; rfl; simp [binOp,Op.intArith]) h
   ·exact a1E (by rw [run (r:=.ok (.int k (k.wrap (m - n))) w)]; rfl; simp [binOp,Op.intArith]) h
   ·exact a1E (by rw [run (r:=.ok (.int k (k.wrap (m*n))) w)]; rfl; simp [binOp,Op.intArith]) h
   ·intro hn
    have hq:C3 k (m.tdiv n):=by
     unfold C3 at *
     by_cases hm:m<0
     ·have e:m.tdiv n=-((-m) / n):=by rw [← Int.neg_neg m,Int.neg_tdiv,Int.tdiv_eq_ediv_of_nonneg (by omega)]; simp
      have:=Int.ediv_nonneg (a:=-m) (b:=n) (by omega) (by omega)
      have:=Int.ediv_le_self n (a:=-m) (by omega)
      omega
     ·rw [Int.tdiv_eq_ediv_of_nonneg (by omega)]
      have:=Int.ediv_nonneg (a:=m) (b:=n) (by omega) (by omega)
      have:=Int.ediv_le_self n (a:=m) (by omega)
      omega
    exact u5.value (by rw [run (r:=.ok (.int k (m.tdiv n)) w)]; rfl; simp [binOp,Op.intDiv,show n≠0 by omega,T5 hq]) h (VX.int hq)
   ·intro hn
    have hq:C3 k (m.tmod n):=by
     unfold C3 at *
     by_cases hm:m<0
     ·have e:m.tmod n=-((-m) % n):=by rw [← Int.neg_neg m,Int.neg_tmod,Int.tmod_eq_emod_of_nonneg (by omega)]; simp
      have:=Int.emod_nonneg (-m) (b:=n) (by omega)
      have:(-m) % n≤-m:=by
       have:=Int.emod_add_mul_ediv (-m) n
       have:=Int.mul_nonneg (Int.le_of_lt hn) (Int.ediv_nonneg (a:=-m) (b:=n) (by omega) (by omega))
       omega
      omega
     ·rw [Int.tmod_eq_emod_of_nonneg (by omega)]
      have:=Int.emod_nonneg m (b:=n) (by omega)
      have:m % n≤m:=by
       have:=Int.emod_add_mul_ediv m n
       have:=Int.mul_nonneg (Int.le_of_lt hn) (Int.ediv_nonneg (a:=m) (b:=n) (by omega) (by omega))
       omega
      omega
    exact u5.value (by rw [run (r:=.ok (.int k (m.tmod n)) w)]; rfl; simp [binOp,Op.intDiv,show n≠0 by omega]) h (VX.int hq)
   ·exact u5.value (by rw [run (r:=.ok (.int k (b8v k m n)) w)]; rfl; simp [binOp,Op.intBits,b8v]) h (VX.int (Z5 _ _))
   ·exact u5.value (by rw [run (r:=.ok (.int k (bOr k m n)) w)]; rfl; simp [binOp,Op.intBits,bOr]) h (VX.int (Z5 _ _))
   ·exact u5.value (by rw [run (r:=.ok (.int k (b1w k m n)) w)]; rfl; simp [binOp,Op.intBits,b1w]) h (VX.int (Z5 _ _))
   ·exact u5.value (by rw [run (r:=.ok (.int k (a8r k m n)) w)]; rfl; simp [binOp,Op.intBits,a8r]) h (VX.int (Z5 _ _))
   ·exact u5.value (by rw [run (r:=.ok (.bool (decide (m=n))) w)]; rfl; simp [binOp,Op.intCmp]; rfl) h VX.bool
   ·exact u5.value (by rw [run (r:=.ok (.bool (decide (m≠n))) w)]; rfl; simp [binOp,Op.intCmp]; rfl) h VX.bool
   ·exact u5.value (by rw [run (r:=.ok (.bool (decide (m<n))) w)]; rfl; simp [binOp,Op.intCmp]) h VX.bool
   ·exact u5.value (by rw [run (r:=.ok (.bool (decide (m≤n))) w)]; rfl; simp [binOp,Op.intCmp]) h VX.bool
   ·exact u5.value (by rw [run (r:=.ok (.bool (decide (n<m))) w)]; rfl; simp [binOp,Op.intCmp]) h VX.bool
   ·exact u5.value (by rw [run (r:=.ok (.bool (decide (n≤m))) w)]; rfl; simp [binOp,Op.intCmp]) h VX.bool
   ·trivial
  ·trivial

theorem b2J {P:Program} {T:TypeId} {m n:List UInt8} (hn:m.length+n.length≤maxLen):(binOp .add T (.string ⟨m.toArray⟩) (.string ⟨n.toArray⟩)).run P w=.ok (.string ⟨(m++n).toArray⟩) w:=by
 have h2:¬ ((((ByteArray.mk m.toArray).size+(ByteArray.mk n.toArray).size:Nat):Int) > IntKind.i64.max):=by
  have e1:(ByteArray.mk m.toArray).size=m.length:=by simp [ByteArray.size]
  have e2:(ByteArray.mk n.toArray).size=n.length:=by simp [ByteArray.size]
  rw [e1,e2]
  have:IntKind.i64.max=((maxLen:Nat):Int):=by decide
  omega
 have e:(ByteArray.mk m.toArray)++(ByteArray.mk n.toArray)=ByteArray.mk (m++n).toArray:=by
  apply ByteArray.ext; simp
 simp only [binOp,Op.stringOp,h2,if_false,e]
 rfl

theorem b5y (h:RS B S ι s a w) {o:Oper} {op:BinOp} {T T':TypeId} {x y:Operand} (ho:o.op=.binOp op T x y T') {P:Program} {m n:List UInt8}
  (hx:a.eval x=.string ⟨m.toArray⟩) (hy:a.eval y=.string ⟨n.toArray⟩):C6 P B o a w (a6p op m n s):=by
 have hg:(eqGuard op T x y (a.eval x) (a.eval y)).run P w=.ok () w:=by rw [hx,hy]; cases op<;>rfl
 have run:∀ {r:Result Value},(binOp op T (.string ⟨m.toArray⟩) (.string ⟨n.toArray⟩)).run P w=r→(execOp a.eval o).run P w=r.andThen fun v w'=>.ok (.value v) w':=by
  intro r hr
  exact M7 ho hg (by rw [hx,hy]; exact hr)
 unfold a6p
 split
 ·exact u5.value (by rw [run (r:=.ok (.bool (decide (m=n))) w)]; rfl; simp [binOp,Op.stringOp,ByteArray.toList_mk,Bool.beq_eq_decide_eq]) h VX.bool
 ·exact u5.value (by rw [run (r:=.ok (.bool (decide (m≠n))) w)]; rfl; simp [binOp,Op.stringOp,ByteArray.toList_mk,Bool.beq_eq_decide_eq]) h VX.bool
 ·intro hn
  refine u5.value (by rw [run (r:=.ok (.string ⟨(m++n).toArray⟩) w)]; rfl; exact b2J hn) h (VX.str (by simpa using hn))
 ·trivial

theorem a0F {P:Program} {n:Nat} {T:TypeId} (hT:p8 P n T .bool=true):P.underlying T=some .bool:=by
 obtain ⟨d,h1,h2⟩:=K5 hT
 cases n with
 | zero=>simp [p8] at hT
 | succ n =>
  simp only [p8,Bool.and_eq_true,h1] at hT
  obtain ⟨_,hT⟩:=hT
  cases d<;>first|exact h1|(exact (Bool.false_ne_true hT).elim)|skip
  rename_i fs
  have hT:n7 (p8 P n) fs.toList 0 .bool=true:=hT
  cases hf:fs.toList with
  | nil=>rw [hf] at hT; simp [n7] at hT
  | cons f l=>rw [hf] at hT; simp [n7] at hT

theorem run_equalIn_bool {P:Program} {T:TypeId} (h1:P.underlying T=some .bool) (d:Nat) (m n:Bool):(Op.equalIn (d+1) T (.bool m) (.bool n)).run P w=.ok (m == n) w:=by
 simp [Op.equalIn,q8 h1]

theorem a62 {P:Program} {n:Nat} {T:TypeId} (hT:p8 P n T .bool=true) (m n:Bool):(Op.equal T (.bool m) (.bool n)).run P w=.ok (m == n) w :=
 run_equalIn_bool (a0F hT) 9999 m n

theorem b5x (h:RS B S ι s a w) {W:Bool} {o:Oper} {op:BinOp} {T T':TypeId} {x y:Operand} (ho:o.op=.binOp op T x y T') {P:Program} {k k':IntKind} {m n:Int}
  (hx:a.eval x=.int k m) (bx:C3 k m) (hy:a.eval y=.int k' n) (by_:C3 k' n):C6 P B o a w (a6o W op k m k' n s):=by
 unfold a6o
 split
 ·split
  ·rename_i hk; subst hk
   have hg:(eqGuard .add T x y (a.eval x) (a.eval y)).run P w=.ok () w:=by rw [hx,hy]; rfl
   exact u5.value (by rw [M7 ho hg (r:=.ok (.int k (k.wrap (m+n))) w)]; rfl; rw [hx,hy]; simp [binOp,Op.intArith]) h (VX.int (Z5 _ _))
  ·trivial
 ·exact b5z h ho hx bx hy by_

theorem b5B (hE:y9 E B) (h:RS B S ι s a w) {o:Oper} {op:BinOp} {T T':TypeId} {x y:Operand} (ho:o.op=.binOp op T x y T'):C6 E.P B o a w (a6r E T op (s.ev x) (s.ev y) s):=by
 have hx:=h.ev x
 have hy:=h.ev y
 unfold a6r
 split
 ·rename_i k m k' n e1 e2
  rw [e1] at hx; rw [e2] at hy
  obtain ⟨hx,bx⟩:=VX.E6 hx
  obtain ⟨hy,by_⟩:=VX.E6 hy
  exact b5x h ho hx bx hy by_
 ·rename_i m n e1 e2
  rw [e1] at hx; rw [e2] at hy
  have hx:=VX.a1v hx
  have hy:=VX.a1v hy
  have hg:(eqGuard op T x y (a.eval x) (a.eval y)).run E.P w=.ok () w:=by rw [hx,hy]; cases op<;>rfl
  split
  ·rename_i hc
   exact u5.value (by rw [M7 ho hg (r:=.ok (.bool (m == n)) w)]; rfl; rw [hx,hy]; simp [binOp,a62 (B2 hE hc)]) h VX.bool
  ·rename_i hc
   exact u5.value (by rw [M7 ho hg (r:=.ok (.bool (m != n)) w)]; rfl; rw [hx,hy]; simp [binOp,a62 (B2 hE hc)]; cases (m:Bool)<;>cases (n:Bool)<;>rfl) h VX.bool
  ·trivial
 ·rename_i m n e1 e2
  rw [e1] at hx; rw [e2] at hy
  exact b5y h ho (VX.a1h hx).1 (VX.a1h hy).1
 ·trivial

end
end Go.Ex

namespace Go.Ex

section
variable {E:Env} {B:C4} {S S':Nat→Prop} {ι:Ix} {s:St} {a:Act} {w:World} {hp:List (Nat×i6)}

def Ix.N5 (ι:Ix) (d:Nat) (r:Nat×Nat) (o:List Nat):Ix:={ ι with root:=fun i=>if i=d then r else ι.root i,own:=fun i=>if i=d then o else ι.own i }
def Ix.O7 (ι:Ix) (d:Nat) (cs:List Value) (o:List Nat):Ix:={ ι with cells:=fun i=>if i=d then cs else ι.cells i,own:=fun i=>if i=d then o else ι.own i }
def Ix.x7 (ι:Ix) (d:Nat) (o:List Nat):Ix:={ ι with own:=fun i=>if i=d then o else ι.own i }

def A7 (ι ι':Ix) (i:Nat):Prop:=ι'.root i=ι.root i∧ι'.cells i=ι.cells i∧ι'.own i=ι.own i

theorem A7.ob {ι':Ix} {i:Nat} (h:A7 ι ι' i) {H:Array Go.Obj} {e:i6}:OB H S ι' i e↔OB H S ι i e:=by
 obtain ⟨h1,h2,h3⟩:=h
 cases e<;>simp only [OB,h1,h2,h3]
theorem A7.j8 {ι':Ix} {i:Nat} (h:A7 ι ι' i) {e:i6}:j8 ι' i e=j8 ι i e:=by
 obtain ⟨h1,h2,h3⟩:=h
 cases e<;>simp only [Ex.j8,h1,h3]
theorem A7.vh {ι':Ix} {i:Nat} (h:A7 ι ι' i) {H:Array Go.Obj} {e:i6}:VH H ι' i e=VH H ι i e:=by
 obtain ⟨h1,h2,h3⟩:=h
 cases e<;>simp only [VH,h2]
theorem A7.place {ι':Ix} {i:Nat} (h:A7 ι ι' i) {H:Array Go.Obj} {e:i6} {p:List Step}:Place H ι' i e p=Place H ι i e p:=by
 have hv:=h.vh (H:=H) (e:=e)
 obtain ⟨h1,h2,h3⟩:=h
 cases e<;>simp only [Place,VR,h1,hv]
theorem A7.loc {ι':Ix} {i:Nat} (h:A7 ι ι' i) {H:Array Go.Obj} {e:i6} {p:List Step}:Loc H ι' i e p=Loc H ι i e p:=by
 simp only [Loc,h.place]
theorem A7.a4U {ι':Ix} {i:Nat} (h:A7 ι ι' i) {H:Array Go.Obj} {e:i6} {p:List Step} {u:Ty} {cs:List Value}:Cells H ι' i e p u cs↔Cells H ι i e p u cs:=by
 simp only [Cells,h.place,h.vh]

theorem A7.refl (ι:Ix) (i:Nat):A7 ι ι i:=⟨rfl,rfl,rfl⟩
theorem a2Y {i d:Nat} (h:i≠d) (r:Nat×Nat) (o:List Nat):A7 ι (ι.N5 d r o) i:=by simp [A7,Ix.N5,h]
theorem a1y {i d:Nat} (h:i≠d) (cs:List Value) (o:List Nat):A7 ι (ι.O7 d cs o) i:=by simp [A7,Ix.O7,h]
theorem N9 {i d:Nat} (h:i≠d) (o:List Nat):A7 ι (ι.x7 d o) i:=by simp [A7,Ix.x7,h]

theorem VX.other {ι':Ix} {hp':List (Nat×i6)} {H:Array Go.Obj} {v:AV} (hl:∀ i,v.f8 i=true→look i hp'=look i hp) (hs:∀ i,v.f8 i=true→A7 ι ι' i) {vs:List Value} (h:VX H S ι hp v vs):VX H S ι' hp' v vs:=by
 have:=VX.map (H':=H) (S':=S) (ι':=ι') (hp':=hp') (f:=fun u=>u) (fun _ _=>rfl) (fun _ h=>h) ?_ h
 ·rwa [AV.map_id] at this
 ·intro u vs hu hm h
  cases u<;>simp only [AV.ref] at hu<;>try cases hu
  ·rename_i i p
   have hi:=hm i (by simp [AV.f8])
   obtain ⟨e,b,off,h1,h2,h3,h4⟩:=h
   exact ⟨e,b,off,(hl i hi).trans h1,h2,(hs i hi).loc.trans h3,h4⟩
  ·rename_i i p
   have hi:=hm i (by simp [AV.f8])
   obtain ⟨e,u,y,cs,h1,h2,h3,h4,h5⟩:=h
   exact ⟨e,u,y,cs,(hl i hi).trans h1,h2,h3,(hs i hi).a4U.2 h4,h5⟩
  ·rename_i i p lo hi'
   have hi:=hm i (by simp [AV.f8])
   obtain ⟨e,v,h1,h2,h3,h4,h5,h6⟩:=h
   refine ⟨e,v,(hl i hi).trans h1,h2,h3,h4,h5,?_⟩
   rcases h6 with ⟨t,l,a,cap,k1,k2,k3,k4⟩|⟨n,t,l,b,off,k1,k2,k3,k4⟩
   ·exact .inl ⟨t,l,a,cap,k1,k2,(hs i hi).a4U.2 k3,k4⟩
   ·exact .inr ⟨n,t,l,b,off,k1,k2,(hs i hi).loc.trans k3,k4⟩

theorem a2m {H:Array Go.Obj} {o:Go.Obj} {b:Nat} (h:b<H.size):(H.push o)[b]?=H[b]?:=by
 rw [Array.getElem?_push,if_neg (by omega)]
theorem a2n {H:Array Go.Obj} {o:Go.Obj}:(H.push o)[H.size]?=some o:=by simp

def A3 (w:World) (o:Go.Obj):World:={ w with heap:=w.heap.push o }

theorem HS.b9u (h:HS B S ι hp w) {b:Nat} (hb:(∃ i e,look i hp=some e∧b∈j8 ι i e)∨S b):b<w.heap.size:=by
 rcases hb with ⟨i,e,h1,h2⟩|hb
 ·exact (h.bl i e h1 b h2).2.2
 ·exact h.slt b hb

def B4 (B:C4) (S:Nat→Prop) (ι:Ix) (hp:List (Nat×i6)) (w:World) (O:List Nat):Prop :=
 O.Nodup∧∀ b∈O,¬ S b∧(B.w0.heap.size≤b∨B.M b)∧b<w.heap.size∧∀ i e,look i hp=some e→b∉j8 ι i e

theorem B4.nil:B4 B S ι hp w []:=⟨List.nodup_nil,by simp⟩
theorem B4.sub {O O':List Nat} (h:B4 B S ι hp w O) (hn:O'.Nodup) (hs:∀ b∈O',b∈O):B4 B S ι hp w O':=⟨hn,fun b hb=>h.2 b (hs b hb)⟩
theorem B4.append {O O':List Nat} (h:B4 B S ι hp w O) (h':B4 B S ι hp w O') (hd:∀ b∈O,b∉O'):B4 B S ι hp w (O++O') :=
 ⟨List.nodup_append.2 ⟨h.1,h'.1,fun a ha _b hb e=>hd a ha (e▸hb)⟩,fun b hb=>(List.mem_append.1 hb).elim (h.2 b) (h'.2 b)⟩

theorem HS.N0 (h:HS B S ι hp w) {O:List Nat} (hF:B4 B S ι hp w O) {w':World} (k:A4 O w w'):HS B S ι hp w':=by
 have hlt:∀ {b},((∃ i e,look i hp=some e∧b∈j8 ι i e)∨S b)→w'.heap[b]?=w.heap[b]?:=by
  intro _ hb
  refine k.frame _ (h.b9u hb) (fun hO=>?_)
  rcases hb with ⟨i,e,h1,h2⟩|hb
  ·exact (hF.2 _ hO).2.2.2 i e h1 h2
  ·exact (hF.2 _ hO).1 hb
 refine ⟨k.os.trans h.os,k.tape.trans h.tape,k.out.trans h.out,Nat.le_trans h.size k.size,?_,fun b hb=>Nat.lt_of_lt_of_le (h.slt b hb) k.size,h.s0,h.s1,?_,?_,h.dj,h.pin⟩
 ·intro c hc hm
  rw [k.frame c (Nat.lt_of_lt_of_le hc h.size) (fun hO=>by rcases (hF.2 c hO).2.1 with h1|h1; omega; exact hm h1)]
  exact h.frame c hc hm
 ·intro i e hi
  exact (h.ob i e hi).q9 (fun b hb=>hlt (hb.imp (fun hb=>⟨i,e,hi,hb⟩) id)) (fun _ h=>h)
 ·intro i e hi b hb
  obtain ⟨h1,h2,h3⟩:=h.bl i e hi b hb
  exact ⟨h1,h2,Nat.lt_of_lt_of_le h3 k.size⟩

theorem VX.N0 (h:HS B S ι hp w) {O:List Nat} (hF:B4 B S ι hp w O) {w':World} (k:A4 O w w') {v:AV} {vs:List Value} (hv:VX w.heap S ι hp v vs):VX w'.heap S ι hp v vs:=by
 refine VX.grow (fun b hb=>k.frame b (h.b9u hb) (fun hO=>?_)) (fun _ h=>h) h.slt h.ob hv
 rcases hb with ⟨i,e,h1,h2⟩|hb
 ·exact (hF.2 b hO).2.2.2 i e h1 h2
 ·exact (hF.2 b hO).1 hb

theorem RS.N0 (h:RS B S ι s a w) {O:List Nat} (hF:B4 B S ι s.hp w O) {w':World} (k:A4 O w w'):RS B S ι s a w' :=
 ⟨h.hs.N0 hF k,h.Y2,h.sz,fun t v hv=>VX.N0 h.hs hF k (h.fr t v hv)⟩

theorem B4.N0 {O O':List Nat} (h:B4 B S ι hp w O') {w':World} (k:A4 O w w'):B4 B S ι hp w' O' :=
 ⟨h.1,fun b hb=>⟨(h.2 b hb).1,(h.2 b hb).2.1,Nat.lt_of_lt_of_le (h.2 b hb).2.2.1 k.size,(h.2 b hb).2.2.2⟩⟩

theorem A4.push (o:Go.Obj):A4 [] w (A3 w o):=⟨rfl,.refl w,rfl,by simp [A3],fun c hc _=>a2m hc⟩
theorem A4.drew:A4 [] w w.drew:=⟨rfl,⟨rfl,Nat.le_succ _⟩,rfl,Nat.le_refl _,fun _ _ _=>rfl⟩
theorem A4.mono {O O':List Nat} {w':World} (h:A4 O w w') (ho:∀ b∈O,b∈O'):A4 O' w w':=⟨h.os,h.tape,h.out,h.size,fun c hc hn=>h.frame c hc (fun hO=>hn (ho c hO))⟩
theorem A4.trans {O O':List Nat} {w' w'':World} (h:A4 O w w') (h':A4 O' w' w'') (ho:∀ b∈O',b∈O∨w.heap.size≤b):A4 O w w'' :=
 ⟨h'.os.trans h.os,h'.tape.trans h.tape,h'.out.trans h.out,Nat.le_trans h.size h'.size,fun c hc hn=>(h'.frame c (Nat.lt_of_lt_of_le hc h.size) (fun hO=>by rcases ho c hO with h1|h1; exact hn h1; omega)).trans (h.frame c hc hn)⟩

theorem HS.add (h:HS B S ι hp w) {d:Nat} {e:i6} {ι':Ix} {O:List Nat} (hd:look d hp=none) (hs:∀ i,i≠d→A7 ι ι' i) (hob:OB w.heap S ι' d e) (hb:∀ b∈j8 ι' d e,b∈O) (hF:B4 B S ι hp w O) :
  HS B S ι' (Ex.put d e hp) w:=by
 refine ⟨h.os,h.tape,h.out,h.size,h.frame,h.slt,h.s0,h.s1,?_,?_,?_,?_⟩
 ·intro i e' h1
  rw [n8] at h1
  by_cases e1:i=d
  ·subst e1; rw [if_pos rfl] at h1; cases h1; exact hob
  ·rw [if_neg e1] at h1; exact (hs i e1).ob.2 (h.ob i e' h1)
 ·intro i e' h1 b hb'
  rw [n8] at h1
  by_cases e1:i=d
  ·subst e1; rw [if_pos rfl] at h1; cases h1
   obtain ⟨k1,k2,k3,_⟩:=hF.2 b (hb b hb')
   exact ⟨k1,k2,k3⟩
  ·rw [if_neg e1] at h1
   rw [(hs i e1).j8] at hb'
   exact h.bl i e' h1 b hb'
 ·intro i j ei ej h1 h2 hij b hb'
  rw [n8] at h1 h2
  by_cases e1:i=d
  ·subst e1
   rw [if_neg (Ne.symm hij)] at h2
   rw [if_pos rfl] at h1; cases h1
   rw [(hs j (Ne.symm hij)).j8]
   exact (hF.2 b (hb b hb')).2.2.2 j ej h2
  ·rw [if_neg e1] at h1
   rw [(hs i e1).j8] at hb'
   by_cases e2:j=d
   ·subst e2
    rw [if_pos rfl] at h2; cases h2
    exact fun hbb=>(hF.2 b (hb b hbb)).2.2.2 i ei h1 hb'
   ·rw [if_neg e2] at h2
    rw [(hs j e2).j8]
    exact h.dj i j ei ej h1 h2 hij b hb'
 ·intro q hq
  obtain ⟨k0,⟨e',k1⟩,k2,k3⟩:=h.pin q hq
  have hne:q.1≠d:=by rintro e1; rw [e1,hd] at k1; cases k1
  exact ⟨k0,⟨e',by rw [n8,if_neg hne]; exact k1⟩,by rw [(hs _ hne).1]; exact k2,by rw [(hs _ hne).2.1]; exact k3⟩

theorem a2Q {d:Nat} (h:s.fresh d=true):look d s.hp=none∧∀ m v,look m s.fr=some v→v.f8 d=false:=by
 simp only [St.fresh,Bool.and_eq_true,Option.isNone_iff_eq_none] at h
 exact ⟨h.1,fun m v hv=>a0t h.2 hv⟩

theorem VX.add {d:Nat} {e:i6} {ι':Ix} {H:Array Go.Obj} (hs:∀ i,i≠d→A7 ι ι' i) {v:AV} (hm:v.f8 d=false) {vs:List Value} (h:VX H S ι hp v vs):VX H S ι' (Ex.put d e hp) v vs:=by
 have hne:∀ i,v.f8 i=true→i≠d:=by rintro i hi rfl; rw [hm] at hi; cases hi
 exact VX.other (fun i hi=>by rw [n8,if_neg (hne i hi)]) (fun i hi=>hs i (hne i hi)) h

theorem RS.add (h:RS B S ι s a w) {d:Nat} {e:i6} {ι':Ix} {O:List Nat} (hd:s.fresh d=true) (hs:∀ i,i≠d→A7 ι ι' i) (hob:OB w.heap S ι' d e) (hb:∀ b∈j8 ι' d e,b∈O) (hF:B4 B S ι s.hp w O) :
  RS B S ι' (s.r9 d e) a w:=by
 obtain ⟨k1,k2⟩:=a2Q hd
 exact ⟨h.hs.add k1 hs hob hb hF,h.Y2,h.sz,fun t v hv=>VX.add hs (k2 t v hv) (h.fr t v hv)⟩

/-! ### objects that go -/
theorem VX.dropped {i:Nat} {H:Array Go.Obj} {v:AV} {vs:List Value} (h:VX H S ι hp v vs):VX H S ι (del i hp) (v.drop i) vs:=by
 refine VX.map (fun _ _=>rfl) (fun _ h=>h) (fun u vs hu _ hv=>?_) h
 cases hm:u.f8 i with
 | true=>obtain ⟨x,rfl⟩:=VX.one hu hv; exact ⟨x,rfl⟩
 | false =>
  have hne:∀ j,u.f8 j=true→j≠i:=by rintro j hj rfl; rw [hm] at hj; cases hj
  exact VX.other (fun j hj=>by rw [G4,if_neg (hne j hj)]) (fun j _=>A7.refl ι j) hv

theorem HS.drop (h:HS B S ι hp w) {i:Nat} (hi:pinned i=false):HS B S ι (del i hp) w:=by
 have hl:∀ {j:Nat} {e:i6},look j (del i hp)=some e→look j hp=some e:=by
  intro j e hj
  rw [G4] at hj
  split at hj
  ·cases hj
  ·exact hj
 refine ⟨h.os,h.tape,h.out,h.size,h.frame,h.slt,h.s0,h.s1,fun j e hj=>h.ob j e (hl hj),fun j e hj=>h.bl j e (hl hj),fun j k ej ek hj hk=>h.dj j k ej ek (hl hj) (hl hk),fun q hq=>?_⟩
 obtain ⟨k0,⟨e',k1⟩,k2⟩:=h.pin q hq
 exact ⟨k0,⟨e',by rw [G4,if_neg (by rintro e1; rw [e1,hi] at k0; cases k0)]; exact k1⟩,k2⟩

theorem RS.drop (h:RS B S ι s a w) {i:Nat} (hi:pinned i=false):RS B S ι (s.drop i) a w:=by
 refine ⟨h.hs.drop hi,h.Y2,h.sz,?_⟩
 intro t v hv
 simp only [St.drop,F1,Option.map_eq_some_iff] at hv
 obtain ⟨v0,hv0,rfl⟩:=hv
 exact VX.dropped (h.fr t v0 hv0)

theorem RS.s5 {B:C4} {S:Nat→Prop} {ι:Ix} {a:Act} {w:World}:∀ {g:List Nat} {s:St},RS B S ι s a w→(g.all fun i=>!pinned i)=true→RS B S ι (St.s5 g s) a w
 | [],_,h,_=>h
 | i::g,s,h,hg=>by
  simp only [List.all_cons,Bool.and_eq_true,Bool.not_eq_true'] at hg
  exact RS.s5 (g:=g) (s:=s.drop i) (h.drop hg.1) hg.2

theorem H6:∀ {g:List Nat} {s:St} {j:Nat},look j (St.s5 g s).hp=if j∈g then none else look j s.hp
 | [],s,j=>by simp [St.s5]
 | i::g,s,j=>by
  simp only [St.s5,H6 (g:=g),St.drop,G4]
  by_cases e:j=i
  ·subst e; simp
  ·by_cases e2:j∈g<;>simp [e,e2]

theorem B4.s5 (h:HS B S ι s.hp w) {g:List Nat} {O:List Nat} (hn:O.Nodup) (hO:∀ b∈O,∃ i e,i∈g∧look i s.hp=some e∧b∈j8 ι i e):B4 B S ι (St.s5 g s).hp w O:=by
 refine ⟨hn,fun b hb=>?_⟩
 obtain ⟨i,e,hi,h1,h2⟩:=hO b hb
 obtain ⟨k1,k2,k3⟩:=h.bl i e h1 b h2
 refine ⟨k1,k2,k3,fun j ej hj hbj=>?_⟩
 rw [H6] at hj
 split at hj
 ·cases hj
 ·rename_i hjg
  exact h.dj i j e ej h1 hj (by rintro rfl; exact hjg hi) b h2 hbj

theorem B4.a21 {O:List Nat} (h:B4 B S ι s.hp w O) (g:List Nat):B4 B S ι (St.s5 g s).hp w O :=
 ⟨h.1,fun b hb=>⟨(h.2 b hb).1,(h.2 b hb).2.1,(h.2 b hb).2.2.1,fun i e hi=>by rw [H6] at hi; split at hi; cases hi; exact (h.2 b hb).2.2.2 i e hi⟩⟩

/-! ### new objects -/
theorem RS.alloc (h:RS B S ι s a w) {d:Nat} (hd:s.fresh d=true) {t:Ty} {x:t.den} {cs:List Value} {O:List Nat} (hR:f7 w.heap S t O cs x) (hF:B4 B S ι s.hp w O) (T:TypeId) :
  RS B S (ι.N5 d (w.heap.size,0) O) (s.r9 d (.var t x)) a (A3 w (.cells cs.toArray T)):=by
 have h1:=h.N0 B4.nil (A4.push (.cells cs.toArray T))
 have hF1:=hF.N0 (A4.push (w:=w) (.cells cs.toArray T))
 have hnew:(A3 w (.cells cs.toArray T)).heap[w.heap.size]?=some (.cells cs.toArray T):=a2n
 have hold:∀ {b},b<w.heap.size→(A3 w (.cells cs.toArray T)).heap[b]?=w.heap[b]?:=fun hb=>a2m hb
 refine h1.add hd (fun i hi=>a2Y hi _ _) ?_ (O:=w.heap.size::O) ?_ ⟨List.nodup_cons.2 ⟨fun hm=>Nat.lt_irrefl _ (hF.2 _ hm).2.2.1,hF.1⟩,?_⟩
 ·refine ⟨⟨O,by simp [Ix.N5],?_⟩,⟨cs.toArray,T,⟨_,by simpa [Ix.N5] using hnew,.inl rfl⟩,by simp [Ix.N5,hR.length]⟩,?_⟩
  ·have e:d8 (A3 w (.cells cs.toArray T)).heap w.heap.size 0 t.size=cs:=by
    have hb:r8 (A3 w (.cells cs.toArray T)).heap w.heap.size=cs:=by simp only [r8,hnew]
    simp only [d8,hb,List.drop_zero]
    exact List.take_of_length_le (by rw [hR.length]; exact Nat.le_refl _)
   simp only [Ix.N5,if_pos]
   rw [e]
   exact hR.q9 (fun b hb=>hold (hb.elim (fun hb=>(hF.2 b hb).2.2.1) (h.hs.slt b))) (fun _ h=>h)
  ·simp only [Ix.N5,if_pos]
   exact List.nodup_cons.2 ⟨fun hm=>Nat.lt_irrefl _ (hF.2 _ hm).2.2.1,hF.1⟩
 ·intro b hb
  simpa [j8,Ix.N5] using hb
 ·intro b hb
  rcases List.mem_cons.1 hb with rfl|hb
  ·refine ⟨fun hS=>Nat.lt_irrefl _ (h.hs.slt _ hS),.inl h.hs.size,by simp [A3],fun i e hi hbi=>?_⟩
   exact Nat.lt_irrefl _ (h.hs.bl i e hi _ hbi).2.2
  ·exact hF1.2 b hb

theorem a7X {d:Nat} {t:Ty} {x:t.den} {w':World} {r:Nat×Nat} {o:List Nat} (hr:r.1<w'.heap.size):VX w'.heap S (ι.N5 d r o) (s.r9 d (.var t x)).hp (.ptr d []) [.pointer (some ⟨r.1,r.2,none⟩)]:=by
 refine ⟨.var t x,r.1,r.2,by simp [St.r9,n8],by cases t<;>trivial,P4 ?_ hr,rfl⟩
 simp only [Place,VR,VH,Ix.N5,if_pos,i6.ty]
 cases t<;>first|rfl|(rename_i o _; cases o<;>rfl)

theorem RS.hold (h:RS B S ι s a w) {d:Nat} (hd:s.fresh d=true) {t:Ty} {x:t.den} {O:List Nat} {cs:List Value} (hR:f7 w.heap S t O cs x) (hF:B4 B S ι s.hp w O):RS B S (ι.O7 d cs O) (s.r9 d (.own t x)) a w:=by
 refine h.add hd (fun i hi=>a1y hi _ _) ⟨⟨O,by simp [Ix.O7],by simpa [Ix.O7] using hR⟩,by simpa [Ix.O7] using hF.1⟩ (O:=O) ?_ hF
 intro b hb
 simpa [j8,Ix.O7] using hb

theorem y7 {t:Ty} {x:t.den}:i8 t x []=some ⟨t,x⟩:=by
 cases t<;>first|rfl|(rename_i o _; cases o<;>rfl)
theorem J1 {t:Ty} {x:t.den}:u6 t x []:=by
 cases t<;>first|trivial|(rename_i o _; cases o<;>trivial)
theorem w4 {H:Array Go.Obj} {t:Ty} {b off:Nat}:w9 H t [] b off=some (b,off):=by
 cases t<;>first|rfl|(rename_i o _; cases o<;>rfl)

theorem a0K {H:Array Go.Obj} {d:Nat} {t:Ty} {x:t.den} {cs:List Value} (h:ι.cells d=cs) (hl:cs.length=t.size):Cells H ι d (.own t x) [] t cs:=by
 refine ⟨H.size,0,by simp only [Place,w4]; rfl,?_⟩
 simp only [VH,h,d8,X3,List.drop_zero]
 exact (List.take_of_length_le (by omega)).symm

theorem M8 {H:Array Go.Obj} {d:Nat} {t:Ty} {x:t.den} {u:Ty} {cs:List Value} (h:Cells H ι d (.own t x) [] u cs) (hl:(ι.cells d).length=u.size):cs=ι.cells d:=by
 obtain ⟨b,off,h1,h2⟩:=h
 simp only [Place,w4,VR,Option.some.injEq,Prod.mk.injEq] at h1
 obtain ⟨rfl,rfl⟩:=h1
 rw [h2]
 simp only [VH,d8,X3,List.drop_zero]
 exact List.take_of_length_le (by omega)

theorem a3x {H:Array Go.Obj} {d:Nat} {t:Ty} {x:t.den} {cs:List Value} {O:List Nat} (hl:cs.length=t.size):VX H S (ι.O7 d cs O) (Ex.put d (.own t x) hp) (.at_ d []) [j7 t cs] :=
 ⟨.own t x,t,x,cs,by simp [n8],J1,y7,a0K (by simp [Ix.O7]) hl,rfl⟩

theorem b3r (hE:y9 E B) (h:RS B S ι s a w) {o:Oper} {T:TypeId} (ho:o.op=.alloc T):C6 E.P B o a w (l7 E o s):=by
 unfold l7
 rw [ho]
 simp only
 split
 ·rename_i t d ht hd
  split
  ·rename_i hf
   have hz:=t8 hE ht
   have hR:f7 w.heap S t.ty [] (zc t.ty) t.ty.p9:=f7.p9 _
   intro next Q hn
   unfold Oper.wp
   have:(execOp a.eval o).run E.P w=.ok (.value (.pointer (some ⟨w.heap.size,0,none⟩))) (A3 w (.cells (zc t.ty).toArray T)):=by
    simp [execOp,ho,Instr.alloc,Y7 hz,newVar,newRow,newObj,Sem.run,A3,hR.cells]
   rw [this]
   exact hn S _ _ _ (h.alloc hf hR B4.nil T) (a7X (by simp [A3]))
  ·trivial
 ·trivial

end
end Go.Ex

namespace Go.Ex

section
variable {E:Env} {B:C4} {S:Nat→Prop} {ι:Ix} {s:St} {a:Act} {w:World} {hp:List (Nat×i6)} {H H':Array Go.Obj}

def B5 (cur:List Value) (off:Nat) (cs:List Value):List Value:=cur.take off++cs++cur.drop (off+cs.length)

theorem a5M {cur cs:List Value} {off:Nat} (h:off+cs.length≤cur.length):(B5 cur off cs).length=cur.length:=by
 simp only [B5,List.length_append,List.length_take,List.length_drop]; omega

theorem b3K {cur cs:List Value} {off:Nat} (h:off+cs.length≤cur.length):((B5 cur off cs).drop off).take cs.length=cs:=by
 have e:(cur.take off).length=off:=by rw [List.length_take]; omega
 rw [B5,List.append_assoc,List.drop_left' e,List.take_left]

theorem b0B {cur cs:List Value} {off:Nat} (h:off+cs.length≤cur.length) {j:Nat} (hj:j<off∨off+cs.length≤j):(B5 cur off cs)[j]?=cur[j]?:=by
 have e:(cur.take off).length=off:=by rw [List.length_take]; omega
 rw [B5]
 rcases hj with hj|hj
 ·rw [List.append_assoc,List.getElem?_append_left (by omega),List.getElem?_take,if_pos hj]
 ·rw [List.getElem?_append_right (by simp only [List.length_append,e]; omega)]
  simp only [List.length_append,e,List.getElem?_drop]
  congr 1; omega

theorem setRow_other {g c:Nat} {cs:Array Value} (h:c≠g):(w.setRow g cs).heap[c]?=w.heap[c]?:=by
 simp only [World.setRow,Array.getElem?_modify,if_neg (Ne.symm h)]

theorem setRow_size {g:Nat} {cs:Array Value}:(w.setRow g cs).heap.size=w.heap.size:=by simp [World.setRow]

theorem a0H {b off:Nat} {cs:List Value} (hf:J5 w.heap b (off+cs.length)) :
  R2 w.heap (w.setRow b (B5 (r8 w.heap b) off cs).toArray).heap b off cs.length∧d8 (w.setRow b (B5 (r8 w.heap b) off cs).toArray).heap b off cs.length=cs:=by
 obtain ⟨arr,T,⟨fz,e,ef⟩,hn⟩:=hf
 have hb:r8 w.heap b=arr.toList:=by simp only [r8,e]
 have hl:off+cs.length≤arr.toList.length:=by simpa using hn
 have hnew:=setRow_heap w b arr (B5 (r8 w.heap b) off cs).toArray T fz e
 rw [hb] at hnew ⊢
 refine ⟨⟨⟨arr,_,T,⟨fz,⟨e,ef⟩,hnew⟩,?_,?_⟩,fun c hc _=>setRow_other hc⟩,?_⟩
 ·simp [a5M hl]
 ·intro j hj; exact b0B hl hj
 ·simp only [d8,r8,hnew]; exact b3K hl

theorem Q7 {P:Program} (g o:Nat) (t:TypeId) (fz:Nat×Nat):∀ (vs:List Value) (i:Nat) (cur:Array Value) (w:World),Lie w.heap g cur t fz→o+i+vs.length≤cur.size→(∀ v∈vs,v.oneCell'=true) →
  (storeCells ⟨g,o,none⟩ vs i).run P w=.ok () (w.setRow g (cur.toList.take (o+i)++vs++cur.toList.drop (o+i+vs.length)).toArray)
 | [],i,cur,w,hg,_,_=>by
  simp only [storeCells,List.append_nil,List.length_nil,Nat.add_zero,List.take_append_drop,Array.toArray_toList]
  rw [setRow_self w g cur t fz hg.1]
  rfl
 | v::rest,i,cur,w,⟨hg,hz⟩,hl,h1=>by
  have hi:o+i<cur.size:=by simp at hl; omega
  have hadd:(⟨g,o,none⟩:Addr).add i=⟨g,o+i,none⟩:=by unfold Addr.add; split<;>simp_all
  have hcell:w.cell? ⟨g,o+i,none⟩=some cur[o+i]:=by simp [World.cell?,hg,hi]
  have hfro:w.frozen? ⟨g,o+i,none⟩=false:=by
   rcases hz with rfl|hz
   ·simp [World.frozen?,hg]
   ·obtain ⟨lo,hi'⟩:=fz
    have:¬ lo≤o+i:=by simp only at hz; omega
    simp [World.frozen?,hg,this]
  have hst:(store ((⟨g,o,none⟩:Addr).add i) v).run P w=.ok () (w.setRow g (cur.setIfInBounds (o+i) v)):=by
   rw [hadd,run_store P w _ v _ (h1 v (by simp)),hcell]
   simp [hfro,setCell_eq_setRow w g (o+i) cur t fz v hg]
  have ih:=Q7 (P:=P) g o t fz rest (i+1) (cur.setIfInBounds (o+i) v) (w.setRow g (cur.setIfInBounds (o+i) v)) ⟨setRow_heap w g cur _ t _ hg,by simpa using hz⟩ (by simp at hl ⊢; omega) (fun x hx=>h1 x (by simp [hx]))
  simp only [storeCells,Sem.run_bind,hst,Result.andThen_ok,ih,setRow_setRow]
  congr 3
  have e:=list_seg_step cur.toList (o+i) v rest (by simp at hl ⊢; omega)
  simpa [Array.toList_setIfInBounds,Nat.add_assoc] using e

theorem a0X {P:Program} {n:Nat} {T:TypeId} {t u:Ty} (ht:p8 P n T t=true) (hu:u.sh=t.sh) {b off:Nat} (hf:J5 w.heap b (off+t.size)) {O:List Nat} {cs:List Value} {x:u.den} (hR:f7 H S u O cs x) :
  (storeVar T ⟨b,off,none⟩ (j7 u cs)).run P w=.ok () (w.setRow b (B5 (r8 w.heap b) off cs).toArray):=by
 obtain ⟨arr,T',⟨fz,e,ef⟩,hn⟩:=hf
 have hl:=hR.length
 have hs:=E5 hu
 have h1:(j7 u cs).cells=cs.toArray:=hR.cells
 have:=Q7 (P:=P) b off T' fz cs 0 arr w ⟨e,ef⟩ (by omega) (fun v hv=>(hR.plain v hv).1)
 simp only [storeVar,Sem.run_bind,run_sizeOf ht,Result.andThen,h1]
 have hsz:cs.toArray.size=t.size:=by simp [hl,hs]
 simp only [hsz,ne_eq,not_true_eq_false,if_false]
 simp only [Nat.add_zero] at this
 have hb:r8 w.heap b=arr.toList:=by simp only [r8,e]
 rw [hb,B5]
 simpa [Sem.run] using this

theorem c07 {cs:List Value} {b off n:Nat} (hc:R2 H H' b off n) (hsz:H'.size=H.size):R2 (gh H cs) (gh H' cs) b off n:=by
 obtain ⟨a1,a2,T,⟨fz,⟨k1,kf⟩,k2⟩,k3,k4⟩:=hc.at_
 have hlt:b<H.size:=(Array.getElem?_eq_some_iff.1 k1).1
 refine ⟨⟨a1,a2,T,⟨fz,⟨(a3q hlt).trans k1,kf⟩,(a3q (by omega)).trans k2⟩,k3,k4⟩,fun c hcb hcl=>?_⟩
 rw [a3p] at hcl
 by_cases h:c<H.size
 ·rw [a3q h,a3q (by omega)]; exact hc.rest c hcb h
 ·have:c=H.size:=by omega
  subst this
  rw [a7l,← hsz,a7l]

theorem a44 {i:Nat} {e:i6} {b off n:Nat} (hc:R2 H H' b off n) (hsz:H'.size=H.size):R2 (VH H ι i e) (VH H' ι i e) b off n:=by
 cases e<;>first|exact hc|exact c07 hc hsz

theorem b39 {i:Nat} {e:i6} (hsz:H'.size=H.size):VR H' ι i e=VR H ι i e:=by cases e<;>simp [VR,hsz]
theorem a1F {i:Nat} {e:i6}:H.size≤(VH H ι i e).size:=by cases e<;>simp [VH,a3p]

theorem b6g {e:i6} {r:Sigma Ty.den} (he:e≠.H2):(e.A5 r).ty=r.1:=by cases e<;>first|rfl|exact absurd rfl he
theorem b3u {e:i6} {r:Sigma Ty.den} (he:e≠.H2):e.A5 r≠.H2:=by cases e<;>first|exact absurd rfl he|(intro h; cases h)
theorem b1D {i:Nat} {e:i6} {r:Sigma Ty.den} {ι':Ix} (h:ι'.cells i=ι.cells i):VH H ι' i (e.A5 r)=VH H ι i e:=by cases e<;>simp [VH,i6.A5,h]
theorem b7u {i:Nat} {e:i6} {r:Sigma Ty.den} {ι':Ix} (h:ι'.root i=ι.root i):VR H ι' i (e.A5 r)=VR H ι i e:=by cases e<;>simp [VR,i6.A5,h]

theorem OB.A5 {i:Nat} {e:i6} (he:e≠.H2) (ho:OB H S ι i e) (hbl:∀ c∈j8 ι i e,¬ S c∧c<H.size) (hS:∀ c,S c→c<H.size) {p:List Step} (hok:u6 e.ty e.x p) {u:Ty} {y:u.den} (hg:i8 e.ty e.x p=some ⟨u,y⟩)
  {b off:Nat} (hl:Loc H ι i e p=some (b,off)) {u':Ty} {z:u'.den} {O2:List Nat} (hc:R2 H H' b off u.size) (hsz:H'.size=H.size) (hz:f7 H' S u' O2 (d8 H' b off u'.size) z)
  (hO2:∀ c∈O2,c<H.size∧(c∈j8 ι i e→∃ Op,f7 H S u Op (d8 H b off u.size) y∧c∈Op)) (hnd2:O2.Nodup) {r:Sigma Ty.den} (hset:p7 e.ty e.x p u' z=some r) :
  ∃ O,(∀ c∈O,c∈ι.own i∨c∈O2)∧OB H' S (ι.x7 i O) i (e.A5 r)∧r.1.sh=e.ty.sh∧∀ c∈O,c∈O2∨∀ Op,f7 H S u Op (d8 H b off u.size) y→c∉Op:=by
 obtain ⟨O,hO,hR,hb,hnd,hlt,hns,hfr⟩:=ho.see he hS
 obtain ⟨O1,O3,b',off',e1,e2,e3,e4,e5,e6⟩:=focus hR hb hok hg
 obtain ⟨hpl,hbl2⟩:=w5 hl
 rw [E9 he] at hpl
 rw [e3] at hpl; cases hpl
 have hndO:(O1++O3).Nodup:=(e1.nodup_iff).1 ((hO.nodup_iff).2 (List.nodup_cons.1 hnd).2)
 have hmem:∀ c∈O1,c∈ι.own i:=fun c hc=>hO.mem_iff.1 (e1.mem_iff.2 (by simp [hc]))
 have hmem3:∀ c∈O3,c∈ι.own i:=fun c hc=>hO.mem_iff.1 (e1.mem_iff.2 (by simp [hc]))
 have hroot:=(List.nodup_cons.1 hnd).1
 have hown:∀ c∈ι.own i,c∈j8 ι i e:=by intro c hc; cases e<;>simp [j8,hc]
 have hrootS:¬ S (VR H ι i e).1:=by
  rcases hns with h|⟨t,x,rfl⟩
  ·exact h
  ·exact (hbl _ (by simp [j8,VR])).1
 have hz':f7 (VH H' ι i e) S u' O2 (d8 (VH H' ι i e) b off u'.size) z:=by
  rw [l6 (E0 (by omega))]
  exact (W0 (fun c hc=>by have:=(hO2 c hc).1; omega) (fun c hc=>by have:=hS c hc; omega)).2 hz
 -- what is new is not in what stays
 have hO3:∀ c∈O2,c∈j8 ι i e→c∈O3:=by
  intro c hc hcb
  obtain ⟨Op,h1,h2⟩:=(hO2 c hc).2 hcb
  have e4':f7 H S u O3 (d8 H b off u.size) y:=by
   rw [l6 (E0 hbl2)] at e4
   exact (W0 (fun c hc=>ho.L9 he (hmem3 c hc)) hS).1 e4
  rwa [h1.det e4'] at h2
 obtain ⟨O4,f1,f2,f3⟩:=a5o e2 hg e3 hb hlt (List.nodup_append.1 hndO).1 (fun h=>hroot (hmem _ h)) (fun c hc=>⟨(hbl c (hown c (hmem c hc))).1,Nat.lt_of_lt_of_le (hbl c (hown c (hmem c hc))).2 a1F⟩) hrootS
  (fun c hc=>Nat.lt_of_lt_of_le (hS c hc) a1F) (fun _ h=>h) (a44 hc hsz) hz' hset
 have hnd4:O4.Nodup:=(f1.nodup_iff).2 (List.nodup_append.2 ⟨(List.nodup_append.1 hndO).1,hnd2,by
  rintro c h1 d h2 rfl
  exact (List.nodup_append.1 hndO).2.2 c h1 c (hO3 c h2 (hown c (hmem c h1))) rfl⟩)
 have hsub:∀ c∈O4,c∈ι.own i∨c∈O2:=by
  intro c hc
  rcases List.mem_append.1 (f1.mem_iff.1 hc) with h|h
  ·exact .inl (hmem c h)
  ·exact .inr h
 have hlt4:∀ c∈O4,c<H'.size:=by
  intro c hc
  rw [hsz]
  rcases hsub c hc with h|h
  ·exact ho.L9 he h
  ·exact (hO2 c h).1
 have f2':=(W0 hlt4 (fun c hc=>by have:=hS c hc; omega)).1 f2
 have hnot:∀ c∈O4,c∈O2∨∀ Op,f7 H S u Op (d8 H b off u.size) y→c∉Op:=by
  intro c hc
  rcases List.mem_append.1 (f1.mem_iff.1 hc) with h|h
  ·refine .inr (fun Op hOp hcO=>?_)
   have e4':f7 H S u O3 (d8 H b off u.size) y:=by
    rw [l6 (E0 hbl2)] at e4
    exact (W0 (fun c hc=>ho.L9 he (hmem3 c hc)) hS).1 e4
   obtain rfl:Op=O3:=hOp.det e4'
   exact (List.nodup_append.1 hndO).2.2 c h c hcO rfl
  ·exact .inl h
 refine ⟨O4,hsub,?_,f3,hnot⟩
 cases e with
 | var t x =>
  simp only [i6.A5,OB,Ix.x7,if_true]
  obtain ⟨_,hf,_⟩:=ho
  refine ⟨⟨O4,List.Perm.refl _,f2'⟩,?_,?_⟩
  ·rw [E5 f3]; exact hc.free hf
  ·refine List.nodup_cons.2 ⟨fun h=>?_,hnd4⟩
   rcases hsub _ h with h1|h1
   ·exact hroot h1
   ·exact hroot (hmem3 _ (hO3 _ h1 (List.mem_cons_self ..)))
 | own t x =>
  simp only [i6.A5,OB,Ix.x7,if_true]
  refine ⟨⟨O4,List.Perm.refl _,?_⟩,hnd4⟩
  obtain ⟨⟨O',_,hR'⟩,_⟩:=ho
  have hsz1:r.1.size=t.size:=E5 f3
  have:d8 (VH H' ι i (.own t x)) (VR H ι i (.own t x)).1 (VR H ι i (.own t x)).2 r.1.size=ι.cells i:=by
   simp only [VH,VR]
   rw [← hsz]
   simp only [d8,X3,List.drop_zero]
   exact List.take_of_length_le (by rw [hR'.length,hsz1]; exact Nat.le_refl _)
  rw [this] at f2'
  exact f2'
 | H2=>exact absurd rfl he

theorem b8B {i:Nat} {e:i6} (he:e≠.H2) (ho:OB H S ι i e) (hbl:∀ c∈j8 ι i e,¬ S c∧c<H.size) (hS:∀ c,S c→c<H.size) {p:List Step} (hok:u6 e.ty e.x p) {u:Ty} {y:u.den} (hg:i8 e.ty e.x p=some ⟨u,y⟩)
  {b off:Nat} (hl:Loc H ι i e p=some (b,off)) {u':Ty} {z:u'.den} (hc:R2 H H' b off u.size) (hsz:H'.size=H.size) {r:Sigma Ty.den} (hset:p7 e.ty e.x p u' z=some r)
  {q:List Step} (hk:kp p q=true) (hq:u6 e.ty e.x q) (O:List Nat) {rr:Nat×Nat} (hr:Loc H ι i e q=some rr):Loc H' (ι.x7 i O) i (e.A5 r) q=some rr∧u6 (e.A5 r).ty (e.A5 r).x q:=by
 obtain ⟨O',hO,hR,hb,hnd,hlt,hns,hfr⟩:=ho.see he hS
 obtain ⟨O1,O3,b',off',e1,e2,e3,e4,e5,e6⟩:=focus hR hb hok hg
 obtain ⟨hpl,hbl2⟩:=w5 hl
 rw [E9 he] at hpl
 rw [e3] at hpl; cases hpl
 have hndO:(O1++O3).Nodup:=(e1.nodup_iff).1 ((hO.nodup_iff).2 (List.nodup_cons.1 hnd).2)
 have hmem:∀ c∈O1,c∈ι.own i:=fun c hc=>hO.mem_iff.1 (e1.mem_iff.2 (by simp [hc]))
 have key:=b0E e2 hg e3 hb hlt (List.nodup_append.1 hndO).1 (fun h=>(List.nodup_cons.1 hnd).1 (hmem _ h)) (fun c hc=>Nat.lt_of_lt_of_le (ho.L9 he (hmem c hc)) a1F) (a44 hc hsz) hset hk hq
 obtain ⟨hr1,hr2⟩:=w5 (b:=rr.1) (off:=rr.2) hr
 rw [E9 he] at hr1
 have hu:u6 (e.A5 r).ty (e.A5 r).x q:=by
  cases e<;>first|exact key.2|exact absurd rfl he
 refine ⟨P4 (b:=rr.1) (off:=rr.2) ?_ (by omega),hu⟩
 rw [E9 (b3u he),b1D (ι:=ι) (ι':=ι.x7 i O) rfl,b7u (ι:=ι) (ι':=ι.x7 i O) rfl,b39 hsz,b6g he,key.1]
 exact hr1

theorem b6b {i:Nat} {e:i6} (he:e≠.H2) (ho:OB H S ι i e) (hbl:∀ c∈j8 ι i e,¬ S c∧c<H.size) (hS:∀ c,S c→c<H.size) {p:List Step} (hok:u6 e.ty e.x p) {u:Ty} {y:u.den} (hg:i8 e.ty e.x p=some ⟨u,y⟩)
  {b off:Nat} (hl:Loc H ι i e p=some (b,off)) {u':Ty} {z:u'.den} (hc:R2 H H' b off u.size) (hsz:H'.size=H.size) {r:Sigma Ty.den} (hset:p7 e.ty e.x p u' z=some r)
  {q:List Step} (hk:kc e.ty p q=true) (hk2:kp p q=true) (hq:u6 e.ty e.x q) (O:List Nat) {u1:Ty} {y1:u1.den} (hg1:i8 e.ty e.x q=some ⟨u1,y1⟩) {cs:List Value} (hcs:Cells H ι i e q u1 cs) :
  u6 (e.A5 r).ty (e.A5 r).x q∧(∃ y2:u1.den,i8 (e.A5 r).ty (e.A5 r).x q=some ⟨u1,y2⟩)∧Cells H' (ι.x7 i O) i (e.A5 r) q u1 cs:=by
 obtain ⟨O',hO,hR,hb,hnd,hlt,hns,hfr⟩:=ho.see he hS
 obtain ⟨O1,O3,b',off',e1,e2,e3,e4,e5,e6⟩:=focus hR hb hok hg
 obtain ⟨hpl,hbl2⟩:=w5 hl
 rw [E9 he] at hpl
 rw [e3] at hpl; cases hpl
 have hndO:(O1++O3).Nodup:=(e1.nodup_iff).1 ((hO.nodup_iff).2 (List.nodup_cons.1 hnd).2)
 have hmem:∀ c∈O1,c∈ι.own i:=fun c hc=>hO.mem_iff.1 (e1.mem_iff.2 (by simp [hc]))
 have hnb:=fun h=>(List.nodup_cons.1 hnd).1 (hmem _ h)
 have hlo:∀ c∈O1,c<(VH H ι i e).size:=fun c hc=>Nat.lt_of_lt_of_le (ho.L9 he (hmem c hc)) a1F
 have key:=b0E e2 hg e3 hb hlt (List.nodup_append.1 hndO).1 hnb hlo (a44 hc hsz) hset hk2 hq
 obtain ⟨⟨y2,hy2⟩,key2⟩:=b5m e2 hg e3 hb hlt (List.nodup_append.1 hndO).1 hnb hlo (a44 hc hsz) hset hk hq hg1
 obtain ⟨b1,o1,hp1,hc1⟩:=hcs
 rw [E9 he] at hp1
 have hc2:=key2 b1 o1 hp1
 refine ⟨?_,⟨y2,?_⟩,b1,o1,?_,?_⟩
 ·cases e<;>first|exact key.2|exact absurd rfl he
 ·cases e<;>first|exact hy2|exact absurd rfl he
 ·rw [E9 (b3u he),b1D (ι:=ι) (ι':=ι.x7 i O) rfl,b7u (ι:=ι) (ι':=ι.x7 i O) rfl,b39 hsz,b6g he,key.1]
  exact hp1
 ·rw [b1D (ι:=ι) (ι':=ι.x7 i O) rfl,hc2]
  exact hc1

end
end Go.Ex

namespace Go.Ex

section
variable {E:Env} {B:C4} {S:Nat→Prop} {ι:Ix} {s:St} {a:Act} {w:World} {hp:List (Nat×i6)} {H H':Array Go.Obj}

theorem a1O:∀ {t:Ty} {x:t.den} {p:List Step} {u:Ty} {y:u.den} {u':Ty} {z:u'.den} {r:Sigma Ty.den},i8 t x p=some ⟨u,y⟩→p7 t x p u' z=some r→u'.sh=u.sh:=by
 intro t
 induction t with
 | pair a c iha ihc =>
  intro x p u y u' z r hg hs
  match p,hg,hs with
  | [],hg,hs =>
   simp only [i8,Option.some.injEq] at hg; cases hg
   simp only [p7] at hs
   split at hs
   ·rename_i e; exact e
   ·cases hs
  | .j6 0::p,hg,hs =>
   simp only [p7] at hs
   split at hs
   ·rename_i t' w hw; exact iha hg hw
   ·cases hs
  | .j6 (n+1)::p,hg,hs =>
   simp only [p7] at hs
   split at hs
   ·rename_i t' w hw; exact ihc hg hw
   ·cases hs
  | .idx i::p,_,hs=>simp [p7] at hs
 | arr n t ih =>
  intro x p u y u' z r hg hs
  match p,hg,hs with
  | [],hg,hs =>
   simp only [i8,Option.some.injEq] at hg; cases hg
   simp only [p7] at hs
   split at hs
   ·rename_i e; exact e
   ·cases hs
  | .idx i::p,hg,hs =>
   simp only [p7] at hs
   split at hs
   ·rename_i t' w hw; exact ih hg hw
   ·cases hs
  | .j6 i::p,_,hs=>simp [p7] at hs
 | d0 o t ih =>
  intro x p u y u' z r hg hs
  match p,hg,hs with
  | [],hg,hs =>
   have hg:some (⟨.d0 o t,x⟩:Sigma Ty.den)=some ⟨u,y⟩:=by cases o<;>exact hg
   cases hg
   have hs:(if u'.sh=(Ty.d0 o t).sh then some (⟨u',z⟩:Sigma Ty.den) else none)=some r:=by cases o<;>exact hs
   split at hs
   ·rename_i e; exact e
   ·cases hs
  | .idx i::p,hg,hs =>
   cases o with
   | false=>simp [p7] at hs
   | true =>
    simp only [p7] at hs
    split at hs
    ·rename_i t' w hw; exact ih hg hw
    ·cases hs
  | .j6 i::p,_,hs=>cases o<;>simp [p7] at hs
 | _ =>
  intro x p u y u' z r hg hs
  match p,hg,hs with
  | [],hg,hs =>
   simp only [i8,Option.some.injEq] at hg; cases hg
   simp only [p7] at hs
   split at hs
   ·rename_i e; exact e
   ·cases hs
  | .idx i::p,_,hs=>simp [p7] at hs
  | .j6 i::p,_,hs=>simp [p7] at hs


theorem RS.a6W (h:RS B S ι s a w) {i:Nat} {e:i6} (he:look i s.hp=some e) {p:List Step} (hok:u6 e.ty e.x p) {u:Ty} {y:u.den} (hg:i8 e.ty e.x p=some ⟨u,y⟩) {b off:Nat} (hl:Loc w.heap ι i e p=some (b,off))
  {u':Ty} {z:u'.den} {cs:List Value} {O2:List Nat} (hz:∀ H',H'.size=w.heap.size→R2 w.heap H' b off u.size→f7 H' S u' O2 cs z) (hcs:cs.length=u.size) (hnd2:O2.Nodup)
  (hO2:∀ c∈O2,(¬ S c∧(B.w0.heap.size≤c∨B.M c)∧c<w.heap.size)∧(∀ j ej,j≠i→look j s.hp=some ej→c∉j8 ι j ej)∧(c∈j8 ι i e→∃ Op,f7 w.heap S u Op (d8 w.heap b off u.size) y∧c∈Op))
  {r:Sigma Ty.den} (hset:p7 e.ty e.x p u' z=some r) (hty:e.Q0=true→p≠[]→r.1=e.ty) :
  ∃ ι',(∃ O,ι'=ι.x7 i O∧∀ c∈O,(c∈ι.own i∨c∈O2)∧(c∈O2∨∀ Op,f7 w.heap S u Op (d8 w.heap b off u.size) y→c∉Op))∧RS B S ι' ((s.kill i e.kd p).r9 i (e.A5 r)) a (w.setRow b (B5 (r8 w.heap b) off cs).toArray):=by
 have hnb:=I2 hl
 obtain ⟨Op,m1,mn,m2,m3,m4,m5⟩:=I5 hnb (h.hs.ob i e he) h.hs.slt hok hg hl
 have hf:J5 w.heap b (off+cs.length):=by rw [hcs]; exact m5
 obtain ⟨hc,hcell⟩:=a0H hf
 rw [hcs] at hc hcell
 have hsz:(w.setRow b (B5 (r8 w.heap b) off cs).toArray).heap.size=w.heap.size:=setRow_size
 generalize hw':w.setRow b (B5 (r8 w.heap b) off cs).toArray=w' at *
 have hbl:=h.hs.bl i e he
 have hbl':∀ c∈j8 ι i e,¬ S c∧c<w.heap.size:=fun c hc=>⟨(hbl c hc).1,(hbl c hc).2.2⟩
 have hnS:¬ S b:=(hbl b m4).1
 have hold:∀ c,c≠b→w'.heap[c]?=w.heap[c]?:=by intro c hcb; rw [← hw']; exact setRow_other hcb
 have husz:u'.size=u.size:=E5 (a1O hg hset)
 have hz':f7 w'.heap S u' O2 (d8 w'.heap b off u'.size) z:=by
  rw [husz,hcell]
  exact hz w'.heap hsz hc
 obtain ⟨O,n1,n2,n3,n4⟩:=OB.A5 hnb (h.hs.ob i e he) hbl' h.hs.slt hok hg hl hc hsz hz' (fun c hc=>⟨(hO2 c hc).1.2.2,(hO2 c hc).2.2⟩) hnd2 hset
 have hown:∀ c∈ι.own i,c∈j8 ι i e:=by intro c hc; cases e<;>simp [j8,hc]
 -- blocks of the object now
 have hblks:∀ c∈j8 (ι.x7 i O) i (e.A5 r),c∈j8 ι i e∨c∈O2:=by
  intro c hc
  cases e with
  | var t x =>
   simp only [j8,i6.A5,Ix.x7,if_true,List.mem_cons] at hc ⊢
   rcases hc with hc|hc
   ·exact .inl (.inl hc)
   ·exact (n1 c hc).imp .inr id
  | own t x =>
   simp only [j8,i6.A5,Ix.x7,if_true] at hc ⊢
   exact n1 c hc
  | H2=>exact absurd rfl hnb
 have hfact:∀ c∈j8 (ι.x7 i O) i (e.A5 r),(¬ S c∧(B.w0.heap.size≤c∨B.M c)∧c<w.heap.size)∧∀ j ej,j≠i→look j s.hp=some ej→c∉j8 ι j ej:=by
  intro c hc
  rcases hblks c hc with h1|h1
  ·exact ⟨hbl c h1,fun j ej hj hlj=>h.hs.dj i j e ej he hlj (Ne.symm hj) c h1⟩
  ·exact ⟨(hO2 c h1).1,(hO2 c h1).2.1⟩
 have hsame:∀ j,j≠i→A7 ι (ι.x7 i O) j:=fun j hj=>N9 hj _
 refine ⟨ι.x7 i O,⟨O,rfl,fun c hc=>⟨n1 c hc,n4 c hc⟩⟩,⟨?_,?_,?_,?_,?_,?_,h.hs.s0,h.hs.s1,?_,?_,?_,?_⟩,h.Y2,h.sz,?_⟩
 ·rw [← hw']; exact h.hs.os
 ·exact M2.trans (.of (by rw [← hw']; rfl) (by rw [← hw']; rfl)) h.hs.tape
 ·rw [← hw']; exact h.hs.out
 ·rw [hsz]; exact h.hs.size
 ·intro c hc1 hm
  rw [hold c (by rintro rfl; rcases (hbl c m4).2.1 with h|h; omega; exact hm h)]
  exact h.hs.frame c hc1 hm
 ·intro c hc1; rw [hsz]; exact h.hs.slt c hc1
 ·intro j ej hj
  simp only [St.r9,n8] at hj
  by_cases e1:j=i
  ·subst e1; rw [if_pos rfl] at hj; cases hj; exact n2
  ·rw [if_neg e1] at hj
   have hj:look j s.hp=some ej:=hj
   refine (hsame j e1).ob.2 ((h.hs.ob j ej hj).q9 (fun c hcm=>hold c ?_) (fun _ h=>h))
   rintro rfl
   rcases hcm with hcm|hcm
   ·exact h.hs.dj j i ej e hj he e1 c hcm m4
   ·exact hnS hcm
 ·intro j ej hj c hc
  simp only [St.r9,n8] at hj
  rw [hsz]
  by_cases e1:j=i
  ·subst e1; rw [if_pos rfl] at hj; cases hj; exact (hfact c hc).1
  ·rw [if_neg e1] at hj
   rw [(hsame j e1).j8] at hc
   exact h.hs.bl j ej hj c hc
 ·intro j k ej ek hj hk hjk c hc
  simp only [St.r9,n8] at hj hk
  by_cases e1:j=i
  ·subst e1
   rw [if_pos rfl] at hj; cases hj
   rw [if_neg (Ne.symm hjk)] at hk
   rw [(hsame k (Ne.symm hjk)).j8]
   exact (hfact c hc).2 k ek (Ne.symm hjk) hk
  ·rw [if_neg e1] at hj
   rw [(hsame j e1).j8] at hc
   by_cases e2:k=i
   ·subst e2
    rw [if_pos rfl] at hk; cases hk
    exact fun hcc=>(hfact c hcc).2 j ej e1 hj hc
   ·rw [if_neg e2] at hk
    rw [(hsame k e2).j8]
    exact h.hs.dj j k ej ek hj hk hjk c hc
 ·intro q hq
  obtain ⟨k0,⟨e',k1⟩,k2,k3⟩:=h.hs.pin q hq
  refine ⟨k0,?_,k2,k3⟩
  simp only [St.r9,n8]
  by_cases e1:q.1=i
  ·exact ⟨_,by rw [if_pos e1]⟩
  ·exact ⟨e',by rw [if_neg e1]; exact k1⟩
 ·intro t v hv
  simp only [St.r9,St.kill,F1,Option.map_eq_some_iff] at hv
  obtain ⟨v0,hv0,rfl⟩:=hv
  refine VX.map (fun c hc=>hold c (fun e=>hnS (e▸hc))) (fun _ h=>h) (fun v vs hr hm hvx=>?_) (h.fr t v0 hv0)
  unfold AV.a0f
  cases hmi:v.f8 i with
  | false =>
   -- speaks of others
   have hne:∀ j,v.f8 j=true→j≠i:=by rintro j hj rfl; rw [hmi] at hj; cases hj
   have hst:VX w'.heap S ι (del i s.hp) v vs:=by
    refine VX.grow (fun c hcm=>hold c ?_) (fun _ h=>h) h.hs.slt (fun j ej hj=>?_) (VX.other (hp':=del i s.hp) (fun j hj=>by rw [G4,if_neg (hne j hj)]) (fun j _=>A7.refl ι j) hvx)
    ·rintro rfl
     rcases hcm with ⟨j,ej,hj,hcj⟩|hcm
     ·rw [G4] at hj
      split at hj
      ·cases hj
      ·rename_i hji
       exact h.hs.dj j i ej e hj he hji c hcj m4
     ·exact hnS hcm
    ·rw [G4] at hj
     split at hj
     ·cases hj
     ·exact h.hs.ob j ej hj
   exact VX.other (fun j hj=>by simp only [St.r9,n8,G4,if_neg (hne j hj)]; rfl) (fun j hj=>hsame j (hne j hj)) hst
  | true =>
   have hany:∀ {vs:List Value},(∃ x,vs=[x])→VX w'.heap S (ι.x7 i O) ((s.kill i e.kd p).r9 i (e.A5 r)).hp .any vs:=fun h=>h
   have honex:=VX.one hr hvx
   simp only
   cases v<;>simp only [AV.ref] at hr<;>try cases hr
   ·rename_i j q
    have hji:i=j:=Nat.eq_of_beq_eq_true hmi
    subst hji
    cases hkp:kp p q with
    | false=>simp only [hkp]; exact honex
    | true =>
     simp only [hkp]
     obtain ⟨ej,b2,off2,k1,k2,k3,k4⟩:=hvx
     rw [he] at k1; cases k1
     obtain ⟨l1,l2⟩:=b8B hnb (h.hs.ob i e he) hbl' h.hs.slt hok hg hl hc hsz hset hkp k2 O k3
     exact ⟨e.A5 r,b2,off2,by simp [St.r9,n8],l2,l1,k4⟩
   ·rename_i j q
    have hji:i=j:=Nat.eq_of_beq_eq_true hmi
    subst hji
    have hkeep:kc e.ty p q=true→kp p q=true→VX w'.heap S (ι.x7 i O) ((s.kill i e.kd p).r9 i (e.A5 r)).hp (.at_ i q) vs:=by
     intro hk1 hk2
     obtain ⟨ej,u2,y2,cs2,k1,k2,k3,k4,k5⟩:=hvx
     rw [he] at k1; cases k1
     obtain ⟨l1,⟨y3,l2⟩,l3⟩:=b6b hnb (h.hs.ob i e he) hbl' h.hs.slt hok hg hl hc hsz hset hk1 hk2 k2 O k3 k4
     exact ⟨e.A5 r,u2,y3,cs2,by simp [St.r9,n8],l1,l2,l3,k5⟩
    cases q with
    | cons st q =>
     cases hkc:kc e.kd.2 p (st::q) && kp p (st::q) with
     | false=>simp only [hkc]; exact honex
     | true =>
      simp only [hkc]
      rw [Bool.and_eq_true] at hkc
      exact hkeep hkc.1 hkc.2
    | nil =>
     have hdef:VX w'.heap S (ι.x7 i O) ((s.kill i e.kd p).r9 i (e.A5 r)).hp (match kc e.kd.2 p [] with|true=>AV.at_ i []|false=>AV.any) vs:=by
      cases hkc:kc e.kd.2 p [] with
      | false=>exact honex
      | true=>exact hkeep hkc (by cases p<;>rfl)
     rcases hpq:p with _|⟨_|jx,pq⟩<;>cases how:e.Q0<;>simp only [i6.kd,how]<;>first|(rw [hpq] at hdef; exact hdef)|skip
     ·obtain ⟨ej,u2,y2,cs2,k1,k2,k3,k4,k5⟩:=hvx
      rw [he] at k1; cases k1
      have hrt:=hty how (by rw [hpq]; simp)
      rw [y7] at k3; cases k3
      obtain ⟨t0,x0,rfl⟩:∃ t0 x0,e=.own t0 x0:=by cases e<;>first|exact ⟨_,_,rfl⟩|(simp [i6.Q0] at how)
      obtain ⟨⟨O',_,hR'⟩,_⟩:=h.hs.ob i _ he
      have hcs2:=M8 k4 hR'.length
      have hrt:r.1=t0:=hrt
      refine ⟨.own r.1 r.2,r.1,r.2,cs2,by simp [St.r9,n8,i6.A5],J1,y7,a0K (by rw [hcs2]; rfl) (by rw [hcs2,hR'.length,hrt]),?_⟩
      rw [k5]
      simp only [i6.ty,hrt]
   ·rename_i j q lo hi
    have hji:i=j:=Nat.eq_of_beq_eq_true hmi
    subst hji
    cases q with
    | cons st q=>exact honex
    | nil =>
     rcases hpq:p with _|⟨_|jx,pq⟩<;>cases how:e.Q0<;>simp only [i6.kd,how]<;>first|exact honex|skip
     ·obtain ⟨ej,v2,k1,k2,k3,k4,k5,k6⟩:=hvx
      rw [he] at k1; cases k1
      have hrt:=hty how (by rw [hpq]; simp)
      obtain ⟨t0,x0,rfl⟩:∃ t0 x0,e=.own t0 x0:=by cases e<;>first|exact ⟨_,_,rfl⟩|(simp [i6.Q0] at how)
      obtain ⟨⟨O',_,hR'⟩,_⟩:=h.hs.ob i _ he
      have hrt:r.1=t0:=hrt
      rcases k6 with ⟨t',l,a',cap,g1,g2,g3,g4⟩|⟨n,t',l,b2,off2,g1,g2,g3,g4⟩
      ·rw [y7] at g1; cases g1
       obtain ⟨rt,rx⟩:=r
       have hrt:rt=.d0 true t':=hrt
       subst hrt
       have hcs2:=M8 g3 hR'.length
       -- the length stands, as the header does
       have hlen:List.length (rx:(Ty.d0 true t').den)=List.length (x0:(Ty.d0 true t').den):=by
        obtain ⟨⟨O'',_,hR''⟩,_⟩:=n2
        have hcc:(ι.x7 i O).cells i=[.slice a' (List.length (x0:(Ty.d0 true t').den)) cap]:=(show ι.cells i=_ from hcs2.symm)
        rw [hcc] at hR''
        rcases hR'' with ⟨_,⟨a2,c2,h1,_⟩,h3⟩|⟨b3,o3,cap3,O3,c1,_⟩
        ·simp only [List.cons.injEq,Value.slice.injEq,and_true] at h1
         subst h3
         simp [h1.2.1]
        ·simp only [List.cons.injEq,Value.slice.injEq,and_true] at c1
         exact c1.2.1.symm
       refine ⟨.own (.d0 true t') rx,v2,by simp [St.r9,n8,i6.A5],J1,k3,k4,k5,.inl ⟨t',rx,a',cap,y7,by rw [hlen]; exact g2,?_,g4⟩⟩
       rw [hlen]
       exact a0K (show ι.cells i=_ from hcs2.symm) rfl
      ·exfalso
       simp only [Loc,Place,w4,VR] at g3
       simp at g3

theorem RS.store (h:RS B S ι s a w) {i:Nat} {e:i6} (he:look i s.hp=some e) {p:List Step} (hok:u6 e.ty e.x p) {u:Ty} {y:u.den} (hg:i8 e.ty e.x p=some ⟨u,y⟩) {b off:Nat} (hl:Loc w.heap ι i e p=some (b,off))
  {u':Ty} {z:u'.den} {cs:List Value} {O2:List Nat} (hz:∀ H',H'.size=w.heap.size→R2 w.heap H' b off u.size→f7 H' S u' O2 cs z) (hcs:cs.length=u.size) (hnd2:O2.Nodup)
  (hO2:∀ c∈O2,(¬ S c∧(B.w0.heap.size≤c∨B.M c)∧c<w.heap.size)∧(∀ j ej,j≠i→look j s.hp=some ej→c∉j8 ι j ej)∧(c∈j8 ι i e→∃ Op,f7 w.heap S u Op (d8 w.heap b off u.size) y∧c∈Op))
  {r:Sigma Ty.den} (hset:p7 e.ty e.x p u' z=some r) (hty:e.Q0=true→p≠[]→r.1=e.ty) :
  ∃ ι',RS B S ι' ((s.kill i e.kd p).r9 i (e.A5 r)) a (w.setRow b (B5 (r8 w.heap b) off cs).toArray):=by
 obtain ⟨ι',_,h1⟩:=h.a6W he hok hg hl hz hcs hnd2 hO2 hset hty
 exact ⟨ι',h1⟩

end
end Go.Ex

namespace Go.Ex

section
variable {E:Env} {B:C4} {S:Nat→Prop} {ι:Ix} {s:St} {a:Act} {w:World} {hp:List (Nat×i6)} {H H':Array Go.Obj}

/-! ways that go on -/
theorem b5N:∀ {t:Ty} {x:t.den} {p q:List Step} {b off:Nat} {u:Ty} {y:u.den},i8 t x p=some ⟨u,y⟩→w9 H t (p++q) b off=(w9 H t p b off).bind fun r=>w9 H u q r.1 r.2:=by
 intro t
 induction t with
 | pair a c iha ihc =>
  intro x p q b off u y h
  match p,h with
  | [],h=>simp only [i8,Option.some.injEq] at h; cases h; rfl
  | .j6 0::p,h=>exact iha h
  | .j6 (n+1)::p,h=>exact ihc h
  | .idx i::p,h=>simp [i8] at h
 | arr n t ih =>
  intro x p q b off u y h
  match p,h with
  | [],h=>simp only [i8,Option.some.injEq] at h; cases h; rfl
  | .idx i::p,h=>exact ih h
  | .j6 i::p,h=>simp [i8] at h
 | d0 o t ih =>
  intro x p q b off u y h
  match p,h with
  | [],h =>
   have h:some (⟨.d0 o t,x⟩:Sigma Ty.den)=some ⟨u,y⟩:=by cases o<;>exact h
   cases h
   have:w9 H (.d0 o t) [] b off=some (b,off):=by cases o<;>rfl
   rw [this]; rfl
  | .idx i::p,h =>
   cases o with
   | false=>simp [i8] at h
   | true =>
    simp only [List.cons_append,w9]
    split
    ·exact ih h
    ·rfl
  | .j6 i::p,h=>cases o<;>simp [i8] at h
 | _ =>
  intro x p q b off u y h
  match p,h with
  | [],h=>simp only [i8,Option.some.injEq] at h; cases h; rfl
  | .idx i::p,h=>simp [i8] at h
  | .j6 i::p,h=>simp [i8] at h

theorem R6:∀ {t:Ty} {x:t.den} {p q:List Step} {u:Ty} {y:u.den},i8 t x p=some ⟨u,y⟩→u6 t x p→u6 u y q→u6 t x (p++q):=by
 intro t
 induction t with
 | pair a c iha ihc =>
  intro x p q u y h h1 h2
  match p,h,h1 with
  | [],h,_=>simp only [i8,Option.some.injEq] at h; cases h; exact h2
  | .j6 0::p,h,h1=>exact iha h h1 h2
  | .j6 (n+1)::p,h,h1=>exact ihc h h1 h2
  | .idx i::p,h,_=>simp [i8] at h
 | arr n t ih =>
  intro x p q u y h h1 h2
  match p,h,h1 with
  | [],h,_=>simp only [i8,Option.some.injEq] at h; cases h; exact h2
  | .idx i::p,h,h1=>exact ⟨h1.1,ih h h1.2 h2⟩
  | .j6 i::p,h,_=>simp [i8] at h
 | d0 o t ih =>
  intro x p q u y h h1 h2
  match p,h,h1 with
  | [],h,_ =>
   have h:some (⟨.d0 o t,x⟩:Sigma Ty.den)=some ⟨u,y⟩:=by cases o<;>exact h
   cases h; exact h2
  | .idx i::p,h,h1 =>
   cases o with
   | false=>simp [i8] at h
   | true=>exact ⟨h1.1,ih h h1.2 h2⟩
  | .j6 i::p,h,_=>cases o<;>simp [i8] at h
 | _ =>
  intro x p q u y h h1 h2
  match p,h,h1 with
  | [],h,_=>simp only [i8,Option.some.injEq] at h; cases h; exact h2
  | .idx i::p,h,_=>simp [i8] at h
  | .j6 i::p,h,_=>simp [i8] at h

theorem W1 {i:Nat} {e:i6} {p q:List Step} {u:Ty} {y:u.den} (hg:i8 e.ty e.x p=some ⟨u,y⟩) {b off:Nat} (hl:Place H ι i e p=some (b,off)) {r:Nat×Nat} (hn:w9 (VH H ι i e) u q b off=some r) :
  Place H ι i e (p++q)=some r:=by
 have he:=a1S hl
 rw [E9 he] at hl ⊢
 rw [b5N hg,hl]; exact hn

theorem a1e {i:Nat} {e:i6} {p q:List Step} {u:Ty} {y:u.den} (hg:i8 e.ty e.x p=some ⟨u,y⟩) {b off:Nat} (hl:Loc H ι i e p=some (b,off)) {off':Nat} (hn:∀ G:Array Go.Obj,w9 G u q b off=some (b,off')) :
  Loc H ι i e (p++q)=some (b,off'):=by
 obtain ⟨h1,h2⟩:=w5 hl
 exact P4 (W1 hg h1 (hn _)) h2

/-! fields -/
def K8:Ty→Nat→Nat
 | .pair _ _,0=>0
 | .pair a b,n+1=>a.size+K8 b n
 | _,_=>0

theorem a0R:∀ {t:Ty} {x:t.den} {n:Nat} {u:Ty} {z:u.den} {b off:Nat},i8 t x [.j6 n]=some ⟨u,z⟩→w9 H t [.j6 n] b off=some (b,off+K8 t n):=by
 intro t
 induction t with
 | pair a c _ ihc =>
  intro x n u z b off h
  match n,h with
  | 0,h=>cases a<;>rfl
  | n+1,h =>
   have:=ihc (x:=x.2) (b:=b) (off:=off+a.size) h
   simp only [w9,K8] at this ⊢
   rw [this,Nat.add_assoc]
 | d0 o t _=>intro x n u z b off h; cases o<;>simp [i8] at h
 | _=>intro x n u z b off h; simp [i8] at h

theorem a1M:∀ {t:Ty} {x:t.den} {n:Nat} {u:Ty} {z:u.den},i8 t x [.j6 n]=some ⟨u,z⟩→u6 t x [.j6 n]:=by
 intro t
 induction t with
 | pair a c _ ihc =>
  intro x n u z h
  match n,h with
  | 0,h=>cases a<;>trivial
  | n+1,h=>exact ihc (x:=x.2) h
 | d0 o t _=>intro x n u z h; cases o<;>simp [i8] at h
 | _=>intro x n u z h; simp [i8] at h

theorem b8i {P:Program} {k:Nat}:∀ {t:Ty} {x:t.den} {n:Nat} {u:Ty} {z:u.den} {fs:List Field} {o:Nat},n7 (p8 P k) fs o t=true→i8 t x [.j6 n]=some ⟨u,z⟩ →
  ∃ f,fs[n]?=some f∧f.offset=o+K8 t n∧1≤u.size∧p8 P k f.type u=true:=by
 intro t
 induction t with
 | pair a c _ ihc =>
  intro x n u z fs o h hg
  cases fs with
  | nil=>simp [n7] at h
  | cons f fs =>
   simp only [n7,Bool.and_eq_true] at h
   obtain ⟨⟨⟨⟨h1,h2⟩,h3⟩,_⟩,h4⟩:=h
   match n,hg with
   | 0,hg =>
    have hg:some (⟨a,x.1⟩:Sigma Ty.den)=some ⟨u,z⟩:=by
     rw [← hg]; simp only [i8]
    cases hg
    exact ⟨f,rfl,Nat.eq_of_beq_eq_true h1,Nat.le_of_ble_eq_true h2,h3⟩
   | n+1,hg =>
    obtain ⟨g,e1,e2,e3,e4⟩:=ihc (x:=x.2) h4 hg
    exact ⟨g,by simpa using e1,by rw [e2]; simp only [K8]; omega,e3,e4⟩
 | d0 o t _=>intro x n u z fs o' h hg; cases o<;>simp [i8] at hg
 | _=>intro x n u z fs o h hg; simp [i8] at hg

theorem a2X {P:Program} {k:Nat} {T:TypeId} {t:Ty} {x:t.den} {n:Nat} {u:Ty} {z:u.den} (h:p8 P k T t=true) (hg:i8 t x [.j6 n]=some ⟨u,z⟩) :
  ∃ fs f k',P.underlying T=some (.struct fs)∧fs[n]?=some f∧f.offset=K8 t n∧1≤u.size∧p8 P k' f.type u=true:=by
 cases k with
 | zero=>simp [p8] at h
 | succ k =>
  obtain ⟨d,h1,h2⟩:=K5 h
  simp only [p8,Bool.and_eq_true,h1] at h
  obtain ⟨_,h⟩:=h
  cases t with
  | pair a c =>
   cases d<;>first|(exact (Bool.false_ne_true h).elim)|skip
   rename_i fs
   have h:n7 (p8 P k) fs.toList 0 (.pair a c)=true:=h
   obtain ⟨f,e1,e2,e3,e4⟩:=b8i h hg
   exact ⟨fs,f,k,h1,by simpa using e1,by simpa using e2,e3,e4⟩
  | d0 o t=>cases o<;>simp [i8] at hg
  | _=>simp [i8] at hg

theorem X6 {P:Program} {k:Nat} {T:TypeId} {t:Ty} {x:t.den} {n:Nat} {u:Ty} {z:u.den} (h:p8 P k T t=true) (hg:i8 t x [.j6 n]=some ⟨u,z⟩) (b off:Nat) :
  (Instr.fieldAt T (.pointer (some ⟨b,off,none⟩)) n).run P w=.ok (.pointer (some ⟨b,off+K8 t n,none⟩)) w:=by
 obtain ⟨fs,f,k',h1,h2,h3,h4,h5⟩:=a2X h hg
 have:¬ u.size=0:=by omega
 simp [Instr.fieldAt,q8 h1,h2,Instr.sureAddr,fieldPlace,run_sizeOf h5,this,h3,Addr.E8]

/-! elements -/
theorem S3 {P:Program} {k:Nat} {T:TypeId} {m:Nat} {t:Ty} (h:p8 P k T (.arr m t)=true):∃ e k',P.underlying T=some (.array m e)∧1≤t.size∧p8 P k' e t=true:=by
 cases k with
 | zero=>simp [p8] at h
 | succ k =>
  obtain ⟨d,h1,h2⟩:=K5 h
  simp only [p8,Bool.and_eq_true,h1] at h
  obtain ⟨_,h⟩:=h
  cases d<;>first|(exact (Bool.false_ne_true h).elim)|skip
  ·simp only [Bool.and_eq_true] at h
   rw [Nat.eq_of_beq_eq_true h.1.1] at h1
   exact ⟨_,k,h1,Nat.le_of_ble_eq_true h.1.2,h.2⟩
  ·rename_i fs
   have h:n7 (p8 P k) fs.toList 0 (.arr m t)=true:=h
   cases hf:fs.toList<;>(rw [hf] at h; simp [n7] at h)

theorem C9 {P:Program} {k:Nat} {T:TypeId} {o:Bool} {t:Ty} (h:p8 P k T (.d0 o t)=true):∃ e k',P.underlying T=some (.slice e)∧1≤t.size∧p8 P k' e t=true:=by
 cases k with
 | zero=>simp [p8] at h
 | succ k =>
  obtain ⟨d,h1,h2⟩:=K5 h
  simp only [p8,Bool.and_eq_true,h1] at h
  obtain ⟨_,h⟩:=h
  cases d<;>first|(exact (Bool.false_ne_true h).elim)|skip
  ·simp only [Bool.and_eq_true] at h
   exact ⟨_,k,h1,Nat.le_of_ble_eq_true h.1,h.2⟩
  ·rename_i fs
   have h:n7 (p8 P k) fs.toList 0 (.d0 o t)=true:=h
   cases hf:fs.toList<;>(rw [hf] at h; simp [n7] at h)

theorem N4 {P:Program} {k:Nat} {T:TypeId} (h:p8 P k T .str=true):P.underlying T=some .string:=by
 cases k with
 | zero=>simp [p8] at h
 | succ k =>
  obtain ⟨d,h1,h2⟩:=K5 h
  simp only [p8,Bool.and_eq_true,h1] at h
  obtain ⟨_,h⟩:=h
  cases d<;>first|exact h1|(exact (Bool.false_ne_true h).elim)|skip
  ·rename_i fs
   have h:n7 (p8 P k) fs.toList 0 .str=true:=h
   cases hf:fs.toList<;>(rw [hf] at h; simp [n7] at h)

theorem b3v {P:Program} {k f:Nat} {T:TypeId} (h:p8 P k T (.fn f)=true):∃ a b c,P.underlying T=some (.func a b c):=by
 cases k with
 | zero=>simp [p8] at h
 | succ k =>
  obtain ⟨d,h1,h2⟩:=K5 h
  simp only [p8,Bool.and_eq_true,h1] at h
  obtain ⟨_,h⟩:=h
  cases d<;>first|exact ⟨_,_,_,h1⟩|(exact (Bool.false_ne_true h).elim)|skip
  ·rename_i fs
   have h:n7 (p8 P k) fs.toList 0 (.fn f)=true:=h
   cases hf:fs.toList<;>(rw [hf] at h; simp [n7] at h)

theorem a56 {P:Program} {k:Nat} {T:TypeId} {o:Bool} {a b:Ty} (h:p8 P k T (.map o a b)=true):∃ K V k',P.underlying T=some (.map K V)∧a.shared=true∧b.shared=true∧p8 P k' K a=true∧p8 P k' V b=true:=by
 cases k with
 | zero=>simp [p8] at h
 | succ k =>
  obtain ⟨d,h1,h2⟩:=K5 h
  simp only [p8,Bool.and_eq_true,h1] at h
  obtain ⟨_,h⟩:=h
  cases d<;>first|(exact (Bool.false_ne_true h).elim)|skip
  ·simp only [Bool.and_eq_true] at h
   exact ⟨_,_,k,h1,h.1.1.1,h.1.1.2,h.1.2,h.2⟩
  ·rename_i fs
   have h:n7 (p8 P k) fs.toList 0 (.map o a b)=true:=h
   cases hf:fs.toList<;>(rw [hf] at h; simp [n7] at h)

theorem b0i {P:Program} {k:Nat} {T:TypeId} {o:Bool} {a:Ty} (h:p8 P k T (.box o none a)=true):∃ e k',P.underlying T=some (.pointer e)∧p8 P k' e a=true:=by
 cases k with
 | zero=>simp [p8] at h
 | succ k =>
  obtain ⟨d,h1,h2⟩:=K5 h
  simp only [p8,Bool.and_eq_true,h1] at h
  obtain ⟨_,h⟩:=h
  cases d<;>first|(exact (Bool.false_ne_true h).elim)|skip
  ·exact ⟨_,k,h1,h⟩
  ·rename_i fs
   have h:n7 (p8 P k) fs.toList 0 (.box o none a)=true:=h
   cases hf:fs.toList<;>(rw [hf] at h; simp [n7] at h)

theorem a8G {P:Program} {k:Nat} {T:TypeId} {o:Bool} {g:Nat} {a:Ty} (h:p8 P k T (.box o (some g) a)=true):∃ p q v,P.underlying T=some (.func p q v):=by
 cases k with
 | zero=>simp [p8] at h
 | succ k =>
  obtain ⟨d,h1,h2⟩:=K5 h
  simp only [p8,Bool.and_eq_true,h1] at h
  obtain ⟨_,h⟩:=h
  cases d<;>first|(exact (Bool.false_ne_true h).elim)|skip
  ·rename_i fs
   have h:n7 (p8 P k) fs.toList 0 (.box o (some g) a)=true:=h
   cases hf:fs.toList<;>(rw [hf] at h; simp [n7] at h)
  ·exact ⟨_,_,_,h1⟩

theorem U6 {P:Program} {k:Nat} {T:TypeId} {kd:IntKind} (h:p8 P k T (.int kd)=true):P.underlying T=some (.int kd):=by
 cases k with
 | zero=>simp [p8] at h
 | succ k =>
  obtain ⟨d,h1,h2⟩:=K5 h
  simp only [p8,Bool.and_eq_true,h1] at h
  obtain ⟨_,h⟩:=h
  cases d<;>first|(exact (Bool.false_ne_true h).elim)|skip
  ·rw [of_decide_eq_true h] at h1; exact h1
  ·rename_i fs
   have h:n7 (p8 P k) fs.toList 0 (.int kd)=true:=h
   cases hf:fs.toList<;>(rw [hf] at h; simp [n7] at h)

theorem X9 {P:Program} {k:Nat} {T:TypeId} {m:Nat} {t:Ty} (h:p8 P k T (.arr m t)=true) (b off:Nat) {kd:IntKind} {n:Int} (hn:0≤n∧n<m) :
  (Instr.indexAt T (.pointer (some ⟨b,off,none⟩)) (.int kd n)).run P w=.ok (.pointer (some ⟨b,off+n.toNat*t.size,none⟩)) w:=by
 obtain ⟨e,k',h1,h2,h3⟩:=S3 h
 simp [Instr.indexAt,asIntOf,q8 h1,Instr.sureAddr,hn,run_sizeOf h3,Addr.E8]

theorem L8 {P:Program} {k:Nat} {T:TypeId} {o:Bool} {t:Ty} (h:p8 P k T (.d0 o t)=true) (b off len cap:Nat) {kd:IntKind} {n:Int} (hn:0≤n∧n<len) :
  (Instr.indexAt T (.slice (some ⟨b,off,none⟩) len cap) (.int kd n)).run P w=.ok (.pointer (some ⟨b,off+n.toNat*t.size,none⟩)) w:=by
 obtain ⟨e,k',h1,h2,h3⟩:=C9 h
 simp [Instr.indexAt,asIntOf,q8 h1,hn,run_sizeOf h3,Addr.E8]

end
end Go.Ex

namespace Go.Ex

section
variable {E:Env} {B:C4} {S:Nat→Prop} {ι:Ix} {s:St} {a:Act} {w:World} {hp:List (Nat×i6)} {H H':Array Go.Obj}

theorem a7a {α:Type} {n:Int} (h:0≤n∧n<(([]:List α).length:Int)):False:=by
 simp at h; omega

theorem x6 {x:Operand} (h:RS B S ι s a w) {v:AV} (e:s.ev x=v):VX w.heap S ι s.hp v [a.eval x]:=e▸h.ev x

theorem G5 {P:Program} {o:Oper} {sem:Sem Value} (he:execOp a.eval o=(do pure (.value (← sem)))) (h:RS B S ι s a w) {v:AV} {val:Value} (hr:sem.run P w=.ok val w)
  (hv:VX w.heap S ι s.hp v [val]):u5 P B o a w v s:=u5.value (H5 he hr) h hv

theorem V7 {i:Nat} {e e':i6} (h1:look i s.hp=some e) (h:s.obj i=some e'):e'=e:=by
 rw [St.obj,h1] at h; cases h; rfl


theorem E4 (h:HS B S ι hp w) {i:Nat} {e:i6} (hi:look i hp=some e) {p:List Step} (hok:u6 e.ty e.x p) {u:Ty} {y:u.den} (hg:i8 e.ty e.x p=some ⟨u,y⟩) {cs:List Value} (hc:Cells w.heap ι i e p u cs) :
  ∃ O2,(∀ c∈O2,c∈ι.own i)∧O2.Nodup∧f7 w.heap S u O2 cs y:=by
 obtain ⟨b,off,O2,k1,k2,k3,k4,_⟩:=(h.ob i e hi).part (a1T hc) h.slt hok hg
 obtain ⟨b',off',h1,rfl⟩:=hc
 rw [k1] at h1; cases h1
 exact ⟨O2,k2,k3,k4⟩

theorem D5 {i:Nat} {e:i6} {c:Nat} (h:c∈ι.own i):c∈j8 ι i e:=by cases e<;>simp [j8,h]

theorem i7.take {α:Type} {R:List Nat→List Value→α→Prop} {sz:Nat}:∀ {l:List α} {O:List Nat} {cs:List Value} (k:Nat),i7 R sz O cs l→∃ O1 O2,O=O1++O2∧i7 R sz O1 (cs.take (k*sz)) (l.take k)∧i7 R sz O2 (cs.drop (k*sz)) (l.drop k)
 | l,O,cs,0,h=>⟨[],O,rfl,by simp [i7],by simpa using h⟩
 | [],O,cs,k+1,⟨h1,h2⟩=>⟨[],[],by simp [h1],by simp [i7,h2],by simp [i7,h2]⟩
 | x::l,O,cs,k+1,⟨O1,O2,e,h1,h2⟩=>by
  obtain ⟨P1,P2,e',g1,g2⟩:=i7.take k h2
  refine ⟨O1++P1,P2,by rw [e,e',List.append_assoc],⟨O1,P1,rfl,?_,?_⟩,?_⟩
  ·rw [List.take_take,Nat.min_eq_left (by rw [Nat.succ_mul]; omega)]; exact h1
  ·rw [List.drop_take,show (k+1)*sz - sz=k*sz from by rw [Nat.succ_mul]; omega]; exact g1
  ·rw [List.drop_drop,show sz+k*sz=(k+1)*sz from by rw [Nat.succ_mul]; omega] at g2
   exact g2

theorem i7.cut {α:Type} {R:List Nat→List Value→α→Prop} {sz:Nat} {l:List α} {O:List Nat} {cs:List Value} (a n:Nat) (h:i7 R sz O cs l):∃ O1 O2 O3,O=O1++(O2++O3)∧i7 R sz O2 ((cs.drop (a*sz)).take (n*sz)) ((l.drop a).take n):=by
 obtain ⟨O1,O2,e,_,h2⟩:=h.take a
 obtain ⟨P1,P2,e',g1,_⟩:=h2.take n
 exact ⟨O1,P1,P2,by rw [e,e'],g1⟩

theorem U9 {α:Type} {lo hi:Int} {l:List α} (h0:0≤lo) (h2:hi≤(l.length:Int)):(B3 lo hi l).length=(hi - lo).toNat:=by
 simp only [B3,List.length_take,List.length_drop]
 omega

def LB (S:Nat→Prop) (ι:Ix) (hp:List (Nat×i6)) (b:Nat):Prop:=S b∨∃ i e,look i hp=some e∧b∈j8 ι i e

def b5Z (H:Array Go.Obj) (S:Nat→Prop) (t:Ty) (l:List t.den) (A:Option Addr) (L:Nat→Prop):Prop :=
 l=[]∨∃ b off O,A=some ⟨b,off,none⟩∧L b∧off+l.length*t.size≤(r8 H b).length∧i7 (f7 H S t) t.size O (d8 H b off (l.length*t.size)) l∧∀ c∈O,L c

theorem a5p (h:HS B S ι s.hp w) {i:Nat} {p:List Step} {lo hi:Int} {v:Value} (hv:VX w.heap S ι s.hp (.sub i p lo hi) [v]) {t:Ty} {l:List t.den} (hw:s.view i p lo hi=some ⟨t,l⟩) :
  ∃ A c,v=.slice A l.length c∧b5Z w.heap S t l A (LB S ι s.hp)∧(l.length:Int)=hi - lo∧0≤lo∧lo≤hi∧∃ e,look i s.hp=some e∧u6 e.ty e.x p ∧
   (l≠[]→∃ b off,A=some ⟨b,off,none⟩∧∀ n:Int,0≤n→n<l.length→∃ off2,Loc w.heap ι i e (p++[.idx (lo+n)])=some (b,off2)∧off2=off+n.toNat*t.size∧u6 e.ty e.x (p++[.idx (lo+n)])):=by
 obtain ⟨e,v',h1,h2,h3,h4,h5,h6⟩:=hv
 cases h3
 have hob:=h.ob i e h1
 unfold St.view at hw
 rcases h6 with ⟨t',l',a,cap,k1,k2,k3,c,A,k4,kA,k5,k6⟩|⟨n,t',l',b,off,k1,⟨k2,k2'⟩,k3,c,A,k4,kA,k5,k6⟩
 ·have hp:s.part i p=some ⟨.d0 true t',l'⟩:=by unfold St.part St.obj; rw [h1]; exact k1
  rw [hp] at hw
  simp only [Option.some.injEq,Sigma.mk.injEq] at hw
  obtain ⟨rfl,hw⟩:=hw
  have hw:=eq_of_heq hw
  subst hw
  have hlen:(B3 lo hi l').length=(hi - lo).toNat:=U9 h4 k2
  refine ⟨_,c,by rw [hlen]; exact k4,?_,by omega,h4,h5,e,h1,h2,?_⟩
  ·by_cases hz:B3 lo hi l'=[]
   ·exact .inl hz
   ·obtain ⟨O2,m1,m2,m3⟩:=E4 h h1 h2 k1 k3
    rcases m3 with ⟨_,_,hn⟩|⟨b1,o1,cap',O',c1,c2,c3,c4,c5,rfl,c7⟩
    ·exfalso; apply hz; rw [hn]; simp [B3]
    ·simp only [List.cons.injEq,Value.slice.injEq,and_true] at c1
     obtain ⟨rfl,_,rfl⟩:=c1
     have hpos:0<(hi - lo).toNat:=by rw [← hlen]; exact List.length_pos_iff.2 hz
     obtain ⟨P1,P2,P3,e1,g⟩:=c5.cut lo.toNat (hi - lo).toNat
     have hle:lo.toNat*t'.size+(hi - lo).toNat*t'.size≤List.length l'*t'.size:=by rw [← Nat.add_mul]; exact Nat.mul_le_mul_right _ (by omega)
     rw [n9,m0 _ _ _ _ (by omega)] at g
     refine .inr ⟨b1,o1+lo.toNat*t'.size,P2,?_,.inr ⟨i,e,h1,D5 (m1 b1 (by simp))⟩,?_,by rw [hlen]; exact g,fun c hc=>.inr ⟨i,e,h1,D5 (m1 c (by rw [e1]; simp [hc]))⟩⟩
     ·rw [kA (by omega),Option.map_some,Addr.E8]
     ·rw [hlen]; omega
  ·intro hz
   obtain ⟨O2,m1,m2,m3⟩:=E4 h h1 h2 k1 k3
   rcases m3 with ⟨_,_,hn⟩|⟨b1,o1,cap',O',c1,c2,c3,c4,c5,rfl,c7⟩
   ·exfalso; apply hz; rw [hn]; simp [B3]
   ·simp only [List.cons.injEq,Value.slice.injEq,and_true] at c1
    obtain ⟨rfl,_,rfl⟩:=c1
    have hpos:0<(hi - lo).toNat:=by rw [← hlen]; exact List.length_pos_iff.2 hz
    refine ⟨b1,o1+lo.toNat*t'.size,by rw [kA (by omega),Option.map_some,Addr.E8],fun n hn0 hn=>?_⟩
    obtain ⟨b0,off0,q1,q2⟩:=k3
    have hh:=(K2 b0 off0 _).1 q2.symm
    refine ⟨o1+(lo+n).toNat*t'.size,P4 (W1 k1 q1 ?_) c7.free.lt,by rw [show (lo+n).toNat=lo.toNat+n.toNat from by omega,Nat.add_mul]; omega,R6 k1 h2 ⟨⟨by omega,by omega⟩,J1⟩⟩
    simp only [w9,hh,w4]
 ·have hp:s.part i p=some ⟨.arr n t',l'⟩:=by unfold St.part St.obj; rw [h1]; exact k1
  rw [hp] at hw
  simp only [Option.some.injEq,Sigma.mk.injEq] at hw
  obtain ⟨rfl,hw⟩:=hw
  have hw:=eq_of_heq hw
  subst hw
  obtain ⟨O2,m1,m2,m3,m4,m5,m6⟩:=I5 (I2 k3) hob h.slt h2 k1 k3
  obtain ⟨hl,m3⟩:=m3
  have hlen:(B3 lo hi l').length=(hi - lo).toNat:=U9 h4 (by rw [hl]; exact k2)
  refine ⟨_,c,by rw [hlen]; exact k4,?_,by omega,h4,h5,e,h1,h2,?_⟩
  ·by_cases hz:B3 lo hi l'=[]
   ·exact .inl hz
   ·have hpos:0<(hi - lo).toNat:=by rw [← hlen]; exact List.length_pos_iff.2 hz
    obtain ⟨P1,P2,P3,e1,g⟩:=m3.cut lo.toNat (hi - lo).toNat
    have hle:lo.toNat*t'.size+(hi - lo).toNat*t'.size≤n*t'.size:=by rw [← Nat.add_mul]; exact Nat.mul_le_mul_right _ (by omega)
    simp only [Ty.size] at g m4
    rw [n9,m0 _ _ _ _ (by omega)] at g
    refine .inr ⟨b,off+lo.toNat*t'.size,P2,?_,.inr ⟨i,e,h1,m5⟩,?_,by rw [hlen]; exact g,fun c hc=>.inr ⟨i,e,h1,D5 (m1 c (by rw [e1]; simp [hc]))⟩⟩
    ·rw [kA (by omega),Option.map_some,Addr.E8]
    ·rw [hlen]; omega
  ·intro hz
   have hpos:0<(hi - lo).toNat:=by rw [← hlen]; exact List.length_pos_iff.2 hz
   refine ⟨b,off+lo.toNat*t'.size,by rw [kA (by omega),Option.map_some,Addr.E8],fun m hm0 hm=>?_⟩
   refine ⟨off+(lo+m).toNat*t'.size,a1e k1 k3 (fun G=>by simp only [w9,w4]),by rw [show (lo+m).toNat=lo.toNat+m.toNat from by omega,Nat.add_mul]; omega,R6 k1 h2 ⟨⟨by omega,by omega⟩,J1⟩⟩

theorem b3C {H:Array Go.Obj} {o:Bool} {t:Ty} {O:List Nat} {cs:List Value} {l:(Ty.d0 o t).den} (hR:f7 H S (.d0 o t) O cs l) {L:Nat→Prop} (hO:∀ c∈O,L c) (hS:∀ c,S c→L c) :
  ∃ A c,j7 (.d0 o t) cs=.slice A (List.length l) c∧b5Z H S t l A L:=by
 rcases hR with ⟨_,⟨a,c,rfl,_⟩,hn⟩|⟨b1,o1,cap',O',rfl,c2,c3,c4,c5,c6⟩
 ·have:List.length l=0:=by rw [hn]; rfl
  exact ⟨a,c,by rw [this]; rfl,.inl hn⟩
 ·refine ⟨_,_,rfl,.inr ⟨b1,o1,O',rfl,?_,c4,c5,?_⟩⟩
  ·cases o with
   | true=>exact hO b1 (by rw [c6.1]; simp)
   | false=>exact hS b1 c6.2.2
  ·cases o with
   | true=>intro c hc; exact hO c (by rw [c6.1]; simp [hc])
   | false=>intro c hc; rw [c6.2.1] at hc; cases hc

theorem a5z (h:HS B S ι s.hp w) {v:AV} {val:Value} (hv:VX w.heap S ι s.hp v [val]) {t:Ty} {l:List t.den} (hw:v.els s=some ⟨t,l⟩):∃ A c,val=.slice A l.length c∧b5Z w.heap S t l A (LB S ι s.hp):=by
 unfold AV.els at hw
 split at hw
 ·rename_i o t' l'
  simp only [Option.some.injEq,Sigma.mk.injEq] at hw
  obtain ⟨rfl,hw⟩:=hw
  have hw:=eq_of_heq hw
  subst hw
  obtain ⟨cs,e,hR⟩:=hv
  have e:val=j7 (.d0 o t') cs:=by simpa using e
  obtain ⟨A,c,k1,k2⟩:=b3C hR (L:=LB S ι s.hp) (by simp) (fun c hc=>.inl hc)
  exact ⟨A,c,e.trans k1,k2⟩
 ·rename_i i p
  split at hw
  ·rename_i o t' l' hp
   simp only [Option.some.injEq,Sigma.mk.injEq] at hw
   obtain ⟨rfl,hw⟩:=hw
   have hw:=eq_of_heq hw
   subst hw
   obtain ⟨e,u,y,cs,h1,h2,h3,h4,h5⟩:=hv
   have hg:=F8 h1 hp
   rw [h3] at hg; cases hg
   have h5:val=j7 (.d0 o t') cs:=by simpa using h5
   obtain ⟨O2,m1,m2,m3⟩:=E4 h h1 h2 h3 h4
   obtain ⟨A,c,k1,k2⟩:=b3C m3 (L:=LB S ι s.hp) (fun c hc=>.inr ⟨i,e,h1,D5 (m1 c hc)⟩) (fun c hc=>.inl hc)
   exact ⟨A,c,h5.trans k1,k2⟩
  ·cases hw
 ·obtain ⟨A,c,k1,k2,_⟩:=a5p h hv hw
  exact ⟨A,c,k1,k2⟩
 ·cases hw

theorem a5n {t:Ty} {y:Option t.den} {val:Value} (hv:VX w.heap S ι s.hp (.val (.box false none t) y) [val]) (hy:y.isSome=true):VX w.heap S ι s.hp (.D9 t (y.getD t.p9)) [val]:=by
 obtain ⟨cs,e,hR⟩:=hv
 rcases hR with ⟨rfl,_⟩|⟨z,b,off,O',rfl,rfl,h2,h3,_,rfl,h4⟩
 ·cases hy
 ·exact ⟨b,off,by simpa [j7,Ty.agg,a29] using e,h4,h2,h3⟩

theorem a54 {f:Nat} {t:Ty} {y:Option t.den} {val:Value} (hv:VX w.heap S ι s.hp (.val (.box false (some f) t) y) [val]) (hy:y.isSome=true):∃ p,val=.func (.func f) #[] #[p]∧VX w.heap S ι s.hp (.D9 t (y.getD t.p9)) [p]:=by
 obtain ⟨cs,e,hR⟩:=hv
 rcases hR with ⟨rfl,_⟩|⟨z,b,off,O',rfl,rfl,h2,h3,_,rfl,h4⟩
 ·cases hy
 ·exact ⟨_,by simpa [j7,Ty.agg,a29] using e,b,off,rfl,h4,h2,h3⟩

theorem a7o (hE:y9 E B) (h:RS B S ι s a w) {o:Oper} {T:TypeId} {x:Operand} {n:Nat} (ho:o.op=.fieldAddr T x n):C6 E.P B o a w (l7 E o s):=by
 have he:execOp a.eval o=(do pure (.value (← Instr.fieldAt T (a.eval x) n))):=by simp [execOp,ho]
 unfold l7
 rw [ho]
 simp only
 split
 ·rename_i i p hx
  split
  ·rename_i u z hpt
   split
   ·rename_i r hc hg2
    obtain ⟨e,b,off,h1,h2,h3,h4⟩:=x6 h hx
    have hg:=F8 h1 hpt
    have h4:a.eval x=.pointer (some ⟨b,off,none⟩):=by simpa using h4
    obtain ⟨u2,z2⟩:=r
    exact G5 he h (by rw [h4]; exact X6 (B2 hE hc) hg2 b off) ⟨e,b,off+K8 u n,h1,R6 hg h2 (a1M hg2),a1e hg h3 (fun G=>a0R hg2),rfl⟩
   ·trivial
  ·trivial
 ·rename_i t y hx
  split
  ·rename_i u z hc hg
   obtain ⟨b,off,e,h1,h2,h3⟩:=x6 h hx
   have e:a.eval x=.pointer (some ⟨b,off,none⟩):=by simpa using e
   have hok:=a1M hg
   obtain ⟨O1,O2,b',off',e1,e2,e3,e4,e5,e6⟩:=focus h3 h2 hok hg
   have hO:O1=[]∧O2=[]:=by have:=e1.nil_eq; simpa using this.symm
   rw [a0R hg] at e3; cases e3
   refine G5 he h (by rw [e]; exact X6 (B2 hE hc) hg b off) ⟨b,off+K8 t n,rfl,h1,e5,?_⟩
   rw [hO.2] at e4; exact e4
  ·trivial
 ·rename_i t y hx
  split
  ·rename_i u z hc hg
   intro hy
   obtain ⟨b,off,e,h1,h2,h3⟩:=a5n (x6 h hx) hy
   have e:a.eval x=.pointer (some ⟨b,off,none⟩):=by simpa using e
   have hok:=a1M hg
   obtain ⟨O1,O2,b',off',e1,e2,e3,e4,e5,e6⟩:=focus h3 h2 hok hg
   have hO:O1=[]∧O2=[]:=by have:=e1.nil_eq; simpa using this.symm
   rw [a0R hg] at e3; cases e3
   refine G5 he h (by rw [e]; exact X6 (B2 hE hc) hg b off) ⟨b,off+K8 t n,rfl,h1,e5,?_⟩
   rw [hO.2] at e4; exact e4
  ·trivial
 ·trivial

theorem a7j (hE:y9 E B) (h:RS B S ι s a w) {o:Oper} {T:TypeId} {x y:Operand} (ho:o.op=.indexAddr T x y):C6 E.P B o a w (l7 E o s):=by
 have he:execOp a.eval o=(do pure (.value (← Instr.indexAt T (a.eval x) (a.eval y)))):=by simp [execOp,ho]
 unfold l7
 rw [ho]
 simp only
 split
 ·rename_i d p k n hx hy
  split
  ·rename_i m u z hpt
   split
   ·rename_i hc
    intro hn
    obtain ⟨e,b,off,h1,h2,h3,h4⟩:=x6 h hx
    have hg:=F8 h1 hpt
    have h4:a.eval x=.pointer (some ⟨b,off,none⟩):=by simpa using h4
    obtain ⟨hyv,_⟩:=VX.E6 (x6 h hy)
    exact G5 he h (by rw [h4,hyv]; exact X9 (B2 hE hc) b off hn) ⟨e,b,off+n.toNat*u.size,h1,R6 hg h2 ⟨hn,J1⟩,a1e hg h3 (fun G=>by simp only [w9,w4]),rfl⟩
   ·trivial
  ·trivial
 ·rename_i m t z k n hx hy
  split
  ·rename_i hc
   intro hn
   obtain ⟨b,off,e,h1,h2,h3⟩:=x6 h hx
   have e:a.eval x=.pointer (some ⟨b,off,none⟩):=by simpa using e
   obtain ⟨hyv,_⟩:=VX.E6 (x6 h hy)
   have hok:u6 (.arr m t) z [.idx n]:=⟨hn,by cases t<;>trivial⟩
   have hg:i8 (.arr m t) z [.idx n]=some ⟨t,List.getD z (Int.toNat n) t.p9⟩:=by simp only [i8]
   obtain ⟨O1,O2,b',off',e1,e2,e3,e4,e5,e6⟩:=focus h3 h2 hok hg
   have hO:O1=[]∧O2=[]:=by have:=e1.nil_eq; simpa using this.symm
   have e3':w9 w.heap (.arr m t) [.idx n] b off=some (b,off+Int.toNat n*t.size):=by simp only [w9]
   rw [e3'] at e3; cases e3
   refine G5 he h (by rw [e,hyv]; exact X9 (B2 hE hc) b off hn) ⟨b,off+Int.toNat n*t.size,rfl,h1,e5,?_⟩
   rw [hO.2] at e4; exact e4
  ·trivial
 ·rename_i t z k n hx hy
  split
  ·rename_i hc
   intro hn
   obtain ⟨cs,e,hR⟩:=x6 h hx
   have e:a.eval x=j7 (.d0 false t) cs:=by simpa using e
   obtain ⟨hyv,_⟩:=VX.E6 (x6 h hy)
   rcases hR with ⟨_,_,hz⟩|⟨b1,o1,cap,O',c1,c2,c3,c4,c5,c6,c7,c8⟩
   ·subst hz; exact (a7a hn).elim
   ·have hxv:a.eval x=.slice (some ⟨b1,o1,none⟩) (List.length z) cap:=by rw [e,c1]; rfl
    obtain ⟨b1',b2,b3,b4⟩:=B7 (sz:=t.size) hn
    obtain ⟨P1,P2,P3,e1,g1,g2,g3⟩:=i7.split (d:=t.p9) (i:=Int.toNat n) b1' c5
    have hle:t.size≤List.length z*t.size - Int.toNat n*t.size:=by omega
    rw [n9,m0 _ _ _ _ hle] at g2
    have hP:P2=[]:=by rw [c7] at e1; have:=List.append_eq_nil_iff.1 e1.symm; exact (List.append_eq_nil_iff.1 this.2).1
    refine G5 he h (by rw [hxv,hyv]; exact L8 (B2 hE hc) b1 o1 _ cap hn) ⟨b1,o1+Int.toNat n*t.size,rfl,c8,by omega,?_⟩
    rw [hP] at g2; exact g2
  ·trivial
 ·rename_i d p k n hx hy
  split
  ·rename_i u z hpt
   split
   ·rename_i hc
    intro hn
    obtain ⟨e,u',y',cs,h1,h2,h3,h4,h5⟩:=x6 h hx
    have hg:=F8 h1 hpt
    rw [h3] at hg; cases hg
    obtain ⟨hyv,_⟩:=VX.E6 (x6 h hy)
    have h5:a.eval x=j7 (.d0 true u) cs:=by simpa using h5
    obtain ⟨O2,m1,m2,m3⟩:=E4 h.hs h1 h2 h3 h4
    rcases m3 with ⟨_,_,hz⟩|⟨b1,o1,cap,O',rfl,c2,c3,c4,c5,c6,c7⟩
    ·subst hz; exact (a7a hn).elim
    ·have hxv:a.eval x=.slice (some ⟨b1,o1,none⟩) (List.length z) cap:=h5
     obtain ⟨b0,off0,q1,q2⟩:=h4
     have hh:=(K2 b0 off0 _).1 q2.symm
     refine G5 he h (by rw [hxv,hyv]; exact L8 (B2 hE hc) b1 o1 _ cap hn) ⟨e,b1,o1+n.toNat*u.size,h1,R6 h3 h2 ⟨hn,J1⟩,P4 (W1 h3 q1 ?_) c7.free.lt,rfl⟩
     simp only [w9,hh,w4]
   ·trivial
  ·trivial
 ·rename_i d p lo hi k n hx hy
  split
  ·rename_i u l hvw
   split
   ·rename_i hc
    intro hn
    have hn1:@LE.le Int Int.instLEInt 0 n:=hn.1
    have hn2:@LT.lt Int Int.instLTInt n (hi - lo):=hn.2
    obtain ⟨A,c,k1,k2,k3,k4,k5,e,k6,k7,k8⟩:=a5p h.hs (x6 h hx) hvw
    obtain ⟨hyv,_⟩:=VX.E6 (x6 h hy)
    have hz:l≠[]:=by rintro rfl; have k3:((0:Nat):Int)=hi - lo:=k3; omega
    obtain ⟨b,off,rfl,k9⟩:=k8 hz
    obtain ⟨off2,q1,rfl,q3⟩:=k9 n hn.1 (by omega)
    exact G5 he h (by rw [k1,hyv]; exact L8 (B2 hE hc) b off _ c (by omega)) ⟨e,b,_,k6,q3,q1,rfl⟩
   ·trivial
  ·trivial
 ·trivial

theorem b9O:∀ {t:Ty} {x:t.den} {n:Nat} {u:Ty} {z:u.den} {cs:List Value},f7 H S t [] cs x→i8 t x [.j6 n]=some ⟨u,z⟩→f7 H S u [] ((cs.drop (K8 t n)).take u.size) z∧t.agg=true:=by
 intro t
 induction t with
 | pair a c _ ihc =>
  intro x n u z cs hR h
  obtain ⟨O1,O2,e,h1,h2⟩:=hR
  have e1:O1=[]∧O2=[]:=by simpa using e.symm
  rw [e1.1] at h1; rw [e1.2] at h2
  refine ⟨?_,rfl⟩
  match n,h with
  | 0,h =>
   have h:some (⟨a,x.1⟩:Sigma Ty.den)=some ⟨u,z⟩:=by rw [← h]; simp only [i8]
   cases h
   simpa [K8] using h1
  | n+1,h =>
   have:=(ihc (x:=x.2) h2 h).1
   simpa [K8,List.drop_drop,Nat.add_comm] using this
 | d0 o t _=>intro x n u z cs _ h; cases o<;>simp [i8] at h
 | _=>intro x n u z cs _ h; simp [i8] at h

theorem b7X:∀ {t:Ty} {x:t.den} {n:Nat} {u:Ty} {z:u.den} {O:List Nat} {cs:List Value},f7 H S t O cs x→i8 t x [.j6 n]=some ⟨u,z⟩→∃ O2,(∀ c∈O2,c∈O)∧f7 H S u O2 ((cs.drop (K8 t n)).take u.size) z∧t.agg=true:=by
 intro t
 induction t with
 | pair a c _ ihc =>
  intro x n u z O cs hR h
  obtain ⟨O1,O2,rfl,h1,h2⟩:=hR
  match n,h with
  | 0,h =>
   have h:some (⟨a,x.1⟩:Sigma Ty.den)=some ⟨u,z⟩:=by rw [← h]; simp only [i8]
   cases h
   exact ⟨O1,fun c hc=>by simp [hc],by simpa [K8] using h1,rfl⟩
  | n+1,h =>
   obtain ⟨O3,k1,k2,_⟩:=ihc (x:=x.2) h2 h
   exact ⟨O3,fun c hc=>by simp [k1 c hc],by simpa [K8,List.drop_drop,Nat.add_comm] using k2,rfl⟩
 | d0 o t _=>intro x n u z O cs _ h; cases o<;>simp [i8] at h
 | _=>intro x n u z O cs _ h; simp [i8] at h

theorem b9X:∀ {t:Ty} {x:t.den} {n:Nat} {u:Ty} {z:u.den},i8 t x [.j6 n]=some ⟨u,z⟩→K8 t n+u.size≤t.size:=by
 intro t
 induction t with
 | pair a c _ ihc =>
  intro x n u z h
  match n,h with
  | 0,h =>
   have h:some (⟨a,x.1⟩:Sigma Ty.den)=some ⟨u,z⟩:=by rw [← h]; simp only [i8]
   cases h
   simp [K8,Ty.size]
  | n+1,h =>
   have:=ihc (x:=x.2) h
   simp only [K8,Ty.size]; omega
 | d0 o t _=>intro x n u z h; cases o<;>simp [i8] at h
 | _=>intro x n u z h; simp [i8] at h

theorem a5R:∀ {t:Ty} {x:t.den} {p q:List Step} {u:Ty} {y:u.den} {r:Sigma Ty.den},i8 t x p=some ⟨u,y⟩→i8 u y q=some r→i8 t x (p++q)=some r:=by
 intro t
 induction t with
 | pair a c iha ihc =>
  intro x p q u y r h1 h2
  match p,h1 with
  | [],h1=>simp only [i8,Option.some.injEq] at h1; cases h1; exact h2
  | .j6 0::p,h1=>exact iha h1 h2
  | .j6 (n+1)::p,h1=>exact ihc (p:=.j6 n::p) h1 h2
  | .idx i::p,h1=>simp [i8] at h1
 | arr n t ih =>
  intro x p q u y r h1 h2
  match p,h1 with
  | [],h1=>simp only [i8,Option.some.injEq] at h1; cases h1; exact h2
  | .idx i::p,h1=>exact ih h1 h2
  | .j6 i::p,h1=>simp [i8] at h1
 | d0 o t ih =>
  intro x p q u y r h1 h2
  match p,h1 with
  | [],h1=>rw [y7] at h1; cases h1; exact h2
  | .idx i::p,h1=>cases o with
   | true=>exact ih h1 h2
   | false=>simp [i8] at h1
  | .j6 i::p,h1=>cases o<;>simp [i8] at h1
 | _ =>
  intro x p q u y r h1 h2
  match p,h1 with
  | [],h1=>simp only [i8,Option.some.injEq] at h1; cases h1; exact h2
  | .idx i::p,h1=>simp [i8] at h1
  | .j6 i::p,h1=>simp [i8] at h1

theorem W5 {P:Program} {k:Nat} {T:TypeId} {u:Ty} {cs:List Value} {off:Nat} {z:u.den} {O:List Nat} (h:p8 P k T u=true) (hR:f7 H S u O ((cs.drop off).take u.size) z) :
  (part T cs.toArray off).run P w=.ok (j7 u ((cs.drop off).take u.size)) w:=by
 have hl:=hR.length
 simp only [part,Sem.run_bind,a2I h,Result.andThen]
 cases hg:u.agg with
 | true =>
  simp only [if_true,Sem.run_bind,run_sizeOf h,Result.andThen]
  simp [j7,hg]
 | false =>
  have h1:u.size=1:=by cases u<;>simp_all [Ty.agg,Ty.size]
  rw [h1] at hl ⊢
  match hc:(cs.drop off).take 1,hl with
  | [c],_ =>
   have:cs[off]?=some c:=by
    have:((cs.drop off).take 1)[0]?=some c:=by rw [hc]; rfl
    simpa using this
   simp [this,j7,hg]

theorem b4o (h:RS B S ι s a w) {o:Oper} {op:UnOp} {T:TypeId} {x:Operand} {P:Program} (ho:o.op=.unOp op T x):C6 P B o a w (unA op (s.ev x) s):=by
 have he:execOp a.eval o=(do pure (.value (← Op.unary op (a.eval x)))):=by simp [execOp,ho]
 unfold unA
 split
 ·rename_i b hx
  have:=VX.a1v (x6 h hx)
  exact G5 he h (by rw [this]; rfl) VX.bool
 ·rename_i k n hx
  obtain ⟨hv,_⟩:=VX.E6 (x6 h hx)
  exact a1E (by rw [H5 he (w':=w) (val:=.int k (k.wrap (0 - n)))]; rw [hv]; rfl) h
 ·rename_i k n hx
  obtain ⟨hv,_⟩:=VX.E6 (x6 h hx)
  refine G5 he h (val:=.int k (b1w k (if k.signed then -1 else k.max) n)) (by rw [hv]; rfl) (VX.int (Z5 _ _))
 ·trivial

theorem b2T (hE:y9 E B) (h:RS B S ι s a w) {o:Oper} {T:TypeId} {x:Operand} {n:Nat} (ho:o.op=.field T x n):C6 E.P B o a w (l7 E o s):=by
 have he:execOp a.eval o=(do pure (.value (← Instr.field T (a.eval x) n))):=by simp [execOp,ho]
 unfold l7
 rw [ho]
 simp only
 split
 ·rename_i t y hx
  split
  ·rename_i u z hc hg
   obtain ⟨cs,e,hR⟩:=x6 h hx
   have e:a.eval x=j7 t cs:=by simpa using e
   obtain ⟨fs,f,k',h1,h2,h3,h4,h5⟩:=a2X (B2 hE hc) hg
   obtain ⟨hR2,hag⟩:=b9O hR hg
   have:a.eval x=.agg cs.toArray:=by rw [e,j7,hag]; rfl
   refine G5 he h (val:=j7 u ((cs.drop (K8 t n)).take u.size)) ?_ ⟨_,rfl,hR2⟩
   rw [this]
   have:=W5 (w:=w) h5 hR2
   simp [Instr.field,q8 h1,h2,asAgg,h3,this]
  ·trivial
 ·rename_i i p hx
  split
  ·rename_i t y hpt
   split
   ·rename_i u z hc hg
    obtain ⟨e,t',y',cs,h1,h2,h3,h4,h5⟩:=x6 h hx
    have hgp:=F8 h1 hpt
    rw [h3] at hgp; cases hgp
    have h5:a.eval x=j7 t cs:=by simpa using h5
    obtain ⟨fs,f,k',q1,q2,q3,q4,q5⟩:=a2X (B2 hE hc) hg
    obtain ⟨O2,m1,m2,m3⟩:=E4 h.hs h1 h2 h3 h4
    obtain ⟨O3,m4,hR2,hag⟩:=b7X m3 hg
    have hxv:a.eval x=.agg cs.toArray:=by rw [h5,j7,hag]; rfl
    have hrun:=W5 (w:=w) q5 hR2
    have hr:(Instr.field T (a.eval x) n).run E.P w=.ok (j7 u ((cs.drop (K8 t n)).take u.size)) w:=by
     rw [hxv]
     simp [Instr.field,q8 q1,q2,asAgg,q3,hrun]
    split
    ·rename_i hs
     have:=hR2.H7 hs
     subst this
     exact G5 he h hr ⟨_,rfl,hR2⟩
    ·refine G5 he h hr ⟨e,u,z,_,h1,R6 h3 h2 (a1M hg),a5R h3 hg,?_,rfl⟩
     obtain ⟨b0,off0,g1,rfl⟩:=h4
     refine ⟨b0,off0+K8 t n,W1 h3 g1 (a0R hg),?_⟩
     have:=m3.length
     have hle:=b9X hg
     rw [n9,m0 _ _ _ _ (by omega)]
   ·trivial
  ·trivial
 ·trivial

end
end Go.Ex

namespace Go.Ex

section
variable {E:Env} {B:C4} {S S':Nat→Prop} {ι:Ix} {s:St} {a:Act} {w:World} {hp:List (Nat×i6)} {H H':Array Go.Obj}

theorem Ty.a5q (t:Ty):t.sh.sh=t.sh:=by
 induction t with
 | pair a b iha ihb=>simp only [Ty.sh,iha,ihb]
 | arr n t ih=>simp only [Ty.sh,ih]
 | d0 o t ih=>simp only [Ty.sh,ih]
 | hole t ih=>simp only [Ty.sh,ih]
 | r7 t ih=>simp only [Ty.sh,ih]
 | box o g t ih=>simp only [Ty.sh,ih]
 | _=>rfl

theorem a89 {A A' C C':Type} (ha:A=A') (hc:C=C') (h:(A×C)=(A'×C')) (x:A×C):cast h x=(cast ha x.1,cast hc x.2):=by subst ha; subst hc; rfl
theorem Z3 {A A':Type} (ha:A=A') (h:List A=List A') (l:List A):cast h l=l.map (cast ha):=by
 subst ha
 show l=List.map (fun x=>x) l
 simp

theorem b8s {A A':Type} (ha:A=A') (h:Option A=Option A') (x:Option A):cast h x=x.map (cast ha):=by
 subst ha
 show x=Option.map (fun x=>x) x
 simp

theorem i7.map {α β:Type} {R:List Nat→List Value→α→Prop} {R':List Nat→List Value→β→Prop} {sz:Nat} {f:α→β} {L:List Nat} (hr:∀ O cs x,(∀ b∈O,b∈L)→R O cs x→R' [] cs (f x)) :
  ∀ {l:List α} {O:List Nat} {cs:List Value},(∀ b∈O,b∈L)→i7 R sz O cs l→i7 R' sz [] cs (l.map f)
 | [],_,_,_,⟨_,h⟩=>⟨rfl,h⟩
 | _::_,_,_,hO,⟨O1,O2,e,h1,h2⟩=>by
  subst e
  exact ⟨[],[],rfl,hr _ _ _ (fun b hb=>hO b (by simp [hb])) h1,i7.map hr (fun b hb=>hO b (by simp [hb])) h2⟩

theorem f7.a1g:∀ {u:Ty} {O:List Nat} {cs:List Value} {y:u.den},f7 H S u O cs y→(∀ b∈O,S' b)→(∀ b,S b→S' b)→u.P7=true→f7 H S' u.sh [] cs (cast (C8 u).symm y):=by
 intro u
 induction u with
 | int k=>intro O cs y h _ _ _; exact ⟨rfl,h.2⟩
 | bool=>intro O cs y h _ _ _; exact ⟨rfl,h.2⟩
 | str=>intro O cs y h _ _ _; exact ⟨rfl,h.2⟩
 | unit=>intro O cs y h _ _ _; exact ⟨rfl,h.2⟩
 | fn f=>intro O cs y h _ _ _; exact ⟨rfl,h.2⟩
 | map o k v =>
  rintro O cs y h hO hS hn
  show f7 H S' (.map false k v) [] cs y
  rcases h with h|⟨l,b,es,ck,h0,h2,h3,h4,h5⟩
  ·exact .inl ⟨h.1,rfl,h.2.2⟩
  have hb:S' b:=by
   cases o with
   | true=>exact hO b (by rw [h5]; simp)
   | false=>exact hS b h5.2
  exact .inr ⟨l,b,es,ck,h0,h2,h3,h4.mono (fun _ _ h=>h.q9 (fun _ _=>rfl) hS) (fun _ _ h=>h.q9 (fun _ _=>rfl) hS),rfl,hb⟩
 | box o g t ih =>
  rintro O cs y h hO hS hn
  have e:=b8s (C8 t).symm (C8 (.box o g t)).symm y
  refine Eq.subst (motive:=fun z=>f7 H S' (.box false g t.sh) [] cs z) e.symm ?_
  rcases h with ⟨rfl,_,h⟩|⟨z,b,off,O',rfl,h1,h2,h3,h4⟩
  ·exact .inl ⟨rfl,rfl,h⟩
  have hb:S' b:=by
   cases o with
   | true=>exact hO b (by rw [h4.1]; simp)
   | false=>exact hS b h4.2.2
  have hO':∀ c∈O',S' c:=by
   intro c hc
   cases o with
   | true=>exact hO c (by rw [h4.1]; simp [hc])
   | false=>rw [h4.2.1] at hc; cases hc
  exact .inr ⟨_,b,off,[],rfl,h1,by rw [K6]; exact h2,by rw [K6]; exact ih h3 hO' hS hn,rfl,rfl,hb⟩
 | pair a c iha ihc =>
  rintro O cs y ⟨O1,O2,rfl,h1,h2⟩ hO hS hn
  simp only [Ty.P7,Bool.and_eq_true] at hn
  have e:=a89 (C8 a).symm (C8 c).symm (C8 (.pair a c)).symm y
  refine Eq.subst (motive:=fun z=>f7 H S' (.pair a.sh c.sh) [] cs z) e.symm ?_
  exact ⟨[],[],rfl,by rw [K6]; exact iha h1 (fun b hb=>hO b (by simp [hb])) hS hn.1,by rw [K6]; exact ihc h2 (fun b hb=>hO b (by simp [hb])) hS hn.2⟩
 | arr n t ih =>
  rintro O cs y ⟨h1,h2⟩ hO hS hn
  have e:=Z3 (C8 t).symm (C8 (.arr n t)).symm y
  refine Eq.subst (motive:=fun z=>f7 H S' (.arr n t.sh) [] cs z) e.symm ?_
  refine ⟨by rw [List.length_map]; exact h1,?_⟩
  rw [K6]
  exact i7.map (L:=O) (fun O1 cs x hL hr=>ih hr (fun b hb=>hO b (hL b hb)) hS hn) (fun _ h=>h) h2
 | d0 o t ih =>
  rintro O cs y h hO hS hn
  have e:=Z3 (C8 t).symm (C8 (.d0 o t)).symm y
  refine Eq.subst (motive:=fun z=>f7 H S' (.d0 false t.sh) [] cs z) e.symm ?_
  rcases h with ⟨_,⟨a,c,h2,h2'⟩,h3⟩|⟨b,off,cap,O',c1,c2,c3,c4,c5,c6⟩
  ·subst h3; exact .inl ⟨rfl,⟨a,c,h2,fun h=>by cases h⟩,rfl⟩
  ·have hb:S' b:=by
    cases o with
    | true=>exact hO b (by rw [c6.1]; simp)
    | false=>exact hS b c6.2.2
   have hO':∀ c∈O',c∈O:=by
    intro c hc
    cases o with
    | true=>rw [c6.1]; simp [hc]
    | false=>rw [c6.2.1] at hc; cases hc
   refine .inr ⟨b,off,cap,[],by rw [List.length_map]; exact c1,by rw [List.length_map]; exact c2,⟨c3.1,fun h=>by cases h⟩,by rw [List.length_map,K6]; exact c4,?_,rfl,rfl,hb⟩
   rw [List.length_map,K6]
   exact i7.map (L:=O) (fun O1 cs x hL hr=>ih hr (fun b hb=>hO b (hL b hb)) hS hn) hO' c5
 | hole t ih=>intro O cs y _ _ _ hn; cases hn
 | r7 t ih=>intro O cs y _ _ _ hn; cases hn

theorem Ty.b6G (t:Ty):t.shH.sh=t.sh:=by
 induction t with
 | pair a b iha ihb=>simp only [Ty.shH,Ty.sh,iha,ihb]
 | arr n t ih=>simp only [Ty.shH,Ty.sh,Ty.a5q]
 | d0 o t ih=>simp only [Ty.shH,Ty.sh,Ty.a5q]
 | r7 t ih=>simp only [Ty.shH,Ty.sh,Ty.a5q]
 | box o g t ih=>simp only [Ty.shH,Ty.sh,Ty.a5q]
 | _=>rfl

theorem a59 (t:Ty):t.shH.size=t.size:=E5 (Ty.b6G t)

theorem f7.c1D:∀ {u:Ty} {O:List Nat} {cs:List Value} {y:u.den},f7 H S u O cs y→(∀ b∈O,S' b)→(∀ b,S b→S' b)→u.okH=true→f7 H S' u.shH [] cs (cast (a3t u).symm y):=by
 intro u
 induction u with
 | pair a c iha ihc =>
  rintro O cs y ⟨O1,O2,rfl,h1,h2⟩ hO hS hn
  simp only [Ty.okH,Bool.and_eq_true] at hn
  have e:=a89 (a3t a).symm (a3t c).symm (a3t (.pair a c)).symm y
  refine Eq.subst (motive:=fun z=>f7 H S' (.pair a.shH c.shH) [] cs z) e.symm ?_
  exact ⟨[],[],rfl,by rw [a59]; exact iha h1 (fun b hb=>hO b (by simp [hb])) hS hn.1,by rw [a59]; exact ihc h2 (fun b hb=>hO b (by simp [hb])) hS hn.2⟩
 | hole t ih=>intro O cs y h _ _ _; exact ⟨rfl,h.2⟩
 | r7 t ih=>intro O cs y h _ _ hn; cases hn
 | arr n t ih=>intro O cs y h hO hS hn; exact f7.a1g (u:=.arr n t) h hO hS hn
 | d0 o t ih=>intro O cs y h hO hS hn; exact f7.a1g (u:=.d0 o t) h hO hS hn
 | box o g t ih=>intro O cs y h hO hS hn; exact f7.a1g (u:=.box o g t) h hO hS hn
 | map o k v=>intro O cs y h hO hS hn; exact f7.a1g (u:=.map o k v) h hO hS hn
 | int k=>intro O cs y h _ _ _; exact ⟨rfl,h.2⟩
 | bool=>intro O cs y h _ _ _; exact ⟨rfl,h.2⟩
 | str=>intro O cs y h _ _ _; exact ⟨rfl,h.2⟩
 | unit=>intro O cs y h _ _ _; exact ⟨rfl,h.2⟩
 | fn f=>intro O cs y h _ _ _; exact ⟨rfl,h.2⟩

theorem i7.b76 {α β:Type} {R:List Nat→List Value→α→Prop} {R':List Nat→List Value→β→Prop} {sz:Nat} {f:α→β} (hr:∀ O cs x,R O cs x→R' O cs (f x)) :
  ∀ {l:List α} {O:List Nat} {cs:List Value},i7 R sz O cs l→i7 R' sz O cs (l.map f)
 | [],_,_,⟨h0,h⟩=>⟨h0,h⟩
 | _::_,_,_,⟨O1,O2,e,h1,h2⟩=>⟨O1,O2,e,hr _ _ _ h1,i7.b76 hr h2⟩

theorem W3:∀ {u t:Ty},a0B u t=true→t.size=u.size∧u.isB=t.isB:=by
 have base:∀ {u t:Ty},decide (u=t)=true→t.size=u.size∧u.isB=t.isB:=by
  intro u t h
  have e:=of_decide_eq_true h
  subst e
  exact ⟨rfl,rfl⟩
 intro u
 induction u with
 | pair a b iha ihb =>
  intro t h
  cases t with
  | pair c d =>
   have h:(a0B a c && a0B b d)=true:=h
   rw [Bool.and_eq_true] at h
   exact ⟨by simp only [Ty.size,(iha h.1).1,(ihb h.2).1],rfl⟩
  | _=>exact base h
 | arr n a ih =>
  intro t h
  cases t with
  | arr m b =>
   have h:(Nat.beq n m && a0B a b)=true:=h
   rw [Bool.and_eq_true] at h
   have e:=Nat.eq_of_beq_eq_true h.1
   subst e
   exact ⟨by simp only [Ty.size,(ih h.2).1],rfl⟩
  | _=>exact base h
 | d0 o a ih =>
  intro t h
  cases t with
  | d0 o2 b=>exact ⟨rfl,rfl⟩
  | r7 b=>exact ⟨rfl,rfl⟩
  | _=>cases o<;>exact base h
 | _=>intro t h; cases t<;>exact base h

theorem b93:∀ {u t:Ty} {y:u.den} {O:List Nat} {cs:List Value},a0B u t=true→f7 H S u O cs y→f7 H S t O cs (msV u t y):=by
 have base:∀ {u t:Ty} {y:u.den} {O:List Nat} {cs:List Value},decide (u=t)=true→f7 H S u O cs y→f7 H S t O cs (if h:u=t then h▸y else t.p9):=by
  intro u t y O cs h hR
  have e:=of_decide_eq_true h
  subst e
  rw [dif_pos rfl]
  exact hR
 intro u
 induction u with
 | pair a b iha ihb =>
  intro t y O cs h hR
  cases t with
  | pair c d =>
   have h:(a0B a c && a0B b d)=true:=h
   rw [Bool.and_eq_true] at h
   obtain ⟨P1,P2,rfl,r1,r2⟩:=hR
   exact ⟨P1,P2,rfl,by rw [(W3 h.1).1]; exact iha h.1 r1,by rw [(W3 h.1).1]; exact ihb h.2 r2⟩
  | _=>exact base h hR
 | arr n a ih =>
  intro t y O cs h hR
  cases t with
  | arr m b =>
   have h:(Nat.beq n m && a0B a b)=true:=h
   rw [Bool.and_eq_true] at h
   have e:=Nat.eq_of_beq_eq_true h.1
   subst e
   show f7 H S (.arr n b) O cs (if h:a=b then h▸y else List.map (msV a b) y)
   split
   ·rename_i e; subst e; exact hR
   ·obtain ⟨h1,h2⟩:=hR
    refine ⟨by rw [List.length_map]; exact h1,?_⟩
    rw [(W3 h.2).1]
    exact i7.b76 (fun _ _ _ q=>ih h.2 q) h2
  | _=>exact base h hR
 | d0 o a ih =>
  intro t y O cs h hR
  cases t with
  | d0 o2 b =>
   cases o with
   | false=>exact base h hR
   | true=>cases o2 with
    | false=>exact base h hR
    | true =>
     have h:a0B a b=true:=h
     show f7 H S (.d0 true b) O cs (if h:a=b then h▸y else List.map (msV a b) y)
     split
     ·rename_i e; subst e; exact hR
     ·have hR:f7 H S (.d0 true a) O cs y:=hR
      rcases hR with ⟨h1,h2,h3⟩|⟨c,off,cap,O',c1,c2,c3,c4,c5,c6,c7⟩
      ·have h3:y=[]:=h3
       rw [h3]; exact .inl ⟨h1,h2,rfl⟩
      ·refine .inr ⟨c,off,cap,O',by rw [List.length_map]; exact c1,by rw [List.length_map]; exact c2,c3,by rw [List.length_map,(W3 h).1]; exact c4,?_,c6,by rw [(W3 h).1,← (W3 h).2]; exact c7⟩
       rw [List.length_map,(W3 h).1]
       exact i7.b76 (fun _ _ _ q=>ih h q) c5
  | r7 b =>
   have e:a=b:=by cases o<;>exact of_decide_eq_true h
   subst e
   cases o with
   | false=>show f7 H S (.r7 a) O cs (if h:a=a then (0,h▸y,[]) else (0,[],[])); rw [dif_pos rfl]; exact hR
   | true=>show f7 H S (.r7 a) O cs (if h:a=a then (1,h▸y,[]) else (1,[],[])); rw [dif_pos rfl]; exact hR
  | _=>cases o<;>exact base h hR
 | _=>intro t y O cs h hR; cases t<;>exact base h hR

theorem b8l:∀ {u t:Ty} {y:u.den} {z:t.den} {O:List Nat} {cs:List Value},a4S u t y=some z→f7 H S u O cs y→∃ O1 D,O.Perm (O1++D)∧t.size=u.size∧∀ S':Nat→Prop,(∀ b,S b→S' b)→(∀ b∈D,S' b)→f7 H S' t O1 cs z:=by
 have base:∀ {u t:Ty} {y:u.den} {z:t.den} {O:List Nat} {cs:List Value},(if h:u=t then some (F7 h y) else if h:u.sh=t then (match u.P7 with
   | true=>some (cast ((C8 u).symm.trans (congrArg Ty.den h)) y)
   | false=>none) else (match a0B u t with
   | true=>some (msV u t y)
   | false=>none))=some z→f7 H S u O cs y→∃ O1 D,O.Perm (O1++D)∧t.size=u.size∧∀ S':Nat→Prop,(∀ b,S b→S' b)→(∀ b∈D,S' b)→f7 H S' t O1 cs z:=by
  intro u t y z O cs h hR
  split at h
  ·rename_i e
   subst e
   cases h
   exact ⟨O,[],by simp,rfl,fun S' hS _=>hR.q9 (fun _ _=>rfl) hS⟩
  ·split at h
   ·rename_i e
    subst e
    split at h
    ·rename_i hn
     cases h
     exact ⟨[],O,by simp,K6 u,fun S' hS hD=>hR.a1g hD hS hn⟩
    ·cases h
   ·split at h
    ·rename_i hm
     cases h
     exact ⟨O,[],by simp,(W3 hm).1,fun S' hS _=>(b93 hm hR).q9 (fun _ _=>rfl) hS⟩
    ·cases h
 intro u
 induction u with
 | pair a b iha ihb =>
  intro t y z O cs h hR
  cases t with
  | pair c d =>
   simp only [a4S] at h
   split at h
   ·rename_i x1 x2 h1 h2
    cases h
    obtain ⟨P1,P2,rfl,r1,r2⟩:=hR
    obtain ⟨A1,D1,e1,s1,k1⟩:=iha h1 r1
    obtain ⟨A2,D2,e2,s2,k2⟩:=ihb h2 r2
    refine ⟨A1++A2,D1++D2,?_,by simp only [Ty.size,s1,s2],fun S' hS hD=>⟨A1,A2,rfl,?_,?_⟩⟩
    ·refine (e1.append e2).trans ?_
     rw [List.append_assoc,List.append_assoc]
     refine List.Perm.append_left _ ?_
     rw [← List.append_assoc,← List.append_assoc]
     exact List.Perm.append_right _ List.perm_append_comm
    ·rw [s1]; exact k1 S' hS (fun b hb=>hD b (by simp [hb]))
    ·rw [s1]; exact k2 S' hS (fun b hb=>hD b (by simp [hb]))
   ·cases h
  | _=>exact base h hR
 | _=>intro t y z O cs h hR; cases t<;>exact base h hR

def b2C (ι:Ix) (hp:List (Nat×i6)) (i b:Nat):Prop:=∃ e,look i hp=some e∧b∈j8 ι i e

theorem b3z (h:HS B S ι s.hp w) {i:Nat} {p:List Step} {lo hi:Int} {v:Value} (hv:VX w.heap S ι s.hp (.sub i p lo hi) [v]) {t:Ty} {l:List t.den} (hw:s.view i p lo hi=some ⟨t,l⟩) :
  ∃ A c,v=j7 (.d0 false t.sh) [.slice A l.length c]∧(l=[]∨∃ b off O,A=some ⟨b,off,none⟩∧b2C ι s.hp i b∧off+l.length*t.size≤(r8 w.heap b).length∧i7 (f7 w.heap S t) t.size O (d8 w.heap b off (l.length*t.size)) l∧(∀ c∈O,b2C ι s.hp i c)∧(l.length≤c∧c≤maxLen)):=by
 obtain ⟨e,v',h1,h2,h3,h4,h5,h6⟩:=hv
 cases h3
 have hob:=h.ob i e h1
 unfold St.view at hw
 rcases h6 with ⟨t',l',a,cap,k1,k2,k3,c,A,k4,kA,k5,k6⟩|⟨n,t',l',b,off,k1,⟨k2,k2'⟩,k3,c,A,k4,kA,k5,k6⟩
 ·have hp:s.part i p=some ⟨.d0 true t',l'⟩:=by unfold St.part St.obj; rw [h1]; exact k1
  rw [hp] at hw
  simp only [Option.some.injEq,Sigma.mk.injEq] at hw
  obtain ⟨rfl,hw⟩:=hw
  have hw:=eq_of_heq hw
  subst hw
  have hlen:(B3 lo hi l').length=(hi - lo).toNat:=U9 h4 k2
  refine ⟨_,c,by rw [hlen]; exact k4,?_⟩
  by_cases hz:B3 lo hi l'=[]
  ·exact .inl hz
  ·obtain ⟨O2,m1,m2,m3⟩:=E4 h h1 h2 k1 k3
   rcases m3 with ⟨_,_,hn⟩|⟨b1,o1,cap',O',c1,c2,c3,c4,c5,rfl,c7⟩
   ·exfalso; apply hz; rw [hn]; simp [B3]
   ·simp only [List.cons.injEq,Value.slice.injEq,and_true] at c1
    obtain ⟨rfl,_,rfl⟩:=c1
    have hpos:0<(hi - lo).toNat:=by rw [← hlen]; exact List.length_pos_iff.2 hz
    obtain ⟨P1,P2,P3,e1,g⟩:=c5.cut lo.toNat (hi - lo).toNat
    have hle:lo.toNat*t'.size+(hi - lo).toNat*t'.size≤List.length l'*t'.size:=by rw [← Nat.add_mul]; exact Nat.mul_le_mul_right _ (by omega)
    rw [n9,m0 _ _ _ _ (by omega)] at g
    refine .inr ⟨b1,o1+lo.toNat*t'.size,P2,by rw [kA (by omega),Option.map_some,Addr.E8],⟨e,h1,D5 (m1 b1 (by simp))⟩,by rw [hlen]; omega,by rw [hlen]; exact g,fun c hc=>⟨e,h1,D5 (m1 c (by rw [e1]; simp [hc]))⟩,by rw [hlen]; exact k5,by have:=c3.1; omega⟩
 ·have hp:s.part i p=some ⟨.arr n t',l'⟩:=by unfold St.part St.obj; rw [h1]; exact k1
  rw [hp] at hw
  simp only [Option.some.injEq,Sigma.mk.injEq] at hw
  obtain ⟨rfl,hw⟩:=hw
  have hw:=eq_of_heq hw
  subst hw
  obtain ⟨O2,m1,m2,m3,m4,m5,m6⟩:=I5 (I2 k3) hob h.slt h2 k1 k3
  obtain ⟨hl,m3⟩:=m3
  have hlen:(B3 lo hi l').length=(hi - lo).toNat:=U9 h4 (by rw [hl]; exact k2)
  refine ⟨_,c,by rw [hlen]; exact k4,?_⟩
  by_cases hz:B3 lo hi l'=[]
  ·exact .inl hz
  ·have hpos:0<(hi - lo).toNat:=by rw [← hlen]; exact List.length_pos_iff.2 hz
   obtain ⟨P1,P2,P3,e1,g⟩:=m3.cut lo.toNat (hi - lo).toNat
   have hle:lo.toNat*t'.size+(hi - lo).toNat*t'.size≤n*t'.size:=by rw [← Nat.add_mul]; exact Nat.mul_le_mul_right _ (by omega)
   simp only [Ty.size] at g m4
   rw [n9,m0 _ _ _ _ (by omega)] at g
   exact .inr ⟨b,off+lo.toNat*t'.size,P2,by rw [kA (by omega),Option.map_some,Addr.E8],⟨e,h1,m5⟩,by rw [hlen]; omega,by rw [hlen]; exact g,fun c hc=>⟨e,h1,D5 (m1 c (by rw [e1]; simp [hc]))⟩,by rw [hlen]; exact k5,by omega⟩


theorem a1j:∀ t:Ty,t.rdT.size=t.size:=by
 intro t
 induction t with
 | pair a b iha ihb=>simp only [Ty.rdT,Ty.size,iha,ihb]
 | arr n t ih=>simp only [Ty.rdT,Ty.size,ih]
 | _=>rfl
theorem c0m (t:Ty):t.rdT.agg=t.agg:=by cases t<;>rfl

theorem a7V:∀ {u:Ty} {O:List Nat} {cs:List Value} {y:u.den},f7 H S u O cs y→(∀ b∈O,S' b)→(∀ b,S b→S' b)→u.okM=true→f7 H S' u.rdT [] cs (rdV u y):=by
 have d0:∀ {o:Bool} {u v:Ty} {f:u.den→v.den} {O:List Nat} {cs:List Value} {y:List u.den},v.size=u.size→(∀ {O:List Nat} {cs:List Value} {y:u.den},f7 H S u O cs y→(∀ b∈O,S' b)→f7 H S' v [] cs (f y)) →
   f7 H S (.d0 o u) O cs y→(∀ b∈O,S' b)→(∀ b,S b→S' b)→f7 H S' (.d0 false v) [] cs (y.map f):=by
  intro o u v f O cs y hsz ih h hO hS
  rcases h with ⟨_,⟨a,c,h2,h2'⟩,h3⟩|⟨b,off,cap,O',c1,c2,c3,c4,c5,c6⟩
  ·have h3:y=[]:=h3
   subst h3; exact .inl ⟨rfl,⟨a,c,h2,fun h=>by cases h⟩,rfl⟩
  ·have hb:S' b:=by
    cases o with
    | true=>exact hO b (by rw [c6.1]; simp)
    | false=>exact hS b c6.2.2
   have hO':∀ c∈O',c∈O:=by
    intro c hc
    cases o with
    | true=>rw [c6.1]; simp [hc]
    | false=>rw [c6.2.1] at hc; cases hc
   refine .inr ⟨b,off,cap,[],by rw [List.length_map]; exact c1,by rw [List.length_map]; exact c2,⟨c3.1,fun h=>by cases h⟩,by rw [List.length_map,hsz]; exact c4,?_,rfl,rfl,hb⟩
   rw [List.length_map,hsz]
   exact i7.map (L:=O) (fun O1 cs x hL hr=>ih hr (fun b hb=>hO b (hL b hb))) hO' c5
 intro u
 induction u with
 | int k=>intro O cs y h _ _ _; exact ⟨rfl,h.2⟩
 | bool=>intro O cs y h _ _ _; exact ⟨rfl,h.2⟩
 | str=>intro O cs y h _ _ _; exact ⟨rfl,h.2⟩
 | unit=>intro O cs y h _ _ _; exact ⟨rfl,h.2⟩
 | fn f=>intro O cs y h _ _ _; exact ⟨rfl,h.2⟩
 | map o k v=>intro O cs y h hO hS hn; exact f7.a1g (u:=.map o k v) h hO hS hn
 | box o g t=>intro O cs y h hO hS hn; exact f7.a1g (u:=.box o g t) h hO hS hn
 | hole t=>intro O cs y h hO hS hn; cases hn
 | pair a c iha ihc =>
  rintro O cs y ⟨O1,O2,rfl,h1,h2⟩ hO hS hn
  simp only [Ty.okM,Bool.and_eq_true] at hn
  exact ⟨[],[],rfl,by rw [a1j]; exact iha h1 (fun b hb=>hO b (by simp [hb])) hS hn.1,by rw [a1j]; exact ihc h2 (fun b hb=>hO b (by simp [hb])) hS hn.2⟩
 | arr n t ih =>
  rintro O cs y h hO hS hn
  by_cases hh:t.P7=true
  ·have:=f7.a1g (S':=S') (u:=.arr n t) h hO hS hh
   show f7 H S' (.arr n t.rdT) [] cs (if h:t.P7=true then cast (congrArg List (a0j h)) y else List.map (rdV t) y)
   rw [dif_pos hh]
   have e:=a7W t hh
   revert this
   generalize a0j hh=e2
   revert e2
   rw [e]
   intro e2 this
   exact this
  ·show f7 H S' (.arr n t.rdT) [] cs (if h:t.P7=true then cast (congrArg List (a0j h)) y else List.map (rdV t) y)
   rw [dif_neg hh]
   refine ⟨by rw [List.length_map]; exact h.1,?_⟩
   rw [a1j]
   exact i7.map (L:=O) (fun O1 cs x hL hr=>ih hr (fun b hb=>hO b (hL b hb)) hS hn) (fun _ h=>h) h.2
 | d0 o t ih =>
  rintro O cs y h hO hS hn
  by_cases hh:t.P7=true
  ·have:=f7.a1g (S':=S') (u:=.d0 o t) h hO hS hh
   show f7 H S' (.d0 false t.rdT) [] cs (if h:t.P7=true then cast (congrArg List (a0j h)) y else List.map (rdV t) y)
   rw [dif_pos hh]
   have e:=a7W t hh
   revert this
   generalize a0j hh=e2
   revert e2
   rw [e]
   intro e2 this
   exact this
  ·show f7 H S' (.d0 false t.rdT) [] cs (if h:t.P7=true then cast (congrArg List (a0j h)) y else List.map (rdV t) y)
   rw [dif_neg hh]
   exact d0 (a1j t) (fun hr hO=>ih hr hO hS hn) h hO hS
 | r7 t ih =>
  rintro O cs ⟨n,l,m⟩ h hO hS hn
  show f7 H S' (.d0 false t.sh) [] cs (cast (congrArg List (C8 t).symm) l)
  rw [Z3 (C8 t).symm]
  have ih:∀ {O:List Nat} {cs:List Value} {y:t.den},f7 H S t O cs y→(∀ b∈O,S' b)→f7 H S' t.sh [] cs (cast (C8 t).symm y):=fun hr hO=>hr.a1g hO hS hn
  match n,h with
  | 0,h=>exact d0 (o:=false) (K6 t) ih h hO hS
  | 1,h=>exact d0 (o:=true) (K6 t) ih h hO hS
  | n+2,⟨b,off,O',c1,c2,c3,c4,c5⟩ =>
   have hb:S' b:=by
    cases n with
    | zero=>exact hO b (by rw [c5.1]; simp)
    | succ n=>exact hS b c5.2.2
   have hO':∀ c∈O',c∈O:=by
    intro c hc
    cases n with
    | zero=>rw [c5.1]; simp [hc]
    | succ n=>rw [c5.2.1] at hc; cases hc
   rw [List.length_append,Nat.add_mul] at c3 c4
   obtain ⟨P1,P2,P3,e1,g⟩:=c4.cut 0 l.length
   simp only [Nat.zero_mul,List.drop_zero,List.take_left'] at g
   refine .inr ⟨b,off,List.length l+List.length m,[],by rw [List.length_map]; exact c1,by rw [List.length_map]; omega,⟨c2.1,fun h=>by cases h⟩,by rw [List.length_map,K6]; omega,?_,rfl,rfl,hb⟩
   rw [List.length_map,K6]
   have g2:i7 (f7 H S t) t.size P2 (d8 H b off (l.length*t.size)) l:=by
    rw [m0 _ _ _ _ (by omega)] at g
    exact g
   exact i7.map (L:=O) (fun O1 cs x hL hr=>ih hr (fun b hb=>hO b (hL b hb))) (fun c hc=>hO' c (by rw [e1]; simp [hc])) g2

theorem b9R {a t:Ty} {y:(Ty.r7 a).den} {x:t.den} (h:rdS a t y=some x):t.size=1∧t.agg=false∧∀ {O:List Nat} {cs:List Value},f7 H S (.r7 a) O cs y→(∀ b∈O,S' b)→(∀ b,S b→S' b)→f7 H S' t [] cs x:=by
 unfold rdS at h
 split at h
 ·rename_i b
  split at h
  ·rename_i e
   subst e
   split at h
   ·rename_i hn
    obtain ⟨n,l,m⟩:=y
    cases h
    refine ⟨rfl,rfl,fun {O cs} hR hO hS=>?_⟩
    show f7 H S' (.r7 a.sh) [] cs (shF n,cast (congrArg List (C8 a).symm) l,cast (congrArg List (C8 a).symm) m)
    have h0:=a7V (S':=S') hR hO hS hn
    match n,hR with
    | 0,hR=>exact h0
    | 1,hR=>exact h0
    | n+2,⟨b,off,O',c1,c2,c3,c4,c5⟩ =>
     have hb:S' b:=by
      cases n with
      | zero=>exact hO b (by rw [c5.1]; simp)
      | succ n=>exact hS b c5.2.2
     have hO':∀ c∈O',c∈O:=by
      intro c hc
      cases n with
      | zero=>rw [c5.1]; simp [hc]
      | succ n=>rw [c5.2.1] at hc; cases hc
     have hlen:∀ l:List a.den,List.length (cast (congrArg List (C8 a).symm) l:List a.sh.den)=l.length:=fun l=>by rw [Z3 (C8 a).symm,List.length_map]
     have happ:((cast (congrArg List (C8 a).symm) l:List a.sh.den)++(cast (congrArg List (C8 a).symm) m:List a.sh.den))=(l++m).map (cast (C8 a).symm):=by
      rw [Z3 (C8 a).symm,Z3 (C8 a).symm,List.map_append]
     refine ⟨b,off,[],by rw [hlen,hlen]; exact c1,by rw [hlen,hlen]; exact c2,by rw [happ,List.length_map,K6]; exact c3,?_,rfl,rfl,hb⟩
     rw [happ,List.length_map,K6]
     exact i7.map (L:=O) (fun O1 cs x hL hr=>hr.a1g (fun b hb=>hO b (hL b hb)) hS hn) hO' c4
   ·cases h
  ·cases h
 ·cases h

theorem b9S {t u:Ty} {y:u.den} {x:t.den} (h:rdM t u y=some x):t.size=u.size∧t.agg=u.agg∧∀ {O:List Nat} {cs:List Value},f7 H S u O cs y→(∀ b∈O,S' b)→(∀ b,S b→S' b)→f7 H S' t [] cs x:=by
 unfold rdM at h
 split at h
 ·rename_i hm
  split at h
  ·rename_i e
   subst e
   cases h
   exact ⟨a1j u,c0m u,fun hR hO hS=>a7V hR hO hS hm⟩
  ·split at h
   ·exact b9R h
   ·cases h
 ·cases h

theorem a3U {t:Ty} {r:Option (Sigma Ty.den)} {x:t.den} (h:a13 t r=some x):∃ u y,r=some ⟨u,y⟩:=by
 unfold a13 at h
 split at h
 ·exact ⟨_,_,rfl⟩
 ·cases h

theorem a2d {t u:Ty} (h:t.agg=u.agg) (cs:List Value):j7 t cs=j7 u cs:=by simp only [j7,h]

theorem a3T {t u:Ty} {y:u.den} {x:t.den} (h:a13 t (some ⟨u,y⟩)=some x):t.size=u.size∧t.agg=u.agg∧∀ {O:List Nat} {cs:List Value},f7 H S u O cs y→(∀ b∈O,S' b)→(∀ b,S b→S' b)→f7 H S' t [] cs x:=by
 simp only [a13] at h
 split at h
 ·rename_i hn
  split at h
  ·rename_i e
   subst e
   cases h
   exact ⟨a59 u,a7B (Ty.b6G u),fun hR hO hS=>hR.c1D hO hS hn⟩
  ·cases h
 ·exact b9S h

theorem b78 {t u:Ty} {l:List u.den} {x:t.den} (h:a13 t (some ⟨.d0 true u,l⟩)=some x):∃ (t':Ty) (f:u.den→t'.den) (e:t=.d0 false t'),F7 e x=l.map f∧t'.size=u.size ∧
  ∀ {O:List Nat} {cs:List Value} {y:u.den},f7 H S u O cs y→(∀ b∈O,S' b)→(∀ b,S b→S' b)→f7 H S' t' [] cs (f y):=by
 simp only [a13] at h
 split at h
 ·rename_i hn
  split at h
  ·rename_i e
   subst e
   cases h
   exact ⟨u.sh,cast (C8 u).symm,rfl,Z3 (C8 u).symm _ l,K6 u,fun hR hO hS=>hR.a1g hO hS hn⟩
  ·cases h
 ·rename_i hn
  unfold rdM at h
  split at h
  ·rename_i hm
   split at h
   ·rename_i e
    subst e
    cases h
    refine ⟨u.rdT,rdV u,rfl,?_,a1j u,fun hR hO hS=>a7V hR hO hS hm⟩
    show (if h:u.P7=true then cast (congrArg List (a0j h)) l else List.map (rdV u) l)=List.map (rdV u) l
    rw [dif_neg (fun e=>by rw [show (Ty.d0 true u).okH=u.P7 from rfl,e] at hn; cases hn)]
   ·cases h
  ·cases h

theorem b1x {v:AV} {t:Ty} {x:t.den} {val:Value} (h:v.as t=some x) (hv:VX H S ι hp v [val]):∃ cs,val=j7 t cs∧f7 H S t [] cs x:=by
 unfold AV.as at h
 split at h
 ·rename_i u y
  split at h
  ·rename_i hu; subst hu; cases h
   obtain ⟨cs,e,hR⟩:=hv
   exact ⟨cs,by simpa using e,hR⟩
  ·cases h
 ·split at h
  ·cases h
   have:[val]=[Value.slice none 0 0]:=hv
   exact ⟨[.slice none 0 0],by simpa [j7,Ty.agg] using this,.inl ⟨rfl,⟨none,0,rfl,fun _=>rfl⟩,rfl⟩⟩
  ·cases h
 ·cases h

def G8 (ι:Ix) (hp:List (Nat×i6)) (g:List Nat) (b:Nat):Prop:=∃ i e,i∈g∧look i hp=some e∧b∈j8 ι i e

theorem b34 (h:HS B S ι s.hp w) {v:AV} {t:Ty} {x:t.den} {val:Value} (hx:v.asV s t=some x) (hv:VX w.heap S ι s.hp v [val]) {S1:Nat→Prop} (hS:∀ b,S b→S1 b) (hL:∀ b,G8 ι s.hp v.E2 b→S1 b) :
  ∃ cs,val=j7 t cs∧f7 w.heap S1 t [] cs x:=by
 unfold AV.asV at hx
 split at hx
 ·rename_i i p
  obtain ⟨u,y,hp⟩:=a3U hx
  unfold St.a1q at hx
  rw [hp] at hx
  obtain ⟨e,u',y',cs,h1,h2,h3,h4,h5⟩:=hv
  have hg:=F8 h1 hp
  rw [h3] at hg; cases hg
  obtain ⟨O2,k1,_,k2⟩:=E4 h h1 h2 h3 h4
  obtain ⟨_,g2,g3⟩:=a3T (H:=w.heap) (S:=S) (S':=S1) hx
  exact ⟨cs,by rw [a2d g2]; simpa using h5,g3 k2 (fun b hb=>hL b ⟨i,e,by simp [AV.E2],h1,D5 (k1 b hb)⟩) hS⟩
 ·rename_i i p lo hi
  split at hx
  ·rename_i u l hw
   obtain ⟨t',f,e,hf,hsz,hr⟩:=b78 (H:=w.heap) (S:=S) (S':=S1) hx
   subst e
   have hf:x=l.map f:=hf
   subst hf
   have hLB:∀ b,(S b∨b2C ι s.hp i b)→S1 b:=fun b hb=>hb.elim (hS b) (fun ⟨e,h1,h2⟩=>hL b ⟨i,e,by simp [AV.E2],h1,h2⟩)
   -- the blocks are of object i or shared
   obtain ⟨A,c,k1,k2⟩:=b3z h hv hw
   refine ⟨[.slice A l.length c],k1,?_⟩
   rcases k2 with rfl|⟨b,off,O,rfl,hb,h4,h5,h6,h7⟩
   ·exact .inl ⟨rfl,⟨A,c,rfl,fun h=>by cases h⟩,rfl⟩
   ·refine .inr ⟨b,off,c,[],by rw [List.length_map],by rw [List.length_map]; exact h7.1,⟨h7.2,fun h=>by cases h⟩,by rw [List.length_map,hsz]; exact h4,?_,rfl,rfl,hLB b (.inr hb)⟩
    rw [List.length_map,hsz]
    exact i7.map (L:=O) (fun O1 cs x hLm hq=>hr hq (fun b hb=>hLB b (.inr (h6 b (hLm b hb)))) hS) (fun _ h=>h) h5
  ·cases hx
 ·rename_i u x'
  split at hx
  ·rename_i hu; subst hu; cases hx
   obtain ⟨cs,e,hR⟩:=hv
   exact ⟨cs,by simpa using e,hR.q9 (fun _ _=>rfl) hS⟩
  ·obtain ⟨cs,e,hR⟩:=hv
   obtain ⟨_,g2,g3⟩:=a3T (H:=w.heap) (S:=S) (S':=S1) hx
   exact ⟨cs,by rw [a2d g2]; simpa using e,g3 hR (by simp) hS⟩
 ·obtain ⟨cs,e,hR⟩:=b1x hx hv
  exact ⟨cs,e,hR.q9 (fun _ _=>rfl) hS⟩

theorem a8s (h:HS B S ι s.hp w) {v:AV} {t:Ty} {x:t.den} {val:Value} (hx:v.asR s t=some x) (hv:VX w.heap S ι s.hp v [val]) {S1:Nat→Prop} (hS:∀ b,S b→S1 b) (hL:∀ b,G8 ι s.hp v.E2 b→S1 b) :
  b5M w.heap S1 t val x:=by
 unfold AV.asR at hx
 split at hx
 ·rename_i i p
  obtain ⟨u,y,hp⟩:=a3U hx
  unfold St.a1q at hx
  rw [hp] at hx
  obtain ⟨e,b,off,h1,h2,h3,h4⟩:=hv
  have hg:=F8 h1 hp
  obtain ⟨O2,m1,m2,m3,m4,m5,_⟩:=I5 (I2 h3) (h.ob i e h1) h.slt h2 hg h3
  obtain ⟨g1,g2,g3⟩:=a3T (H:=w.heap) (S:=S) (S':=S1) hx
  refine ⟨b,off,by simpa using h4,hL b ⟨i,e,by simp [AV.E2],h1,m5⟩,by rw [g1]; exact m4,?_⟩
  rw [g1]
  exact g3 m3 (fun b hb=>hL b ⟨i,e,by simp [AV.E2],h1,D5 (m1 b hb)⟩) hS
 ·rename_i u x'
  split at hx
  ·rename_i hu; subst hu; cases hx
   obtain ⟨b,off,e,h1,h2,h3⟩:=hv
   exact ⟨b,off,by simpa using e,hS b h1,h2,h3.q9 (fun _ _=>rfl) hS⟩
  ·cases hx
 ·rename_i i p
  split at hx
  ·rename_i u
   split at hx
   ·rename_i x0 hx0
    cases hx
    obtain ⟨u',y,hp⟩:=a3U hx0
    unfold St.a1q at hx0
    rw [hp] at hx0
    obtain ⟨b0,off0,v0,e0,hb0,hl0,hc0,e,b,off,h1,h2,h3,h4⟩:=hv
    have hg:=F8 h1 hp
    obtain ⟨O2,m1,m2,m3,m4,m5,_⟩:=I5 (I2 h3) (h.ob i e h1) h.slt h2 hg h3
    obtain ⟨g1,g2,g3⟩:=a3T (H:=w.heap) (S:=S) (S':=S1) hx0
    obtain rfl:v0=.pointer (some ⟨b,off,none⟩):=by simpa using h4
    have hk:=g3 m3 (fun b hb=>hL b ⟨i,e,by simp [AV.E2],h1,D5 (m1 b hb)⟩) hS
    refine ⟨b0,off0,by simpa using e0,hS _ hb0,hl0,?_⟩
    rw [show d8 w.heap b0 off0 (Ty.box false none u).size=[.pointer (some ⟨b,off,none⟩)] from hc0]
    exact .inr ⟨_,b,off,[],rfl,rfl,by rw [g1]; exact m4,by rw [g1]; exact hk,rfl,rfl,hL b ⟨i,e,by simp [AV.E2],h1,m5⟩⟩
   ·cases hx
  ·cases hx
 ·cases hx

theorem b1z (h:HS B S ι s.hp w) {S1:Nat→Prop} (hS:∀ b,S b→S1 b):∀ {ts:List Ty} {v:AV} {x:DL ts} {vs:List Value},AV.a4X s ts v=some x→VX w.heap S ι s.hp v vs→(∀ b,G8 ι s.hp v.E2 b→S1 b)→RdL w.heap S1 ts vs x
 | [],v,x,vs,hx,hv,_=>by
  cases v<;>simp only [AV.a4X] at hx<;>first|cases hx|skip
  exact hv
 | t::ts,v,x,vs,hx,hv,hL=>by
  cases v<;>simp only [AV.a4X] at hx<;>first|cases hx|skip
  rename_i a b
  split at hx
  ·rename_i x1 x2 h1 h2
   cases hx
   obtain ⟨v,us,rfl,ha,hb⟩:=hv
   exact ⟨v,us,rfl,a8s h h1 ha hS (fun c hc=>hL c (by obtain ⟨i,e,q1,q2⟩:=hc; exact ⟨i,e,by simp [AV.E2,q1],q2⟩)),b1z h hS h2 hb (fun c hc=>hL c (by obtain ⟨i,e,q1,q2⟩:=hc; exact ⟨i,e,by simp [AV.E2,q1],q2⟩))⟩
  ·cases hx

theorem b31 {H:Array Go.Obj} {t':Ty} {O2:List Nat} {A:Option Addr} {cap:Nat} {x':List t'.den} {lo hi:Int} {v:Value} (m3:f7 H S (.d0 true t') O2 [.slice A (List.length x') cap] x') (m2:O2.Nodup) (h4:0≤lo) (h5:lo≤hi) (k2:hi≤(List.length x':Int)) (hv:b1E t'.size A cap lo hi v) :
  ∃ O cs,v=j7 (.d0 true t') cs∧f7 H S (.d0 true t') O cs (B3 lo hi x')∧O.Nodup∧∀ b∈O,b∈O2:=by
 obtain ⟨c,A',k4,kA,k5,k6⟩:=hv
 have hlen:(B3 lo hi x').length=(hi - lo).toNat:=U9 h4 k2
 by_cases hc:c=0
 ·refine ⟨[],[.slice A' 0 0],?_,.inl ⟨rfl,⟨A',0,rfl,fun _=>rfl⟩,?_⟩,List.nodup_nil,by simp⟩
  ·rw [k4,hc]
   have:(hi - lo).toNat=0:=by omega
   rw [this]; rfl
  ·exact List.length_eq_zero_iff.1 (by omega)
 ·rcases m3 with ⟨_,⟨a2,c2,q1,q2⟩,hn⟩|⟨b1,o1,cap',O',c1,c2,c3,c4,c5,rfl,c7⟩
  ·exfalso
   simp only [List.cons.injEq,Value.slice.injEq,and_true] at q1
   have:=q2 rfl
   omega
  ·simp only [List.cons.injEq,Value.slice.injEq,and_true] at c1
   obtain ⟨rfl,_,rfl⟩:=c1
   obtain ⟨P1,P2,P3,e1,g1⟩:=c5.cut lo.toNat (hi - lo).toNat
   have hle:lo.toNat*t'.size+(hi - lo).toNat*t'.size≤List.length x'*t'.size:=by rw [← Nat.add_mul]; exact Nat.mul_le_mul_right _ (by omega)
   have hcap:(lo.toNat+c)*t'.size≤cap*t'.size:=Nat.mul_le_mul_right _ (Nat.le_of_eq k6)
   rw [Nat.add_mul] at hcap
   rw [n9,m0 _ _ _ _ (by omega)] at g1
   have hnd:(b1::P2).Nodup:=by
    rw [e1] at m2
    have h1:=List.nodup_cons.1 m2
    refine List.nodup_cons.2 ⟨fun hb=>h1.1 (by simp [hb]),(List.nodup_append.1 (List.nodup_append.1 h1.2).2.1).1⟩
   refine ⟨b1::P2,[.slice (some ⟨b1,o1+lo.toNat*t'.size,none⟩) (B3 lo hi x').length c],?_,.inr ⟨b1,o1+lo.toNat*t'.size,c,P2,rfl,by rw [hlen]; exact k5,⟨by have:=c3.1; omega,fun _=>by omega⟩,by rw [hlen]; omega,by rw [hlen]; exact g1,rfl,c7.mono (by omega)⟩,hnd,fun b hb=>?_⟩
   ·rw [k4,kA hc,hlen,Option.map_some,Addr.E8]; rfl
   ·rcases List.mem_cons.1 hb with rfl|hb
    ·simp
    ·rw [e1]; simp [hb]

theorem W8 (h:HS B S ι s.hp w) {v:AV} {val:Value} {t:Ty} {x:t.den} {g:List Nat} (hg:v.N7 s=some (⟨t,x⟩,g)) (hv:VX w.heap S ι s.hp v [val]) :
  ∃ O cs,val=j7 t cs∧f7 w.heap S t O cs x∧O.Nodup∧∀ b∈O,G8 ι s.hp g b:=by
 unfold AV.N7 at hg
 split at hg
 ·cases hg
  obtain ⟨cs,e,hR⟩:=hv
  exact ⟨[],cs,by simpa using e,hR,List.nodup_nil,by simp⟩
 ·rename_i i
  split at hg
  ·rename_i t' x' hob
   cases hg
   obtain ⟨e,u,y,cs,h1,h2,h3,h4,h5⟩:=hv
   obtain rfl:=V7 h1 hob
   rw [y7] at h3; cases h3
   obtain ⟨O2,m1,m2,m3⟩:=E4 h h1 h2 y7 h4
   have h5:val=j7 t cs:=by simpa [i6.ty] using h5
   exact ⟨O2,cs,h5,m3,m2,fun b hb=>⟨i,_,by simp,h1,D5 (m1 b hb)⟩⟩
  ·cases hg
 ·rename_i i lo hi
  split at hg
  ·rename_i t' x' hob
   cases hg
   obtain ⟨e,v,h1,h2,h3,h4,h5,h6⟩:=hv
   obtain rfl:=V7 h1 hob
   cases h3
   rcases h6 with ⟨t1,l,A,cap,k1,k2,k3,k4⟩|⟨n,t1,l,b,off,k1,_,k3,_⟩
   ·have k1:i8 (.d0 true t') x' []=some ⟨.d0 true t1,l⟩:=k1
    rw [y7] at k1; cases k1
    obtain ⟨O2,m1,m2,m3⟩:=E4 h h1 h2 y7 k3
    obtain ⟨O,cs,q1,q2,q3,q4⟩:=b31 m3 m2 h4 h5 k2 k4
    exact ⟨O,cs,q1,q2,q3,fun b hb=>⟨i,_,by simp,h1,D5 (m1 b (q4 b hb))⟩⟩
   ·exfalso
    simp only [Loc,Place,w4,VR] at k3
    simp at k3
  ·cases hg
 ·cases hg

theorem a2P (h:HS B S ι s.hp w) {v:AV} {val:Value} {t:Ty} {x:t.den} {g:List Nat} (hg:v.V2 s=some (⟨t,x⟩,g)) (hv:VX w.heap S ι s.hp v [val]) :
  ∃ O cs,val=j7 t cs∧f7 w.heap S t O cs x∧O.Nodup∧∀ b∈O,G8 ι s.hp g b:=by
 unfold AV.V2 at hg
 split at hg
 ·rename_i i
  split at hg
  ·rename_i t' x' hob
   cases hg
   obtain ⟨e,u,y,cs,h1,h2,h3,h4,h5⟩:=hv
   obtain rfl:=V7 h1 hob
   rw [y7] at h3; cases h3
   obtain ⟨O2,m1,m2,m3⟩:=E4 h h1 h2 y7 h4
   have h5:val=j7 t cs:=by simpa [i6.ty] using h5
   exact ⟨O2,cs,h5,m3,m2,fun b hb=>⟨i,_,by simp,h1,D5 (m1 b hb)⟩⟩
  ·exact W8 h hg hv
 ·rename_i f
  cases hg
  obtain ⟨us,e,rfl⟩:=hv
  have e:val=.func (.func f) #[] #[]:=by simpa using e
  exact ⟨[],[fnV f true],e,⟨rfl,rfl⟩,List.nodup_nil,by simp⟩
 ·exact W8 h hg hv

theorem G8.mono {g g':List Nat} {b:Nat} (h:G8 ι hp g b) (hs:∀ i∈g,i∈g'):G8 ι hp g' b:=by
 obtain ⟨i,e,h1,h2⟩:=h; exact ⟨i,e,hs i h1,h2⟩

def PK.reads:PK→Bool
 | .own _|.rw _|.mu _|.T7 _ _|.el _=>false
 | _=>true

theorem a8t (h:HS B S ι s.hp w) {S1:Nat→Prop} (hS:∀ b,S b→S1 b) {k:PK} {v:AV} {x:k.den} {val:Value} {g m:List Nat} (hx:v.I6 s k=some (x,g,m)) (hv:VX w.heap S ι s.hp v [val])
  (hL:k.reads=true→∀ b,G8 ι s.hp v.E2 b→S1 b) :
  ∃ L,c1n w.heap S1 k val x L∧L.Nodup∧(∀ b∈L,G8 ι s.hp (g++m) b)∧∀ i∈m,∀ e,look i s.hp=some e→∀ b∈j8 ι i e,b∈L:=by
 cases k with
 | v t =>
  simp only [AV.I6] at hx
  split at hx
  ·rename_i y hy; cases hx
   obtain ⟨cs,e,hR⟩:=b34 h hy hv hS (hL rfl)
   exact ⟨[],⟨rfl,cs,e,hR⟩,List.nodup_nil,by simp,by simp⟩
  ·cases hx
 | rd t =>
  simp only [AV.I6] at hx
  split at hx
  ·rename_i y hy; cases hx
   exact ⟨[],⟨rfl,a8s h hy hv hS (hL rfl)⟩,List.nodup_nil,by simp,by simp⟩
  ·cases hx
 | s8 f ts =>
  cases v<;>simp only [AV.I6] at hx<;>first|cases hx|skip
  rename_i f' l
  cases hb:Nat.beq f f' with
  | false=>rw [hb] at hx; cases hx
  | true =>
   rw [hb] at hx
   simp only at hx
   have hff:=Nat.eq_of_beq_eq_true hb
   split at hx
   ·rename_i y hy; cases hx
    obtain ⟨us,e,hus⟩:=hv
    exact ⟨[],⟨rfl,us,by simpa [hff] using e,b1z h hS hy hus (fun b hb=>hL rfl b hb)⟩,List.nodup_nil,by simp,by simp⟩
   ·cases hx
 | T7 f n=>simp only [AV.I6] at hx; cases hx
 | el q=>simp only [AV.I6] at hx; cases hx
 | Q6 =>
  simp only [AV.I6] at hx
  split at hx
  ·cases hx
   exact ⟨[],⟨rfl,by simpa using (show [val]=[Value.slice none 0 0] from hv)⟩,List.nodup_nil,by simp,by simp⟩
  ·cases hx
 | own t =>
  simp only [AV.I6] at hx
  split at hx
  ·split at hx
   ·rename_i y hy; cases hx
    obtain ⟨cs,e,hR⟩:=b1x hy hv
    exact ⟨[],⟨cs,e,hR.q9 (fun _ _=>rfl) hS⟩,List.nodup_nil,by simp,by simp⟩
   ·cases hx
  ·split at hx
   ·rename_i u y l hg
    split at hx
    ·rename_i hu; subst hu; cases hx
     obtain ⟨O,cs,e,hR,hnd,hO⟩:=a2P h hg hv
     exact ⟨O,⟨cs,e,hR.q9 (fun _ _=>rfl) hS⟩,hnd,fun b hb=>(hO b hb).mono (by simp),by simp⟩
    ·cases hx
   ·cases hx
 | rw t =>
  simp only [AV.I6] at hx
  split at hx
  ·rename_i i
   split at hx
   ·rename_i u y hob
    split at hx
    ·rename_i hu; subst hu; cases hx
     obtain ⟨e,b,off,h1,h2,h3,h4⟩:=hv
     obtain rfl:=V7 h1 hob
     obtain ⟨⟨O,hO,hR⟩,hf,hnd⟩:=h.ob i _ h1
     have hl:(ι.root i).1=b∧(ι.root i).2=off:=by
      have:=(w5 h3).1
      simp only [Place,w4,VR,Option.some.injEq,Prod.mk.injEq] at this
      exact this
     obtain ⟨rfl,rfl⟩:=hl
     refine ⟨(ι.root i).1::O,⟨_,_,O,by simpa using h4,hR.q9 (fun _ _=>rfl) hS,hf,rfl⟩,?_,?_,?_⟩
     ·exact ((hO.cons _).nodup_iff).2 hnd
     ·intro c hc
      refine ⟨i,_,by simp,h1,?_⟩
      simp only [j8]
      exact ((hO.cons _).mem_iff).1 hc
     ·intro j hj e' he' c hc
      simp only [List.mem_cons,List.not_mem_nil,or_false] at hj
      subst hj
      rw [h1] at he'; cases he'
      exact ((hO.cons _).mem_iff).2 hc
    ·cases hx
   ·cases hx
  ·cases hx
 | mu t =>
  simp only [AV.I6] at hx
  split at hx
  ·rename_i i
   split at hx
   ·rename_i u y hob
    split at hx
    ·rename_i hu; subst hu; cases hx
     obtain ⟨e,u',y',cs,h1,h2,h3,h4,h5⟩:=hv
     obtain rfl:=V7 h1 hob
     rw [y7] at h3; cases h3
     obtain ⟨⟨O,hO,hR⟩,hnd⟩:=h.ob i _ h1
     have hcs:=M8 h4 hR.length
     have h5:val=j7 (.d0 true t) cs:=by simpa [i6.ty] using h5
     refine ⟨O,⟨cs,h5,by rw [hcs]; exact hR.q9 (fun _ _=>rfl) hS⟩,(hO.nodup_iff).2 hnd,?_,?_⟩
     ·intro c hc
      exact ⟨i,_,by simp,h1,hO.mem_iff.1 hc⟩
     ·intro j hj e' he' c hc
      simp only [List.mem_cons,List.not_mem_nil,or_false] at hj
      subst hj
      rw [h1] at he'; cases he'
      exact hO.mem_iff.2 hc
    ·cases hx
   ·cases hx
  ·cases hx

end
end Go.Ex

namespace Go.Ex

section
variable {E:Env} {B:C4} {S S':Nat→Prop} {ι:Ix} {s:St} {a:Act} {w:World} {hp:List (Nat×i6)} {H H':Array Go.Obj}

theorem X7:∀ {l:List Nat},a0x l=true→l.Nodup
 | [],_=>List.nodup_nil
 | a::l,h=>by
  simp only [a0x,Bool.and_eq_true,Bool.not_eq_true'] at h
  refine List.nodup_cons.2 ⟨fun hm=>?_,X7 h.2⟩
  have:=h.1
  simp [hm] at this

theorem a4R:∀ {l m:List Nat},b03 l m=true→∀ i∈l,i∉m
 | [],_,_,i,hi=>by cases hi
 | a::l,m,h,i,hi=>by
  simp only [b03,Bool.and_eq_true,Bool.not_eq_true'] at h
  rcases List.mem_cons.1 hi with rfl|hi
  ·intro hm; have:=h.1; simp [hm] at this
  ·exact a4R h.2 i hi

theorem a38 (h:HS B S ι s.hp w) {S1:Nat→Prop} (hS:∀ b,S b→S1 b):∀ {ks:List PK} {v:AV} {x:DK ks} {vs:List Value} {g m:List Nat},AV.V0 s ks v=some (x,g,m)→VX w.heap S ι s.hp v vs→(g++m).Nodup →
  (∀ b,G8 ι s.hp (J3.loose ks v) b→S1 b)→∃ L,K3 w.heap S1 ks vs x L∧L.Nodup∧(∀ b∈L,G8 ι s.hp (g++m) b)∧∀ i∈m,∀ e,look i s.hp=some e→∀ b∈j8 ι i e,b∈L
 | [],v,x,vs,g,m,hx,hv,_,_=>by
  cases v<;>simp only [AV.V0] at hx<;>first|cases hx|skip
  exact ⟨[],⟨hv,rfl⟩,List.nodup_nil,by simp,by simp⟩
 | k::ks,v,x,vs,g,m,hx,hv,hnd,hL=>by
  cases v<;>simp only [AV.V0] at hx<;>first|cases hx|skip
  rename_i a b
  split at hx
  ·rename_i x1 g1 m1 x2 g2 m2 h1 h2
   cases hx
   obtain ⟨v,us,rfl,ha,hb⟩:=hv
   have hn1:∀ i,i∈g1++m1→i∉g2++m2:=by
    intro i hi hi'
    simp only [List.mem_append] at hi hi'
    have hgm:=List.nodup_append.1 hnd
    have hg:=List.nodup_append.1 hgm.1
    have hm:=List.nodup_append.1 hgm.2.1
    rcases hi with hi|hi<;>rcases hi' with hi'|hi'
    ·exact hg.2.2 i hi i hi' rfl
    ·exact hgm.2.2 i (by simp [hi]) i (by simp [hi']) rfl
    ·exact hgm.2.2 i (by simp [hi']) i (by simp [hi]) rfl
    ·exact hm.2.2 i hi i hi' rfl
   have hnd2:(g2++m2).Nodup:=by
    have hgm:=List.nodup_append.1 hnd
    have hg:=List.nodup_append.1 hgm.1
    have hm:=List.nodup_append.1 hgm.2.1
    exact List.nodup_append.2 ⟨hg.2.1,hm.2.1,fun i hi j hj=>hgm.2.2 i (by simp [hi]) j (by simp [hj])⟩
   obtain ⟨L1,k1,k2,k3,k4⟩:=a8t h hS h1 ha (fun hr c hc=>hL c (by
    obtain ⟨i,e,q1,q2⟩:=hc
    refine ⟨i,e,?_,q2⟩
    cases k<;>first|(show i∈a.E2++J3.loose ks b; exact List.mem_append_left _ q1)|(exfalso; simp [PK.reads] at hr; done)))
   obtain ⟨L2,n1,n2,n3,n4⟩:=a38 h hS h2 hb hnd2 (fun c hc=>hL c (by
    obtain ⟨i,e,q1,q2⟩:=hc
    refine ⟨i,e,?_,q2⟩
    cases k<;>first|(show i∈a.E2++J3.loose ks b; exact List.mem_append_right _ q1)|(show i∈J3.loose ks b; exact q1)))
   refine ⟨L1++L2,⟨v,us,L1,L2,rfl,rfl,k1,n1⟩,List.nodup_append.2 ⟨k2,n2,?_⟩,?_,?_⟩
   ·rintro c hc d hd rfl
    obtain ⟨i,e,q1,q2,q3⟩:=k3 c hc
    obtain ⟨j,e',r1,r2,r3⟩:=n3 c hd
    have hij:i≠j:=by rintro rfl; exact hn1 i q1 r1
    exact h.dj i j e e' q2 r2 hij c q3 r3
   ·intro c hc
    rcases List.mem_append.1 hc with hc|hc
    ·exact (k3 c hc).mono (by simp; intro i hi; rcases hi with hi|hi<;>simp [hi])
    ·exact (n3 c hc).mono (by simp; intro i hi; rcases hi with hi|hi<;>simp [hi])
   ·intro i hi e he c hc
    rcases List.mem_append.1 hi with hi|hi
    ·exact List.mem_append_left _ (k4 i hi e he c hc)
    ·exact List.mem_append_right _ (n4 i hi e he c hc)
  ·cases hx

theorem a2z {s:St}:∀ {ks:List PK} {v:AV} {r:DK ks×List Nat×List Nat},AV.V0 s ks v=some r→ks.any PK.lnk=false
 | [],_,_,_=>rfl
 | k::ks,v,r,hx=>by
  cases v<;>simp only [AV.V0] at hx<;>first|cases hx|skip
  split at hx
  ·rename_i x1 g1 m1 x2 g2 m2 h1 h2
   rw [List.any_cons,a2z h2,Bool.or_false]
   cases k<;>first|rfl|(simp only [AV.I6] at h1; cases h1)
  ·cases hx

theorem f7.F6:∀ {t:Ty} {O:List Nat} {cs:List Value} {x:t.den},t.F6=true→f7 H S t O cs x→f7 H S' t O cs x:=by
 intro t
 induction t with
 | int k=>intro O cs x _ h; exact h
 | bool=>intro O cs x _ h; exact h
 | str=>intro O cs x _ h; exact h
 | unit=>intro O cs x _ h; exact h
 | fn f=>intro O cs x _ h; exact h
 | hole t _=>intro O cs x _ h; exact h
 | r7 t _=>intro O cs x hn; cases hn
 | map o k v ihk ihv =>
  rintro O cs x hn h
  simp only [Ty.F6,Bool.and_eq_true] at hn
  rcases h with h|⟨l,b,es,ck,h0,h2,h3,h4,h5⟩
  ·exact .inl h
  refine .inr ⟨l,b,es,ck,h0,h2,h3,h4.mono (fun _ _ h=>ihk hn.1.2 h) (fun _ _ h=>ihv hn.2 h),?_⟩
  rw [hn.1.1] at h5 ⊢
  exact h5
 | box o g t ih =>
  rintro O cs x hn h
  simp only [Ty.F6,Bool.and_eq_true] at hn
  rcases h with h|⟨y,b,off,O',h0,h1,h2,h3,h4⟩
  ·exact .inl h
  refine .inr ⟨y,b,off,O',h0,h1,h2,ih hn.2 h3,?_⟩
  rw [hn.1] at h4 ⊢
  exact h4
 | pair a c iha ihc =>
  rintro O cs x hn ⟨O1,O2,e,h1,h2⟩
  simp only [Ty.F6,Bool.and_eq_true] at hn
  exact ⟨O1,O2,e,iha hn.1 h1,ihc hn.2 h2⟩
 | arr n t ih =>
  rintro O cs x hn ⟨h1,h2⟩
  exact ⟨h1,i7.mono (L:=O) (fun _ h=>h) (fun _ _ _ _ h=>ih hn h) h2⟩
 | d0 o t ih =>
  rintro O cs x hn h
  simp only [Ty.F6,Bool.and_eq_true] at hn
  rcases h with h|⟨b,off,cap,O',c1,c2,c3,c4,c5,c6⟩
  ·exact .inl h
  ·rw [hn.1] at c6
   refine .inr ⟨b,off,cap,O',c1,c2,c3,c4,i7.mono (L:=O') (fun _ h=>h) (fun _ _ _ _ h=>ih hn.2 h) c5,?_⟩
   rw [hn.1]; exact c6

theorem J0.mono {T:Nat→Prop}:∀ {ts:List Ty} {O:List Nat} {vs:List Value} {x:DL ts},J0 H S ts O vs x→(∀ b,S b→T b)→J0 H T ts O vs x
 | [],_,_,_,h,_=>h
 | _::_,_,_,_,⟨v,us,O1,O2,cs,e1,e2,e3,h1,h2⟩,hT=>⟨v,us,O1,O2,cs,e1,e2,e3,h1.q9 (fun _ _=>rfl) hT,J0.mono h2 hT⟩

theorem J0.F6:∀ {ts:List Ty} {O:List Nat} {vs:List Value} {x:DL ts},ts.all Ty.F6=true→J0 H S ts O vs x→J0 H S' ts O vs x
 | [],_,_,_,_,h=>h
 | t::ts,_,_,_,hn,⟨v,us,O1,O2,cs,e1,e2,e3,h1,h2⟩=>by
  simp only [List.all_cons,Bool.and_eq_true] at hn
  exact ⟨v,us,O1,O2,cs,e1,e2,e3,h1.F6 hn.1,J0.F6 hn.2 h2⟩


theorem E1.F6:∀ {ks:List PK} {vs:List Value} {y:DL (B1 ks)} {L:List Nat},(B1 ks).all Ty.F6=true→E1 H S ks vs y L→E1 H S' ks vs y L
 | [],_,_,_,_,h=>h
 | .rw t::ks,_,_,_,hn,⟨b,off,O,us,L',e1,e2,e3,e4,e5⟩=>by
  simp only [B1,List.all_cons,Bool.and_eq_true] at hn
  exact ⟨b,off,O,us,L',e1,e2.F6 hn.1,e3,e4,E1.F6 hn.2 e5⟩
 | .mu t::ks,_,_,_,hn,⟨cs,O,us,L',e1,e1',e2,e4,e5⟩=>by
  simp only [B1,List.all_cons,Bool.and_eq_true] at hn
  exact ⟨cs,O,us,L',e1,e1',e2.F6 hn.1,e4,E1.F6 hn.2 e5⟩
 | .v _::ks,_,_,_,hn,⟨v,us,e,h⟩=>⟨v,us,e,E1.F6 (ks:=ks) hn h⟩
 | .rd _::ks,_,_,_,hn,⟨v,us,e,h⟩=>⟨v,us,e,E1.F6 (ks:=ks) hn h⟩
 | .s8 _ _::ks,_,_,_,hn,⟨v,us,e,h⟩=>⟨v,us,e,E1.F6 (ks:=ks) hn h⟩
 | .Q6::ks,_,_,_,hn,⟨v,us,e,h⟩=>⟨v,us,e,E1.F6 (ks:=ks) hn h⟩
 | .T7 _ _::ks,_,_,_,hn,⟨v,us,e,h⟩=>⟨v,us,e,E1.F6 (ks:=ks) hn h⟩
 | .el _::ks,_,_,_,hn,⟨v,us,e,h⟩=>⟨v,us,e,E1.F6 (ks:=ks) hn h⟩
 | .own _::ks,_,_,_,hn,⟨v,us,e,h⟩=>⟨v,us,e,E1.F6 (ks:=ks) hn h⟩


theorem b1F:∀ {t:Ty} {p:List Step} {b off:Nat} {G G':Array Go.Obj},a2v p=true→w9 G t p b off=w9 G' t p b off:=by
 intro t
 induction t with
 | pair a c iha ihc =>
  intro p b off G G' h
  match p,h with
  | [],_=>rfl
  | .j6 0::p,h=>exact iha h
  | .j6 (n+1)::p,h=>exact ihc (p:=.j6 n::p) h
  | .idx i::p,h=>cases h
 | d0 o t ih =>
  intro p b off G G' h
  match p,h with
  | [],_=>rw [w4,w4]
  | .j6 i::p,_=>cases o<;>simp [w9]
  | .idx i::p,h=>cases h
 | _ =>
  intro p b off G G' h
  match p,h with
  | [],_=>rw [w4,w4]
  | .j6 i::p,_=>simp [w9]
  | .idx i::p,h=>cases h

theorem b3L:∀ {t:Ty} {p:List Step} {x y:t.den},a2v p=true→u6 t x p→u6 t y p:=by
 intro t
 induction t with
 | pair a c iha ihc =>
  intro p x y h ho
  match p,h,ho with
  | [],_,_=>trivial
  | .j6 0::p,h,ho=>exact iha (x:=x.1) h ho
  | .j6 (n+1)::p,h,ho=>exact ihc (p:=.j6 n::p) (x:=x.2) h ho
  | .idx i::p,h,_=>cases h
 | d0 o t ih =>
  intro p x y h ho
  match p,h,ho with
  | [],_,_=>exact J1
  | .j6 i::p,_,ho=>cases o<;>simp [u6] at ho
  | .idx i::p,h,_=>cases h
 | _ =>
  intro p x y h ho
  match p,h,ho with
  | [],_,_=>exact J1
  | .j6 i::p,_,ho=>simp [u6] at ho
  | .idx i::p,h,_=>cases h

def a5k (e e':i6):Prop:=(∃ t x x',e=.var t x∧e'=.var t x')∨(∃ t x x',e=.own (.d0 true t) x∧e'=.own (.d0 true t) x')∨(∃ o k v x x',e=.own (.map o k v) x∧e'=.own (.map o k v) x')

theorem RS.renew (h:RS B S ι s a w) {i:Nat} {e e':i6} (he:look i s.hp=some e) (hal:a5k e e') {F:List Nat} (hF:B4 B S ι s.hp w F) {L:List Nat} {w':World} (k:A4 L w w') (hLs:∀ b∈L,b∈j8 ι i e∨b∈F) (hS:∀ b,S b→S' b)
  (hS':∀ b,S' b→S b∨(w.heap.size≤b∧b<w'.heap.size)) {O':List Nat} (hob:OB w'.heap S' (ι.x7 i O') i e') (hO':∀ c∈j8 (ι.x7 i O') i e',¬ S' c∧(w.heap.size≤c∨c∈L)∧c<w'.heap.size) :
  RS B S' (ι.x7 i O') ((s.P9 i e.Q0).r9 i e') a w':=by
 have hnb:e≠.H2:=by rcases hal with ⟨_,_,_,h,_⟩|⟨_,_,_,h,_⟩|⟨_,_,_,_,_,h,_⟩<;>(rw [h]; intro h; cases h)
 have hLfact:∀ b∈L,¬ S b∧(B.w0.heap.size≤b∨B.M b)∧b<w.heap.size∧∀ j ej,j≠i→look j s.hp=some ej→b∉j8 ι j ej:=by
  intro b hb
  rcases hLs b hb with h1|h1
  ·obtain ⟨q1,q2,q3⟩:=h.hs.bl i e he b h1
   exact ⟨q1,q2,q3,fun j ej hj hlj=>h.hs.dj i j e ej he hlj (Ne.symm hj) b h1⟩
  ·obtain ⟨q1,q2,q3,q4⟩:=hF.2 b h1
   exact ⟨q1,q2,q3,fun j ej _ hlj=>q4 j ej hlj⟩
 have hold:∀ {b:Nat},((∃ j ej,j≠i∧look j s.hp=some ej∧b∈j8 ι j ej)∨S b)→w'.heap[b]?=w.heap[b]?:=by
  intro b hb
  refine k.frame b (hb.elim (fun ⟨j,ej,_,h1,h2⟩=>(h.hs.bl j ej h1 b h2).2.2) (h.hs.slt b)) (fun hbL=>?_)
  obtain ⟨q1,_,_,q4⟩:=hLfact b hbL
  rcases hb with ⟨j,ej,h0,h1,h2⟩|hb
  ·exact q4 j ej h0 h1 h2
  ·exact q1 hb
 have hnew:∀ c∈j8 (ι.x7 i O') i e',(¬ S' c∧(B.w0.heap.size≤c∨B.M c)∧c<w'.heap.size)∧∀ j ej,j≠i→look j s.hp=some ej→c∉j8 ι j ej:=by
  intro c hc
  obtain ⟨q1,q2,q3⟩:=hO' c hc
  rcases q2 with q2|q2
  ·exact ⟨⟨q1,.inl (Nat.le_trans h.hs.size q2),q3⟩,fun j ej _ hlj hcb=>by have:=(h.hs.bl j ej hlj c hcb).2.2; omega⟩
  ·obtain ⟨r1,r2,r3,r4⟩:=hLfact c q2
   exact ⟨⟨q1,r2,q3⟩,r4⟩
 have hsame:∀ j,j≠i→A7 ι (ι.x7 i O') j:=fun j hj=>N9 hj _
 have hHS:HS B S' (ι.x7 i O') (Ex.put i e' s.hp) w':=by
  refine ⟨k.os.trans h.hs.os,k.tape.trans h.hs.tape,k.out.trans h.hs.out,Nat.le_trans h.hs.size k.size,?_,?_,fun b hb=>hS b (h.hs.s0 b hb),?_,?_,?_,?_,?_⟩
  ·intro c hc hm
   rw [k.frame c (Nat.lt_of_lt_of_le hc h.hs.size) (fun hcL=>by rcases (hLfact c hcL).2.1 with h1|h1; omega; exact hm h1)]
   exact h.hs.frame c hc hm
  ·intro b hb
   rcases hS' b hb with h1|h1
   ·exact Nat.lt_of_lt_of_le (h.hs.slt b h1) k.size
   ·exact h1.2
  ·intro b hb
   rcases hS' b hb with h1|h1
   ·exact h.hs.s1 b h1
   ·exact .inr (Nat.le_trans h.hs.size h1.1)
  ·intro j ej hj
   rw [n8] at hj
   by_cases e1:j=i
   ·subst e1; rw [if_pos rfl] at hj; cases hj; exact hob
   ·rw [if_neg e1] at hj
    exact (hsame j e1).ob.2 ((h.hs.ob j ej hj).q9 (fun b hb=>hold (hb.imp (fun hb=>⟨j,ej,e1,hj,hb⟩) id)) hS)
  ·intro j ej hj c hc
   rw [n8] at hj
   by_cases e1:j=i
   ·subst e1; rw [if_pos rfl] at hj; cases hj; exact (hnew c hc).1
   ·rw [if_neg e1] at hj
    rw [(hsame j e1).j8] at hc
    obtain ⟨q1,q2,q3⟩:=h.hs.bl j ej hj c hc
    refine ⟨fun hs=>?_,q2,Nat.lt_of_lt_of_le q3 k.size⟩
    rcases hS' c hs with h1|h1
    ·exact q1 h1
    ·omega
  ·intro j l ej el hj hl hjl c hc
   rw [n8] at hj hl
   by_cases e1:j=i
   ·subst e1
    rw [if_pos rfl] at hj; cases hj
    rw [if_neg (Ne.symm hjl)] at hl
    rw [(hsame l (Ne.symm hjl)).j8]
    exact (hnew c hc).2 l el (Ne.symm hjl) hl
   ·rw [if_neg e1] at hj
    rw [(hsame j e1).j8] at hc
    by_cases e2:l=i
    ·subst e2
     rw [if_pos rfl] at hl; cases hl
     exact fun hcc=>(hnew c hcc).2 j ej e1 hj hc
    ·rw [if_neg e2] at hl
     rw [(hsame l e2).j8]
     exact h.hs.dj j l ej el hj hl hjl c hc
  ·intro q hq
   obtain ⟨k0,⟨e1,k1⟩,k2,k3⟩:=h.hs.pin q hq
   refine ⟨k0,?_,k2,k3⟩
   rw [n8]
   by_cases e2:q.1=i
   ·exact ⟨_,by rw [if_pos e2]⟩
   ·exact ⟨e1,by rw [if_neg e2]; exact k1⟩
 refine ⟨hHS,h.Y2,h.sz,?_⟩
 intro t v hv
 simp only [St.r9,St.P9,F1,Option.map_eq_some_iff] at hv
 obtain ⟨v0,hv0,rfl⟩:=hv
 refine VX.map (fun c hc=>hold (.inr hc)) hS (fun v vs hr hm hvx=>?_) (h.fr t v0 hv0)
 unfold AV.a03
 have honex:=VX.one hr hvx
 cases hmi:v.f8 i with
 | false =>
  have hne:∀ j,v.f8 j=true→j≠i:=by rintro j hj rfl; rw [hmi] at hj; cases hj
  have hst:VX w'.heap S' ι (del i s.hp) v vs:=by
   refine VX.grow (fun c hcm=>hold ?_) hS h.hs.slt (fun j ej hj=>?_) (VX.other (hp':=del i s.hp) (fun j hj=>by rw [G4,if_neg (hne j hj)]) (fun j _=>A7.refl ι j) hvx)
   ·rcases hcm with ⟨j,ej,hj,hcj⟩|hcm
    ·rw [G4] at hj
     split at hj
     ·cases hj
     ·rename_i hji
      exact .inl ⟨j,ej,hji,hj,hcj⟩
    ·exact .inr hcm
   ·rw [G4] at hj
    split at hj
    ·cases hj
    ·exact h.hs.ob j ej hj
  exact VX.other (fun j hj=>by simp only [St.r9,n8,G4,if_neg (hne j hj)]; rfl) (fun j hj=>hsame j (hne j hj)) hst
 | true =>
  simp only
  cases v<;>simp only [AV.ref] at hr<;>try cases hr
  ·rename_i j q
   have hji:i=j:=Nat.eq_of_beq_eq_true hmi
   subst hji
   cases hfl:a2v q with
   | false=>simp only [hfl]; exact honex
   | true =>
    simp only [hfl]
    obtain ⟨ej,b2,off2,k1,k2,k3,k4⟩:=hvx
    rw [he] at k1; cases k1
    rcases hal with ⟨t0,x0,x1,rfl,rfl⟩|⟨t0,x0,x1,rfl,rfl⟩|⟨o0,k0,v0,x0,x1,rfl,rfl⟩
    ·obtain ⟨p1,p2⟩:=w5 k3
     refine ⟨.var t0 x1,b2,off2,by simp [St.r9,n8],b3L hfl k2,P4 ?_ (Nat.lt_of_lt_of_le p2 k.size),k4⟩
     simp only [Place,VR,VH,Ix.x7,i6.ty] at p1 ⊢
     rw [b1F (G':=w.heap) hfl]; exact p1
    ·exfalso
     obtain ⟨p1,p2⟩:=w5 k3
     cases q with
     | nil =>
      simp only [Place,w4,VR,Option.some.injEq,Prod.mk.injEq] at p1
      omega
     | cons st q =>
      cases st with
      | j6 n=>have k2:u6 (.d0 true t0) x0 (.j6 n::q):=k2; simp [u6] at k2
      | idx n=>cases hfl
    ·exfalso
     obtain ⟨p1,p2⟩:=w5 k3
     cases q with
     | nil =>
      simp only [Place,w4,VR,Option.some.injEq,Prod.mk.injEq] at p1
      omega
     | cons st q =>
      cases st with
      | j6 n=>have k2:u6 (.map o0 k0 v0) x0 (.j6 n::q):=k2; simp [u6] at k2
      | idx n=>cases hfl
  ·rename_i j q
   have hji:i=j:=Nat.eq_of_beq_eq_true hmi
   subst hji
   cases q with
   | cons st q=>exact honex
   | nil =>
    rcases hal with ⟨t0,x0,x1,rfl,rfl⟩|⟨t0,x0,x1,rfl,rfl⟩|⟨o0,k0,v0,x0,x1,rfl,rfl⟩
    ·exact honex
    ·obtain ⟨ej,u2,y2,cs2,k1,k2,k3,k4,k5⟩:=hvx
     rw [he] at k1; cases k1
     rw [y7] at k3; cases k3
     obtain ⟨⟨O1,_,hR1⟩,_⟩:=h.hs.ob i _ he
     have hcs2:=M8 k4 hR1.length
     exact ⟨.own (.d0 true t0) x1,.d0 true t0,x1,cs2,by simp [St.r9,n8],J1,y7,a0K (show ι.cells i=cs2 from hcs2.symm) (by rw [hcs2]; exact hR1.length),k5⟩
    ·obtain ⟨ej,u2,y2,cs2,k1,k2,k3,k4,k5⟩:=hvx
     rw [he] at k1; cases k1
     rw [y7] at k3; cases k3
     obtain ⟨⟨O1,_,hR1⟩,_⟩:=h.hs.ob i _ he
     have hcs2:=M8 k4 hR1.length
     exact ⟨.own (.map o0 k0 v0) x1,.map o0 k0 v0,x1,cs2,by simp [St.r9,n8],J1,y7,a0K (show ι.cells i=cs2 from hcs2.symm) (by rw [hcs2]; exact hR1.length),k5⟩
  ·rename_i j q lo hi
   have hji:i=j:=Nat.eq_of_beq_eq_true hmi
   subst hji
   cases q with
   | cons st q=>exact honex
   | nil =>
    rcases hal with ⟨t0,x0,x1,rfl,rfl⟩|⟨t0,x0,x1,rfl,rfl⟩|⟨o0,k0,v0,x0,x1,rfl,rfl⟩
    ·exact honex
    ·obtain ⟨ej,v2,k1,k2,k3,k4,k5,k6⟩:=hvx
     rw [he] at k1; cases k1
     obtain ⟨⟨O1,_,hR1⟩,_⟩:=h.hs.ob i _ he
     rcases k6 with ⟨t',l,a',cap,g1,g2,g3,g4⟩|⟨n,t',l,b2,off2,g1,g2,g3,g4⟩
     ·have g1:i8 (.d0 true t0) x0 []=some ⟨.d0 true t',l⟩:=g1
      rw [y7] at g1; cases g1
      have hcs2:=M8 g3 hR1.length
      have hlen:List.length x1=List.length x0:=by
       obtain ⟨⟨O'',_,hR''⟩,_⟩:=hob
       have hcc:(ι.x7 i O').cells i=[.slice a' (List.length x0) cap]:=(show ι.cells i=_ from hcs2.symm)
       rw [hcc] at hR''
       rcases hR'' with ⟨_,⟨a2,c2,h1,_⟩,h3⟩|⟨b3,o3,cap3,O3,c1,_⟩
       ·simp only [List.cons.injEq,Value.slice.injEq,and_true] at h1
        subst h3
        simp [h1.2.1]
       ·simp only [List.cons.injEq,Value.slice.injEq,and_true] at c1
        exact c1.2.1.symm
      refine ⟨.own (.d0 true t0) x1,v2,by simp [St.r9,n8],J1,k3,k4,k5,.inl ⟨t0,x1,a',cap,y7,by rw [hlen]; exact g2,?_,g4⟩⟩
      rw [hlen]
      exact a0K (show ι.cells i=_ from hcs2.symm) rfl
     ·exfalso
      simp only [Loc,Place,w4,VR] at g3
      simp at g3
    ·exfalso
     obtain ⟨ej,v2,k1,k2,k3,k4,k5,k6⟩:=hvx
     rw [he] at k1; cases k1
     rcases k6 with ⟨t',l,a',cap,g1,_⟩|⟨n,t',l,b2,off2,g1,_⟩
     ·have g1:i8 (.map o0 k0 v0) x0 []=some ⟨.d0 true t',l⟩:=g1
      rw [y7] at g1; cases g1
     ·have g1:i8 (.map o0 k0 v0) x0 []=some ⟨.arr n t',l⟩:=g1
      rw [y7] at g1; cases g1

end
end Go.Ex
