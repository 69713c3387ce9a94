import Derived.Test.YtijlnmgondibnaaGreatDoorExK2
import Derived.Laws.IdiomCopy
import Derived.Laws.Strings
import Derived.Laws.CopyRow
set_option linter.unusedVariables false
set_option linter.unusedSimpArgs false
set_option linter.unusedSectionVars false

namespace Go.Ex

/-! ### contracts: what they say -/
section
variable (H:Array Go.Obj) (S:Nat→Prop)
def b9R (t:Ty) (v:Value) (x:t.den):Prop :=
 ∃ b off,v=.pointer (some ⟨b,off,none⟩)∧S b∧off+t.size≤(s5 H b).length∧f7 H S t [] (d8 H b off t.size) x

def RdL:(ts:List Ty)→List Value→DL ts→Prop
 | [],vs,_=>vs=[]
 | t::ts,vs,x=>∃ v us,vs=v::us∧b9R H S t v x.1∧RdL ts us x.2

def c6P:(k:PK)→Value→k.den→List Nat→Prop
 | .v t,v,x,L=>L=[]∧∃ cs,v=j7 t cs∧f7 H S t [] cs x
 | .rd t,v,x,L=>L=[]∧b9R H S t v x
 | .B8 f ts,v,x,L=>L=[]∧∃ us,v=.func (.func f) #[] us.toArray∧RdL H S ts us x
 | .own t,v,x,L=>∃ cs,v=j7 t cs∧f7 H S t L cs x
 | .rw t,v,x,L=>∃ b off O,v=.pointer (some ⟨b,off,none⟩)∧f7 H S t O (d8 H b off t.size) x∧K4 H b (off+t.size)∧L=b::O
 | .mu t,v,x,L=>∃ cs,v=j7 (.d0 true t) cs∧f7 H S (.d0 true t) L cs x
 | .S7,v,_,L=>L=[]∧v=.slice none 0 0
 | .Y2 _ _,_,_,L=>L=[]
 | .el _,_,_,L=>L=[]

def Q7:(ks:List PK)→List Value→DK ks→List Nat→Prop
 | [],vs,_,L=>vs=[]∧L=[]
 | k::ks,vs,x,L=>∃ v us L1 L2,vs=v::us∧L=L1++L2∧c6P H S k v x.1 L1∧Q7 ks us x.2 L2

def J1:(ts:List Ty)→List Nat→List Value→DL ts→Prop
 | [],O,vs,_=>O=[]∧vs=[]
 | t::ts,O,vs,x=>∃ v us O1 O2 cs,vs=v::us∧O=O1++O2∧v=j7 t cs∧f7 H S t O1 cs x.1∧J1 ts O2 us x.2

def E9:(ks:List PK)→List Value→DL (F3 ks)→List Nat→Prop
 | [],vs,_,L=>vs=[]∧L=[]
 | .rw t::ks,vs,y,L=>∃ b off O us L',vs=.pointer (some ⟨b,off,none⟩)::us∧f7 H S t O (d8 H b off t.size) y.1∧K4 H b (off+t.size)∧L=(b::O)++L'∧E9 ks us y.2 L'
 | .mu t::ks,vs,y,L=>∃ cs O us L',vs=j7 (.d0 true t) cs::us∧cs.length=1∧f7 H S (.d0 true t) O cs y.1∧L=O++L'∧E9 ks us y.2 L'
 | .v _::ks,vs,y,L=>∃ v us,vs=v::us∧E9 ks us y L
 | .rd _::ks,vs,y,L=>∃ v us,vs=v::us∧E9 ks us y L
 | .B8 _ _::ks,vs,y,L=>∃ v us,vs=v::us∧E9 ks us y L
 | .own _::ks,vs,y,L=>∃ v us,vs=v::us∧E9 ks us y L
 | .S7::ks,vs,y,L=>∃ v us,vs=v::us∧E9 ks us y L
 | .Y2 _ _::ks,vs,y,L=>∃ v us,vs=v::us∧E9 ks us y L
 | .el _::ks,vs,y,L=>∃ v us,vs=v::us∧E9 ks us y L

def W7:(ks:List PK)→Option (Sigma Ty.den)→List Value→List Value→DK ks→Prop
 | [],_,_,_,_=>True
 | .Y2 f n::ks,_,pre,vs,x=>(∃ us b off,vs=Value.pointer (some ⟨b,off,none⟩)::us∧S b∧off+1≤(s5 H b).length∧d8 H b off 1=[.func (.func f) #[] ((pre.take n).reverse++[Value.pointer (some ⟨b,off,none⟩)]).toArray]∧n≤pre.length) ∧
   W7 ks none (vs.take 1++pre) (vs.drop 1) x.2
 | .el q::ks,c,pre,vs,x=>(∃ t y b0 off0 pre' b off us,c=some ⟨t,y⟩∧pre=Value.pointer (some ⟨b0,off0,none⟩)::pre'∧vs=Value.pointer (some ⟨b,off,none⟩)::us∧w4 t y (q++[.idx x.1])∧w7 H t (q++[.idx x.1]) b0 off0=some (b,off)∧b<H.size) ∧
   W7 ks none (vs.take 1++pre) (vs.drop 1) x.2
 | .rw t::ks,_,pre,vs,x=>W7 ks (some ⟨t,x.1⟩) (vs.take 1++pre) (vs.drop 1) x.2
 | .v _::ks,_,pre,vs,x=>W7 ks none (vs.take 1++pre) (vs.drop 1) x.2
 | .rd _::ks,_,pre,vs,x=>W7 ks none (vs.take 1++pre) (vs.drop 1) x.2
 | .B8 _ _::ks,_,pre,vs,x=>W7 ks none (vs.take 1++pre) (vs.drop 1) x.2
 | .own _::ks,_,pre,vs,x=>W7 ks none (vs.take 1++pre) (vs.drop 1) x.2
 | .mu _::ks,_,pre,vs,x=>W7 ks none (vs.take 1++pre) (vs.drop 1) x.2
 | .S7::ks,_,pre,vs,x=>W7 ks none (vs.take 1++pre) (vs.drop 1) x.2
end

def PK.lnk:PK→Bool
 | .Y2 _ _|.el _=>true
 | _=>false

theorem a1z {H:Array Go.Obj} {S:Nat→Prop}:∀ {ks:List PK} {c:Option (Sigma Ty.den)} {pre vs:List Value} {x:DK ks},ks.any PK.lnk=false→W7 H S ks c pre vs x
 | [],_,_,_,_,_=>trivial
 | k::ks,c,pre,vs,x,h=>by
  rw [List.any_cons,Bool.or_eq_false_iff] at h
  cases k<;>first|(exfalso; simp [PK.lnk] at h; done)|exact a1z (ks:=ks) h.2

def a3d:List Value→Value
 | [v]=>v
 | us=>.tuple us.toArray

structure y8 (L:List Nat) (w w':World):Prop where
 os:w'.os=w.os
 tape:S9 w w'
 out:w'.output=w.output
 size:w.heap.size≤w'.heap.size
 frame:∀ c,c<w.heap.size→c∉L→w'.heap[c]?=w.heap[c]?

def a2Z (w:World) (S:Nat→Prop) (rs:List Ty) (ps:List PK) (vs:List Value) (L:List Nat) (y:DL rs) (z:DL (F3 ps)) (e:Ending) (w':World):Prop :=
 ∃ us O Lo S',e=.returned (a3d us)∧y8 L w w'∧(∀ b,S b→S' b)∧(∀ b,S' b→S b∨((w.heap.size≤b∨b∈L)∧b<w'.heap.size)) ∧
  J1 w'.heap S' rs O us y∧E9 w'.heap S' ps vs z Lo∧(O++Lo).Nodup∧∀ b∈O++Lo,¬ S' b∧(w.heap.size≤b∨b∈L)∧b<w'.heap.size

/-! ### package-level variables that are only read -/
def b3M:List (String×(Array Value→Prop)) :=
 [("internal/strconv.uint64pow10",fun cs=>cs=(((List.range 20).map fun i=>((10^i:Nat):Int)).map fun z=>Value.int .u64 z).toArray),
 ("internal/bytealg.MaxLen",fun cs=>∃ m,cs[0]?=some (.int .i64 m))]

def a0r (P:Program) (w:World) (S:Nat→Prop):Prop:=∀ x∈b3M,∀ g,P.globalNamed x.1=some g→S g∧∃ cs,w.var? P x.1=some cs∧x.2 cs

theorem a0r.mono {P:Program} {w w':World} {S S':Nat→Prop} (h:a0r P w S) (hH:∀ b,S b→w'.heap[b]?=w.heap[b]?) (hS:∀ b,S b→S' b):a0r P w' S':=by
 intro x hx g hg
 obtain ⟨h1,cs,h2,h3⟩:=h x hx g hg
 refine ⟨hS _ h1,cs,?_,h3⟩
 unfold World.var? at h2 ⊢
 rw [hg,Option.bind_some] at h2 ⊢
 rw [hH _ h1]
 exact h2

theorem a0r.sub {P:Program} {w:World} {S S':Nat→Prop} (h:a0r P w S) (hS:∀ b,S b→S' b):a0r P w S':=h.mono (fun _ _=>rfl) hS

theorem a0r.none {P:Program} {w:World} {S:Nat→Prop} (h:(b3M.all fun x=>(P.globalNamed x.1).isNone)=true):a0r P w S:=by
 intro x hx g hg
 have:=List.all_eq_true.1 h x hx
 rw [hg] at this
 cases this

def GlB (P:Program) (B:D4):Prop:=a0r P B.w0 B.S0∧∀ b,B.S0 b→b<B.w0.heap.size∧¬ B.M b

theorem GlB.at_ {P:Program} {B:D4} {S:Nat→Prop} {ι:Ix} {hp:List (Nat×g8)} {w:World} (h:GlB P B) (hs:HS B S ι hp w):a0r P w S :=
 h.1.mono (fun b hb=>hs.frame b (h.2 b hb).1 (h.2 b hb).2) hs.s0

structure p7.Valid (P:Program) (f:FuncId) (c:p7):Prop where
 ent:∃ fn,P.funcs[f]?=some fn∧(fn.name == "runtime.NumGoroutine")=false∧fn.body.isNone=false
 run:∀ (w:World) (S:Nat→Prop) (vs:List Value) (x:DK c.ps) (L:List Nat),(∀ b,S b→b<w.heap.size)→a0r P w S→c.pre x→Q7 w.heap S c.ps vs x L→W7 w.heap S c.ps none [] vs x→L.Nodup→(∀ b∈L,¬ S b∧b<w.heap.size) →
  Calls P f vs.toArray w (a2Z w S c.rs c.ps vs L (c.fn x) (c.out x))
 fresh:c.new=true→∀ (w:World) (S:Nat→Prop) (vs:List Value) (x:DK c.ps) (L:List Nat),(∀ b,S b→b<w.heap.size)→a0r P w S→c.pre x→Q7 w.heap S c.ps vs x L→W7 w.heap S c.ps none [] vs x→L.Nodup→(∀ b∈L,¬ S b∧b<w.heap.size) →
  Calls P f vs.toArray w (fun e w'=>∃ us O Lo S',e=.returned (a3d us)∧y8 L w w'∧(∀ b,S b→S' b)∧(∀ b,S' b→S b∨((w.heap.size≤b∨b∈L)∧b<w'.heap.size)) ∧
   J1 w'.heap S' c.rs O us (c.fn x)∧E9 w'.heap S' c.ps vs (c.out x) Lo∧(O++Lo).Nodup∧(∀ b∈O++Lo,¬ S' b∧(w.heap.size≤b∨b∈L)∧b<w'.heap.size) ∧
   J1 w'.heap (fun b=>S' b∧w.heap.size≤b) c.rs O us (c.fn x))

def c6L (p:List Step):(ps:List PK)→DK ps→Prop
 | .rw t::_,x=>w4 t x.1 p
 | _,_=>True

def c6O (p:List Step) (H H':Array Go.Obj):(ps:List PK)→List Value→DL (F3 ps)→Prop
 | .rw t::_,vs,z=>(match vs with
  | .pointer (some ⟨b,off,none⟩)::_=>w4 t z.1 p∧w7 H' t p b off=w7 H t p b off
  | _=>True)
 | _,_,_=>True

def p7.Kept (P:Program) (f:FuncId) (c:p7) (pat:List (Option Nat)):Prop :=
 ∀ (w:World) (S:Nat→Prop) (vs:List Value) (x:DK c.ps) (L:List Nat),(∀ b,S b→b<w.heap.size)→a0r P w S→c.pre x→Q7 w.heap S c.ps vs x L→W7 w.heap S c.ps none [] vs x→L.Nodup→(∀ b∈L,¬ S b∧b<w.heap.size) →
  ∀ p,pm pat p=true→c6L p c.ps x→Calls P f vs.toArray w (fun e w'=>a2Z w S c.rs c.ps vs L (c.fn x) (c.out x) e w'∧c6O p w.heap w'.heap c.ps vs (c.out x))

structure u7 (E:Env):Prop where
 tt:∀ T i,look T E.tt=some i→a4R E.P (T,i)=true
 C0:∀ f c,look f E.C0=some c→c.Valid E.P f
 kept:∀ f c pat,look f E.C0=some c→look f E.keeps=some pat→c.Kept E.P f pat

structure C2 (E:Env) (B:D4):Prop extends u7 E where
 gb:GlB E.P B

/-! ### the state, step by step -/
section
variable {E:Env} {B:D4} {S:Nat→Prop} {ι:Ix} {s:St} {a:Act} {w:World}

theorem RS.get (h:RS B S ι s a w) (t:Nat):VX w.heap S ι s.hp (s.get t) [a.tmps.getD t (B.gd t)]:=by
 unfold St.get
 cases hl:look t s.fr with
 | none=>exact ⟨_,rfl⟩
 | some v=>exact h.fr t v hl

theorem VX.const (v:Value) {H:Array Go.Obj} {hp:List (Nat×g8)}:VX H S ι hp (ofConst v) [v]:=by
 unfold ofConst
 split
 ·rename_i k n
  split
  ·rename_i h; exact ⟨[.int k n],rfl,rfl,rfl,h⟩
  ·rfl
 ·rename_i b; exact ⟨[.bool b],rfl,rfl,rfl⟩
 ·rename_i s
  split
  ·rename_i h
   refine ⟨[.string s],rfl,rfl,?_,by simpa using h⟩
   simp
  ·rfl
 ·rfl

theorem RS.ev (h:RS B S ι s a w) (x:Operand):VX w.heap S ι s.hp (s.ev x) [a.eval x]:=by
 cases x with
 | tmp t =>
  show VX w.heap S ι s.hp (match Nat.beq t H4 with|true=>.any|false=>s.get t) [a.tmps.getD t undef]
  have:=h.get t
  unfold D4.gd at this
  cases hb:Nat.beq t H4 with
  | true=>exact ⟨_,rfl⟩
  | false=>rw [hb] at this; exact this
 | const v=>exact VX.const v
 | global g=>exact ⟨_,rfl⟩
 | func f=>exact ⟨[],by simp [Act.eval],rfl⟩

theorem RS.H9 (h:RS B S ι s a w):∀ l:List Operand,VX w.heap S ι s.hp (s.H9 l) (l.map a.eval)
 | []=>rfl
 | x::l=>⟨_,_,rfl,h.ev x,h.H9 l⟩

theorem RS.put (h:RS B S ι s a w) {d:Option Nat} (hd:J4 B.n d=true) {v:AV} {val:Value} (hv:VX w.heap S ι s.hp v [val]):RS B S ι (s.put d v) (a.put d val) w:=by
 cases d with
 | none=>exact h
 | some d =>
  have hlt:d<B.n:=by simpa [J4,Nat.blt_eq] using hd
  refine ⟨h.hs,h.dfr,by simpa [Act.put] using h.sz,?_⟩
  intro t v' ht
  simp only [St.put,o5] at ht
  simp only [Act.put]
  by_cases e:t=d
  ·subst e
   rw [if_pos rfl] at ht; cases ht
   have:t<a.tmps.size:=by rw [h.sz]; exact hlt
   show VX w.heap S ι s.hp v [_]
   simpa [Array.getD,this,Array.getElem?_setIfInBounds] using hv
  ·rw [if_neg e] at ht
   have:=h.fr t v' ht
   show VX w.heap S ι s.hp v' [_]
   simpa [Array.getD_eq_getD_getElem?,Array.getElem?_setIfInBounds_ne (Ne.symm e)] using this

def u6 (P:Program) (B:D4) (o:Oper) (a:Act) (w:World) (v:AV) (s':St):Prop :=
 ∀ (next:Act→World→Prop) (Q:Exit→Act→World→Prop),
  (∀ S' ι' w' val,RS B S' ι' s' a w'→VX w'.heap S' ι' s'.hp v [val]→next (a.put o.dst val) w')→o.wp P a w next Q

theorem u6.value {P:Program} {o:Oper} {v:AV} {val:Value} (hr:(execOp a.eval o).run P w=.ok (.value val) w) (h:RS B S ι s a w) (hv:VX w.heap S ι s.hp v [val]) :
  u6 P B o a w v s:=by
 intro next Q hn
 unfold Oper.wp
 rw [hr]
 exact hn S ι w val h hv

theorem C1 (hE:C2 E B) {T:TypeId} {u:Ty} (h:I0 E T u=true):n8 E.P 100 T u=true:=by
 unfold I0 at h
 split at h
 ·rename_i i hi
  have h1:=hE.tt T i hi
  simp only [a4R,Bool.and_eq_true] at h1
  exact c2l (a4n (of_decide_eq_true h).symm (c2m h1.1))
 ·cases h

theorem p9 (hE:C2 E B) {T:TypeId} {i:TI} (h:look T E.tt=some i):n8 E.P 100 T i.ty=true:=by
 have h1:=hE.tt T i h
 simp only [a4R,Bool.and_eq_true] at h1
 exact h1.1

/-! reading memory -/
theorem J8 {b off n:Nat} {j:Nat} {v:Value} (h:(d8 w.heap b off n)[j]?=some v):w.cell? ⟨b,off+j,none⟩=some v:=by
 simp only [d8,List.getElem?_take,List.getElem?_drop] at h
 split at h
 ·unfold s5 at h
  split at h
  ·rename_i arr T fz e
   simp [World.cell?,e] 
   simpa using h
  ·simp at h
 ·cases h

theorem Addr.F6 (b off n:Nat):(⟨b,off,none⟩:Addr).add n=⟨b,off+n,none⟩:=by
 unfold Addr.add
 split
 ·subst_vars; simp
 ·rfl

theorem a33 {P:Program} {T:TypeId} {t:Ty} {n:Nat} (ht:n8 P n T t=true) {b off:Nat} {O:List Nat} {x:t.den} (hR:f7 w.heap S t O (d8 w.heap b off t.size) x) :
  (loadVar T ⟨b,off,none⟩).run P w=.ok (j7 t (d8 w.heap b off t.size)) w:=by
 have hl:=hR.length
 simp only [loadVar,Sem.run_bind,a55 ht,Result.andThen]
 cases hg:t.agg with
 | true =>
  simp only [if_true,Sem.run_bind,run_sizeOf ht,Result.andThen]
  have:=run_loadCells_list (P:=P) w ⟨b,off,none⟩ (d8 w.heap b off t.size) (fun j v h=>by rw [Addr.F6]; exact J8 h)
  rw [hl] at this
  rw [this]
  simp [j7,hg]
 | false =>
  have h1:t.size=1:=by cases t<;>simp_all [Ty.agg,Ty.size]
  rw [h1] at hl ⊢
  match hc:d8 w.heap b off 1,hl with
  | [c],_ =>
   have:=J8 (w:=w) (b:=b) (off:=off) (n:=1) (j:=0) (v:=c) (by rw [hc]; rfl)
   simp only [Nat.add_zero] at this
   simp [run_load,this,j7,hg]

theorem Q6 {P:Program} {o:Oper} {sem:Sem Value} {val:Value} {w':World} (h:execOp a.eval o=(do pure (.value (← sem)))) (hr:sem.run P w=.ok val w') :
  (execOp a.eval o).run P w=.ok (.value val) w':=by
 rw [h]; simp [hr]

theorem G3 {i:Nat} {e:g8} (h1:look i s.hp=some e) {p:List Step} {r:Sigma Ty.den} (h:s.part i p=some r):j6 e.ty e.x p=some r:=by
 unfold St.part St.obj at h
 rw [h1] at h
 exact h

theorem c5b (hE:C2 E B) {T:TypeId} (ht:c4m (look T E.tt)=true) {l:AV} {val:Value} (hv:VX w.heap S ι s.hp (.bx l) [val]) :
  ∃ u,(Instr.loadAt T val).run E.P w=.ok u w∧VX w.heap S ι s.hp l [u]:=by
 obtain ⟨b,off,u,e,hb,h1,h2,h3⟩:=hv
 refine ⟨u,?_,h3⟩
 obtain rfl:val=.pointer (some ⟨b,off,none⟩):=by simpa using e
 obtain ⟨t,hta,hag⟩:∃ t,n8 E.P 100 T t=true∧t.agg=false:=by
  cases hl:look T E.tt with
  | none=>rw [hl] at ht; cases ht
  | some i =>
   rw [hl] at ht
   refine ⟨i.ty,p9 hE hl,?_⟩
   obtain ⟨ty,n⟩:=i
   cases ty<;>first|rfl|cases ht
 have:=J8 (w:=w) (b:=b) (off:=off) (n:=1) (j:=0) (v:=u) (by rw [h2]; rfl)
 simp only [Nat.add_zero] at this
 simp [Instr.loadAt,Instr.sureAddr,loadVar,a55 hta,hag,run_load,this]

theorem b5P (hE:C2 E B) (h:RS B S ι s a w) {o:Oper} {T:TypeId} {x:Operand} (ho:o.op=.load T x) {v:AV} {s':St} (hl:a05 E T (s.ev x) s=.ok v s') :
  u6 E.P B o a w v s':=by
 have he:execOp a.eval o=(do pure (.value (← Instr.loadAt T (a.eval x)))):=by simp [execOp,ho]
 have hv:=h.ev x
 unfold a05 at hl
 split at hl
 ·rename_i t y hx
  rw [hx] at hv
  obtain ⟨b,off,e,hb,hr,hR⟩:=hv
  split at hl
  ·rename_i hc
   cases hl
   have e:a.eval x=.pointer (some ⟨b,off,none⟩):=by simpa using e
   refine u6.value (Q6 he (w':=w) (val:=j7 t (d8 w.heap b off t.size)) ?_) h ⟨_,rfl,hR⟩
   rw [e]
   simp [Instr.loadAt,Instr.sureAddr,a33 (C1 hE hc) hR]
  ·cases hl
 ·rename_i l hx
  rw [hx] at hv
  split at hl
  ·rename_i ht
   cases hl
   obtain ⟨val,k1,k2⟩:=c5b (hE:=hE) ht hv
   exact u6.value (Q6 he k1) h k2
  ·cases hl
 ·rename_i i p hx
  rw [hx] at hv
  obtain ⟨e,b,off,h1,h2,h3,h4⟩:=hv
  have h4:a.eval x=.pointer (some ⟨b,off,none⟩):=by simpa using h4
  split at hl
  ·rename_i u y hpt
   have hg:=G3 h1 hpt
   obtain ⟨O2,k1,k2,k3,k4,k5⟩:=N2 (K3 h3) (h.hs.ob i e h1) h.hs.slt h2 hg h3
   split at hl
   ·rename_i hc
    have hr:(Instr.loadAt T (a.eval x)).run E.P w=.ok (j7 u (d8 w.heap b off u.size)) w:=by
     rw [h4]; simp [Instr.loadAt,Instr.sureAddr,a33 (C1 hE hc) k3]
    split at hl
    ·rename_i hs
     cases hl
     have:=k3.J5 hs
     subst this
     exact u6.value (Q6 he hr) h ⟨_,rfl,k3⟩
    ·cases hl
     have hp:=y9 h3
     exact u6.value (Q6 he hr) h ⟨e,u,y,_,h1,h2,hg,⟨b,off,hp.1,(l4 (E8 hp.2) _ _).symm⟩,rfl⟩
   ·cases hl
  ·cases hl
 ·cases hl

/-! arithmetic -/
theorem P8 (k:IntKind) (n:Int):q9 k (k.wrap n):=by
 unfold q9 IntKind.wrap IntKind.min IntKind.max
 have h1:(0:Int)<2^k.bits:=by cases k<;>decide
 have h2:=Int.emod_nonneg n (b:=2^k.bits) (by omega)
 have h3:=Int.emod_lt_of_pos n h1
 cases k<;>simp [IntKind.signed,IntKind.bits] at*<;> (try split)<;>omega

theorem K7 {k:IntKind} {n:Int} (h:q9 k n):k.wrap n=n:=by
 unfold q9 IntKind.min IntKind.max at h
 unfold IntKind.wrap
 cases k<;>simp [IntKind.signed,IntKind.bits] at*<;> (try split)<;>omega

theorem VX.int {H:Array Go.Obj} {hp:List (Nat×g8)} {k:IntKind} {n:Int} (h:q9 k n):VX H S ι hp (.val (.int k) n) [.int k n]:=⟨[.int k n],rfl,rfl,rfl,h⟩
theorem VX.bool {H:Array Go.Obj} {hp:List (Nat×g8)} {b:Bool}:VX H S ι hp (.val .bool b) [.bool b]:=⟨[.bool b],rfl,rfl,rfl⟩
theorem VX.str {H:Array Go.Obj} {hp:List (Nat×g8)} {l:List UInt8} (h:l.length≤maxLen):VX H S ι hp (.val .str l) [.string ⟨l.toArray⟩]:=⟨[.string ⟨l.toArray⟩],rfl,rfl,rfl,h⟩

theorem VX.F8 {H:Array Go.Obj} {hp:List (Nat×g8)} {k:IntKind} {n:Int} {v:Value} (h:VX H S ι hp (.val (.int k) n) [v]):v=.int k n∧q9 k n:=by
 obtain ⟨cs,e,_,rfl,h2⟩:=h
 exact ⟨by simpa [j7,Ty.agg] using e,h2⟩
theorem VX.a14 {H:Array Go.Obj} {hp:List (Nat×g8)} {b:Bool} {v:Value} (h:VX H S ι hp (.val .bool b) [v]):v=.bool b:=by
 obtain ⟨cs,e,_,rfl⟩:=h
 simpa [j7,Ty.agg] using e
theorem VX.a1S {H:Array Go.Obj} {hp:List (Nat×g8)} {l:List UInt8} {v:Value} (h:VX H S ι hp (.val .str l) [v]):v=.string ⟨l.toArray⟩∧l.length≤maxLen:=by
 obtain ⟨cs,e,_,rfl,h2⟩:=h
 exact ⟨by simpa [j7,Ty.agg] using e,h2⟩

def D3 (P:Program) (B:D4) (o:Oper) (a:Act) (w:World):OR→Prop
 | .fail _=>True
 | .ok v s=>u6 P B o a w v s
 | .E4 p v s=>p→u6 P B o a w v s

theorem D3.pure {P:Program} {o:Oper} {sem:Sem Value} (he:execOp a.eval o=(do pure (.value (← sem)))) (h:RS B S ι s a w) {v:AV} {val:Value} (hr:sem.run P w=.ok val w)
  (hv:VX w.heap S ι s.hp v [val]):u6 P B o a w v s:=u6.value (Q6 he hr) h hv

theorem a2g {P:Program} {o:Oper} {k:IntKind} {r:Int} (he:(execOp a.eval o).run P w=.ok (.value (.int k (k.wrap r))) w) (h:RS B S ι s a w):D3 P B o a w (arith k r s):=by
 unfold arith
 split
 ·intro hk
  exact u6.value (by rw [he,K7 hk]) h (VX.int hk)
 ·exact u6.value he h (VX.int (P8 _ _))

theorem R3 {P:Program} {o:Oper} {op:BinOp} {T T':TypeId} {x y:Operand} (ho:o.op=.binOp op T x y T') (hg:(eqGuard op T x y (a.eval x) (a.eval y)).run P w=.ok () w) {r:Result Value}
  (hr:(binOp op T (a.eval x) (a.eval y)).run P w=r):(execOp a.eval o).run P w=r.andThen fun v w'=>.ok (.value v) w':=by
 simp only [execOp,ho,Sem.run_bind,hg,Result.andThen,hr]
 cases r<;>rfl

theorem b9G (h:RS B S ι s a w) {o:Oper} {op:BinOp} {T T':TypeId} {x y:Operand} (ho:o.op=.binOp op T x y T') {P:Program} {k k':IntKind} {m n:Int}
  (hx:a.eval x=.int k m) (bx:q9 k m) (hy:a.eval y=.int k' n) (by_:q9 k' n):D3 P B o a w (a8C op k m k' n s):=by
 have hg:(eqGuard op T x y (a.eval x) (a.eval y)).run P w=.ok () w:=by rw [hx,hy]; cases op<;>rfl
 have run:∀ {r:Result Value},(binOp op T (.int k m) (.int k' n)).run P w=r→(execOp a.eval o).run P w=r.andThen fun v w'=>.ok (.value v) w':=by
  intro r hr
  exact R3 ho hg (by rw [hx,hy]; exact hr)
 have h0:k.min≤0:=by cases k<;>decide
 have h1:0≤k.max:=by cases k<;>decide
 unfold a8C
 split
 ·intro hn
  have:¬ n<0:=by omega
  exact u6.value (by rw [run (r:=.ok (.int k (k.wrap (m*2^(min n.toNat k.bits)))) w)]; rfl; simp [binOp,Op.shift,this]) h (VX.int (P8 _ _))
 ·intro hn
  have:¬ n<0:=by omega
  generalize hc:min n.toNat k.bits=c
  have hp:(0:Int)<2^c:=Int.pow_pos (by decide)
  have hb:q9 k (m / 2^c):=by
   unfold q9 at *
   refine ⟨?_,?_⟩
   ·apply (Int.le_ediv_iff_mul_le hp).2
    by_cases hm:m<0
    ·have:k.min*2^c≤k.min*1:=Int.mul_le_mul_of_nonpos_left h0 (by omega)
     omega
    ·have:k.min*2^c≤0:=Int.mul_nonpos_of_nonpos_of_nonneg h0 (Int.le_of_lt hp)
     omega
   ·by_cases hm:m<0
    ·have:=Int.ediv_neg_of_neg_of_pos hm hp
     omega
    ·have:=Int.ediv_le_self (2^c) (a:=m) (by omega)
     omega
  refine u6.value (by rw [run (r:=.ok (.int k (m / 2^c)) w)]; rfl; simp [binOp,Op.shift,this,hc,Int.fdiv_eq_ediv_of_nonneg _ (Int.le_of_lt hp)]) h (VX.int hb)
 ·rename_i hne1 hne2
  split
  ·rename_i hk; subst hk
   split
   ·exact a2g (by rw [run (r:=.ok (.int k (k.wrap (m+n))) w)]; rfl; simp [binOp,Op.intArith]) h
   ·exact a2g (by rw [run (r:=.ok (.int k (k.wrap (m - n))) w)]; rfl; simp [binOp,Op.intArith]) h
   ·exact a2g (by rw [run (r:=.ok (.int k (k.wrap (m*n))) w)]; rfl; simp [binOp,Op.intArith]) h
   ·intro hn
    have hq:q9 k (m.tdiv n):=by
     unfold q9 at *
     by_cases hm:m<0
     ·have e:m.tdiv n=-((-m) / n):=by rw [← Int.neg_neg m,Int.neg_tdiv,Int.tdiv_eq_ediv_of_nonneg (by omega)]; simp
      have:=Int.ediv_nonneg (a:=-m) (b:=n) (by omega) (by omega)
      have:=Int.ediv_le_self n (a:=-m) (by omega)
      omega
     ·rw [Int.tdiv_eq_ediv_of_nonneg (by omega)]
      have:=Int.ediv_nonneg (a:=m) (b:=n) (by omega) (by omega)
      have:=Int.ediv_le_self n (a:=m) (by omega)
      omega
    exact u6.value (by rw [run (r:=.ok (.int k (m.tdiv n)) w)]; rfl; simp [binOp,Op.intDiv,show n≠0 by omega,K7 hq]) h (VX.int hq)
   ·intro hn
    have hq:q9 k (m.tmod n):=by
     unfold q9 at *
     by_cases hm:m<0
     ·have e:m.tmod n=-((-m) % n):=by rw [← Int.neg_neg m,Int.neg_tmod,Int.tmod_eq_emod_of_nonneg (by omega)]; simp
      have:=Int.emod_nonneg (-m) (b:=n) (by omega)
      have:(-m) % n≤-m:=by
       have:=Int.emod_add_mul_ediv (-m) n
       have:=Int.mul_nonneg (Int.le_of_lt hn) (Int.ediv_nonneg (a:=-m) (b:=n) (by omega) (by omega))
       omega
      omega
     ·rw [Int.tmod_eq_emod_of_nonneg (by omega)]
      have:=Int.emod_nonneg m (b:=n) (by omega)
      have:m % n≤m:=by
       have:=Int.emod_add_mul_ediv m n
       have:=Int.mul_nonneg (Int.le_of_lt hn) (Int.ediv_nonneg (a:=m) (b:=n) (by omega) (by omega))
       omega
      omega
    exact u6.value (by rw [run (r:=.ok (.int k (m.tmod n)) w)]; rfl; simp [binOp,Op.intDiv,show n≠0 by omega]) h (VX.int hq)
   ·exact u6.value (by rw [run (r:=.ok (.int k (R6 k m n)) w)]; rfl; simp [binOp,Op.intBits,R6]) h (VX.int (P8 _ _))
   ·exact u6.value (by rw [run (r:=.ok (.int k (bOr k m n)) w)]; rfl; simp [binOp,Op.intBits,bOr]) h (VX.int (P8 _ _))
   ·exact u6.value (by rw [run (r:=.ok (.int k (a1K k m n)) w)]; rfl; simp [binOp,Op.intBits,a1K]) h (VX.int (P8 _ _))
   ·exact u6.value (by rw [run (r:=.ok (.int k (Q4 k m n)) w)]; rfl; simp [binOp,Op.intBits,Q4]) h (VX.int (P8 _ _))
   ·exact u6.value (by rw [run (r:=.ok (.bool (decide (m=n))) w)]; rfl; simp [binOp,Op.intCmp]; rfl) h VX.bool
   ·exact u6.value (by rw [run (r:=.ok (.bool (decide (m≠n))) w)]; rfl; simp [binOp,Op.intCmp]; rfl) h VX.bool
   ·exact u6.value (by rw [run (r:=.ok (.bool (decide (m<n))) w)]; rfl; simp [binOp,Op.intCmp]) h VX.bool
   ·exact u6.value (by rw [run (r:=.ok (.bool (decide (m≤n))) w)]; rfl; simp [binOp,Op.intCmp]) h VX.bool
   ·exact u6.value (by rw [run (r:=.ok (.bool (decide (n<m))) w)]; rfl; simp [binOp,Op.intCmp]) h VX.bool
   ·exact u6.value (by rw [run (r:=.ok (.bool (decide (n≤m))) w)]; rfl; simp [binOp,Op.intCmp]) h VX.bool
   ·trivial
  ·trivial

theorem b5F {P:Program} {T:TypeId} {m n:List UInt8} (hn:m.length+n.length≤maxLen):(binOp .add T (.string ⟨m.toArray⟩) (.string ⟨n.toArray⟩)).run P w=.ok (.string ⟨(m++n).toArray⟩) w:=by
 have h2:¬ ((((ByteArray.mk m.toArray).size+(ByteArray.mk n.toArray).size:Nat):Int) > IntKind.i64.max):=by
  have e1:(ByteArray.mk m.toArray).size=m.length:=by simp [ByteArray.size]
  have e2:(ByteArray.mk n.toArray).size=n.length:=by simp [ByteArray.size]
  rw [e1,e2]
  have:IntKind.i64.max=((maxLen:Nat):Int):=by decide
  omega
 have e:(ByteArray.mk m.toArray)++(ByteArray.mk n.toArray)=ByteArray.mk (m++n).toArray:=by
  apply ByteArray.ext; simp
 simp only [binOp,Op.stringOp,h2,if_false,e]
 rfl

theorem b9F (h:RS B S ι s a w) {o:Oper} {op:BinOp} {T T':TypeId} {x y:Operand} (ho:o.op=.binOp op T x y T') {P:Program} {m n:List UInt8}
  (hx:a.eval x=.string ⟨m.toArray⟩) (hy:a.eval y=.string ⟨n.toArray⟩):D3 P B o a w (a8B op m n s):=by
 have hg:(eqGuard op T x y (a.eval x) (a.eval y)).run P w=.ok () w:=by rw [hx,hy]; cases op<;>rfl
 have run:∀ {r:Result Value},(binOp op T (.string ⟨m.toArray⟩) (.string ⟨n.toArray⟩)).run P w=r→(execOp a.eval o).run P w=r.andThen fun v w'=>.ok (.value v) w':=by
  intro r hr
  exact R3 ho hg (by rw [hx,hy]; exact hr)
 unfold a8B
 split
 ·exact u6.value (by rw [run (r:=.ok (.bool (decide (m=n))) w)]; rfl; simp [binOp,Op.stringOp,ByteArray.toList_mk,Bool.beq_eq_decide_eq]) h VX.bool
 ·exact u6.value (by rw [run (r:=.ok (.bool (decide (m≠n))) w)]; rfl; simp [binOp,Op.stringOp,ByteArray.toList_mk,Bool.beq_eq_decide_eq]) h VX.bool
 ·intro hn
  refine u6.value (by rw [run (r:=.ok (.string ⟨(m++n).toArray⟩) w)]; rfl; exact b5F hn) h (VX.str (by simpa using hn))
 ·trivial

theorem a1g {P:Program} {n:Nat} {T:TypeId} (hT:n8 P n T .bool=true):P.underlying T=some .bool:=by
 obtain ⟨d,h1,h2⟩:=M4 hT
 cases n with
 | zero=>simp [n8] at hT
 | succ n =>
  simp only [n8,Bool.and_eq_true,h1] at hT
  obtain ⟨_,hT⟩:=hT
  cases d<;>first|exact h1|(exact (Bool.false_ne_true hT).elim)|skip
  rename_i fs
  have hT:l8 (n8 P n) fs.toList 0 .bool=true:=hT
  cases hf:fs.toList with
  | nil=>rw [hf] at hT; simp [l8] at hT
  | cons f l=>rw [hf] at hT; simp [l8] at hT

theorem run_equalIn_bool {P:Program} {T:TypeId} (h1:P.underlying T=some .bool) (d:Nat) (m n:Bool):(Op.equalIn (d+1) T (.bool m) (.bool n)).run P w=.ok (m == n) w:=by
 simp [Op.equalIn,n9 h1]

theorem a9b {P:Program} {n:Nat} {T:TypeId} (hT:n8 P n T .bool=true) (m n:Bool):(Op.equal T (.bool m) (.bool n)).run P w=.ok (m == n) w :=
 run_equalIn_bool (a1g hT) 9999 m n

theorem b9E (h:RS B S ι s a w) {W:Bool} {o:Oper} {op:BinOp} {T T':TypeId} {x y:Operand} (ho:o.op=.binOp op T x y T') {P:Program} {k k':IntKind} {m n:Int}
  (hx:a.eval x=.int k m) (bx:q9 k m) (hy:a.eval y=.int k' n) (by_:q9 k' n):D3 P B o a w (a8A W op k m k' n s):=by
 unfold a8A
 split
 ·split
  ·rename_i hk; subst hk
   have hg:(eqGuard .add T x y (a.eval x) (a.eval y)).run P w=.ok () w:=by rw [hx,hy]; rfl
   exact u6.value (by rw [R3 ho hg (r:=.ok (.int k (k.wrap (m+n))) w)]; rfl; rw [hx,hy]; simp [binOp,Op.intArith]) h (VX.int (P8 _ _))
  ·trivial
 ·exact b9G h ho hx bx hy by_

theorem b9I (hE:C2 E B) (h:RS B S ι s a w) {o:Oper} {op:BinOp} {T T':TypeId} {x y:Operand} (ho:o.op=.binOp op T x y T'):D3 E.P B o a w (a8D E T op (s.ev x) (s.ev y) s):=by
 have hx:=h.ev x
 have hy:=h.ev y
 unfold a8D
 split
 ·rename_i k m k' n e1 e2
  rw [e1] at hx; rw [e2] at hy
  obtain ⟨hx,bx⟩:=VX.F8 hx
  obtain ⟨hy,by_⟩:=VX.F8 hy
  exact b9E h ho hx bx hy by_
 ·rename_i m n e1 e2
  rw [e1] at hx; rw [e2] at hy
  have hx:=VX.a14 hx
  have hy:=VX.a14 hy
  have hg:(eqGuard op T x y (a.eval x) (a.eval y)).run E.P w=.ok () w:=by rw [hx,hy]; cases op<;>rfl
  split
  ·rename_i hc
   exact u6.value (by rw [R3 ho hg (r:=.ok (.bool (m == n)) w)]; rfl; rw [hx,hy]; simp [binOp,a9b (C1 hE hc)]) h VX.bool
  ·rename_i hc
   exact u6.value (by rw [R3 ho hg (r:=.ok (.bool (m != n)) w)]; rfl; rw [hx,hy]; simp [binOp,a9b (C1 hE hc)]; cases (m:Bool)<;>cases (n:Bool)<;>rfl) h VX.bool
  ·trivial
 ·rename_i m n e1 e2
  rw [e1] at hx; rw [e2] at hy
  exact b9F h ho (VX.a1S hx).1 (VX.a1S hy).1
 ·trivial

end
end Go.Ex

namespace Go.Ex

section
variable {E:Env} {B:D4} {S S':Nat→Prop} {ι:Ix} {s:St} {a:Act} {w:World} {hp:List (Nat×g8)}

def Ix.P9 (ι:Ix) (d:Nat) (r:Nat×Nat) (o:List Nat):Ix:={ ι with root:=fun i=>if i=d then r else ι.root i,own:=fun i=>if i=d then o else ι.own i }
def Ix.R2 (ι:Ix) (d:Nat) (cs:List Value) (o:List Nat):Ix:={ ι with cells:=fun i=>if i=d then cs else ι.cells i,own:=fun i=>if i=d then o else ι.own i }
def Ix.y7 (ι:Ix) (d:Nat) (o:List Nat):Ix:={ ι with own:=fun i=>if i=d then o else ι.own i }

def E0 (ι ι':Ix) (i:Nat):Prop:=ι'.root i=ι.root i∧ι'.cells i=ι.cells i∧ι'.own i=ι.own i

theorem E0.ob {ι':Ix} {i:Nat} (h:E0 ι ι' i) {H:Array Go.Obj} {e:g8}:OB H S ι' i e↔OB H S ι i e:=by
 obtain ⟨h1,h2,h3⟩:=h
 cases e<;>simp only [OB,h1,h2,h3]
theorem E0.l6 {ι':Ix} {i:Nat} (h:E0 ι ι' i) {e:g8}:l6 ι' i e=l6 ι i e:=by
 obtain ⟨h1,h2,h3⟩:=h
 cases e<;>simp only [Ex.l6,h1,h3]
theorem E0.vh {ι':Ix} {i:Nat} (h:E0 ι ι' i) {H:Array Go.Obj} {e:g8}:VH H ι' i e=VH H ι i e:=by
 obtain ⟨h1,h2,h3⟩:=h
 cases e<;>simp only [VH,h2]
theorem E0.place {ι':Ix} {i:Nat} (h:E0 ι ι' i) {H:Array Go.Obj} {e:g8} {p:List Step}:Place H ι' i e p=Place H ι i e p:=by
 have hv:=h.vh (H:=H) (e:=e)
 obtain ⟨h1,h2,h3⟩:=h
 cases e<;>simp only [Place,VR,h1,hv]
theorem E0.loc {ι':Ix} {i:Nat} (h:E0 ι ι' i) {H:Array Go.Obj} {e:g8} {p:List Step}:Loc H ι' i e p=Loc H ι i e p:=by
 simp only [Loc,h.place]
theorem E0.a6F {ι':Ix} {i:Nat} (h:E0 ι ι' i) {H:Array Go.Obj} {e:g8} {p:List Step} {u:Ty} {cs:List Value}:Cells H ι' i e p u cs↔Cells H ι i e p u cs:=by
 simp only [Cells,h.place,h.vh]

theorem E0.refl (ι:Ix) (i:Nat):E0 ι ι i:=⟨rfl,rfl,rfl⟩
theorem a32 {i d:Nat} (h:i≠d) (r:Nat×Nat) (o:List Nat):E0 ι (ι.P9 d r o) i:=by simp [E0,Ix.P9,h]
theorem a17 {i d:Nat} (h:i≠d) (cs:List Value) (o:List Nat):E0 ι (ι.R2 d cs o) i:=by simp [E0,Ix.R2,h]
theorem a0m {i d:Nat} (h:i≠d) (o:List Nat):E0 ι (ι.y7 d o) i:=by simp [E0,Ix.y7,h]

theorem VX.other {ι':Ix} {hp':List (Nat×g8)} {H:Array Go.Obj} {v:AV} (hl:∀ i,v.i6 i=true→look i hp'=look i hp) (hs:∀ i,v.i6 i=true→E0 ι ι' i) {vs:List Value} (h:VX H S ι hp v vs):VX H S ι' hp' v vs:=by
 have:=VX.map (H':=H) (S':=S) (ι':=ι') (hp':=hp') (f:=fun u=>u) (fun _ _=>rfl) (fun _ h=>h) ?_ h
 ·rwa [AV.map_id] at this
 ·intro u vs hu hm h
  cases u<;>simp only [AV.ref] at hu<;>try cases hu
  ·rename_i i p
   have hi:=hm i (by simp [AV.i6])
   obtain ⟨e,b,off,h1,h2,h3,h4⟩:=h
   exact ⟨e,b,off,(hl i hi).trans h1,h2,(hs i hi).loc.trans h3,h4⟩
  ·rename_i i p
   have hi:=hm i (by simp [AV.i6])
   obtain ⟨e,u,y,cs,h1,h2,h3,h4,h5⟩:=h
   exact ⟨e,u,y,cs,(hl i hi).trans h1,h2,h3,(hs i hi).a6F.2 h4,h5⟩
  ·rename_i i p lo hi'
   have hi:=hm i (by simp [AV.i6])
   obtain ⟨e,v,h1,h2,h3,h4,h5,h6⟩:=h
   refine ⟨e,v,(hl i hi).trans h1,h2,h3,h4,h5,?_⟩
   rcases h6 with ⟨t,l,a,cap,k1,k2,k3,k4⟩|⟨n,t,l,b,off,k1,k2,k3,k4⟩
   ·exact .inl ⟨t,l,a,cap,k1,k2,(hs i hi).a6F.2 k3,k4⟩
   ·exact .inr ⟨n,t,l,b,off,k1,k2,(hs i hi).loc.trans k3,k4⟩

theorem a3g {H:Array Go.Obj} {o:Go.Obj} {b:Nat} (h:b<H.size):(H.push o)[b]?=H[b]?:=by
 rw [Array.getElem?_push,if_neg (by omega)]
theorem a3h {H:Array Go.Obj} {o:Go.Obj}:(H.push o)[H.size]?=some o:=by simp

def C6 (w:World) (o:Go.Obj):World:={ w with heap:=w.heap.push o }

theorem HS.c4C (h:HS B S ι hp w) {b:Nat} (hb:(∃ i e,look i hp=some e∧b∈l6 ι i e)∨S b):b<w.heap.size:=by
 rcases hb with ⟨i,e,h1,h2⟩|hb
 ·exact (h.bl i e h1 b h2).2.2
 ·exact h.slt b hb

def C9 (B:D4) (S:Nat→Prop) (ι:Ix) (hp:List (Nat×g8)) (w:World) (O:List Nat):Prop :=
 O.Nodup∧∀ b∈O,¬ S b∧(B.w0.heap.size≤b∨B.M b)∧b<w.heap.size∧∀ i e,look i hp=some e→b∉l6 ι i e

theorem C9.nil:C9 B S ι hp w []:=⟨List.nodup_nil,by simp⟩
theorem C9.sub {O O':List Nat} (h:C9 B S ι hp w O) (hn:O'.Nodup) (hs:∀ b∈O',b∈O):C9 B S ι hp w O':=⟨hn,fun b hb=>h.2 b (hs b hb)⟩
theorem C9.append {O O':List Nat} (h:C9 B S ι hp w O) (h':C9 B S ι hp w O') (hd:∀ b∈O,b∉O'):C9 B S ι hp w (O++O') :=
 ⟨List.nodup_append.2 ⟨h.1,h'.1,fun a ha _b hb e=>hd a ha (e▸hb)⟩,fun b hb=>(List.mem_append.1 hb).elim (h.2 b) (h'.2 b)⟩

theorem HS.V7 (h:HS B S ι hp w) {O:List Nat} (hF:C9 B S ι hp w O) {w':World} (k:y8 O w w'):HS B S ι hp w':=by
 have hlt:∀ {b},((∃ i e,look i hp=some e∧b∈l6 ι i e)∨S b)→w'.heap[b]?=w.heap[b]?:=by
  intro _ hb
  refine k.frame _ (h.c4C hb) (fun hO=>?_)
  rcases hb with ⟨i,e,h1,h2⟩|hb
  ·exact (hF.2 _ hO).2.2.2 i e h1 h2
  ·exact (hF.2 _ hO).1 hb
 refine ⟨k.os.trans h.os,k.tape.trans h.tape,k.out.trans h.out,Nat.le_trans h.size k.size,?_,fun b hb=>Nat.lt_of_lt_of_le (h.slt b hb) k.size,h.s0,h.s1,?_,?_,h.dj,h.pin⟩
 ·intro c hc hm
  rw [k.frame c (Nat.lt_of_lt_of_le hc h.size) (fun hO=>by rcases (hF.2 c hO).2.1 with h1|h1; omega; exact hm h1)]
  exact h.frame c hc hm
 ·intro i e hi
  exact (h.ob i e hi).r7 (fun b hb=>hlt (hb.imp (fun hb=>⟨i,e,hi,hb⟩) id)) (fun _ h=>h)
 ·intro i e hi b hb
  obtain ⟨h1,h2,h3⟩:=h.bl i e hi b hb
  exact ⟨h1,h2,Nat.lt_of_lt_of_le h3 k.size⟩

theorem VX.V7 (h:HS B S ι hp w) {O:List Nat} (hF:C9 B S ι hp w O) {w':World} (k:y8 O w w') {v:AV} {vs:List Value} (hv:VX w.heap S ι hp v vs):VX w'.heap S ι hp v vs:=by
 refine VX.grow (fun b hb=>k.frame b (h.c4C hb) (fun hO=>?_)) (fun _ h=>h) h.slt h.ob hv
 rcases hb with ⟨i,e,h1,h2⟩|hb
 ·exact (hF.2 b hO).2.2.2 i e h1 h2
 ·exact (hF.2 b hO).1 hb

theorem RS.V7 (h:RS B S ι s a w) {O:List Nat} (hF:C9 B S ι s.hp w O) {w':World} (k:y8 O w w'):RS B S ι s a w' :=
 ⟨h.hs.V7 hF k,h.dfr,h.sz,fun t v hv=>VX.V7 h.hs hF k (h.fr t v hv)⟩

theorem C9.V7 {O O':List Nat} (h:C9 B S ι hp w O') {w':World} (k:y8 O w w'):C9 B S ι hp w' O' :=
 ⟨h.1,fun b hb=>⟨(h.2 b hb).1,(h.2 b hb).2.1,Nat.lt_of_lt_of_le (h.2 b hb).2.2.1 k.size,(h.2 b hb).2.2.2⟩⟩

theorem y8.push (o:Go.Obj):y8 [] w (C6 w o):=⟨rfl,.refl w,rfl,by simp [C6],fun c hc _=>a3g hc⟩
theorem y8.drew:y8 [] w w.drew:=⟨rfl,⟨rfl,Nat.le_succ _⟩,rfl,Nat.le_refl _,fun _ _ _=>rfl⟩
theorem y8.mono {O O':List Nat} {w':World} (h:y8 O w w') (ho:∀ b∈O,b∈O'):y8 O' w w':=⟨h.os,h.tape,h.out,h.size,fun c hc hn=>h.frame c hc (fun hO=>hn (ho c hO))⟩
theorem y8.trans {O O':List Nat} {w' w'':World} (h:y8 O w w') (h':y8 O' w' w'') (ho:∀ b∈O',b∈O∨w.heap.size≤b):y8 O w w'' :=
 ⟨h'.os.trans h.os,h'.tape.trans h.tape,h'.out.trans h.out,Nat.le_trans h.size h'.size,fun c hc hn=>(h'.frame c (Nat.lt_of_lt_of_le hc h.size) (fun hO=>by rcases ho c hO with h1|h1; exact hn h1; omega)).trans (h.frame c hc hn)⟩

theorem HS.add (h:HS B S ι hp w) {d:Nat} {e:g8} {ι':Ix} {O:List Nat} (hd:look d hp=none) (hs:∀ i,i≠d→E0 ι ι' i) (hob:OB w.heap S ι' d e) (hb:∀ b∈l6 ι' d e,b∈O) (hF:C9 B S ι hp w O) :
  HS B S ι' (Ex.put d e hp) w:=by
 refine ⟨h.os,h.tape,h.out,h.size,h.frame,h.slt,h.s0,h.s1,?_,?_,?_,?_⟩
 ·intro i e' h1
  rw [o5] at h1
  by_cases e1:i=d
  ·subst e1; rw [if_pos rfl] at h1; cases h1; exact hob
  ·rw [if_neg e1] at h1; exact (hs i e1).ob.2 (h.ob i e' h1)
 ·intro i e' h1 b hb'
  rw [o5] at h1
  by_cases e1:i=d
  ·subst e1; rw [if_pos rfl] at h1; cases h1
   obtain ⟨k1,k2,k3,_⟩:=hF.2 b (hb b hb')
   exact ⟨k1,k2,k3⟩
  ·rw [if_neg e1] at h1
   rw [(hs i e1).l6] at hb'
   exact h.bl i e' h1 b hb'
 ·intro i j ei ej h1 h2 hij b hb'
  rw [o5] at h1 h2
  by_cases e1:i=d
  ·subst e1
   rw [if_neg (Ne.symm hij)] at h2
   rw [if_pos rfl] at h1; cases h1
   rw [(hs j (Ne.symm hij)).l6]
   exact (hF.2 b (hb b hb')).2.2.2 j ej h2
  ·rw [if_neg e1] at h1
   rw [(hs i e1).l6] at hb'
   by_cases e2:j=d
   ·subst e2
    rw [if_pos rfl] at h2; cases h2
    exact fun hbb=>(hF.2 b (hb b hbb)).2.2.2 i ei h1 hb'
   ·rw [if_neg e2] at h2
    rw [(hs j e2).l6]
    exact h.dj i j ei ej h1 h2 hij b hb'
 ·intro q hq
  obtain ⟨k0,⟨e',k1⟩,k2,k3⟩:=h.pin q hq
  have hne:q.1≠d:=by rintro e1; rw [e1,hd] at k1; cases k1
  exact ⟨k0,⟨e',by rw [o5,if_neg hne]; exact k1⟩,by rw [(hs _ hne).1]; exact k2,by rw [(hs _ hne).2.1]; exact k3⟩

theorem a3S {d:Nat} (h:s.fresh d=true):look d s.hp=none∧∀ m v,look m s.fr=some v→v.i6 d=false:=by
 simp only [St.fresh,Bool.and_eq_true,Option.isNone_iff_eq_none] at h
 exact ⟨h.1,fun m v hv=>a00 h.2 hv⟩

theorem VX.add {d:Nat} {e:g8} {ι':Ix} {H:Array Go.Obj} (hs:∀ i,i≠d→E0 ι ι' i) {v:AV} (hm:v.i6 d=false) {vs:List Value} (h:VX H S ι hp v vs):VX H S ι' (Ex.put d e hp) v vs:=by
 have hne:∀ i,v.i6 i=true→i≠d:=by rintro i hi rfl; rw [hm] at hi; cases hi
 exact VX.other (fun i hi=>by rw [o5,if_neg (hne i hi)]) (fun i hi=>hs i (hne i hi)) h

theorem RS.add (h:RS B S ι s a w) {d:Nat} {e:g8} {ι':Ix} {O:List Nat} (hd:s.fresh d=true) (hs:∀ i,i≠d→E0 ι ι' i) (hob:OB w.heap S ι' d e) (hb:∀ b∈l6 ι' d e,b∈O) (hF:C9 B S ι s.hp w O) :
  RS B S ι' (s.s8 d e) a w:=by
 obtain ⟨k1,k2⟩:=a3S hd
 exact ⟨h.hs.add k1 hs hob hb hF,h.dfr,h.sz,fun t v hv=>VX.add hs (k2 t v hv) (h.fr t v hv)⟩

/-! ### objects that go -/
theorem VX.dropped {i:Nat} {H:Array Go.Obj} {v:AV} {vs:List Value} (h:VX H S ι hp v vs):VX H S ι (del i hp) (v.drop i) vs:=by
 refine VX.map (fun _ _=>rfl) (fun _ h=>h) (fun u vs hu _ hv=>?_) h
 cases hm:u.i6 i with
 | true=>obtain ⟨x,rfl⟩:=VX.one hu hv; exact ⟨x,rfl⟩
 | false =>
  have hne:∀ j,u.i6 j=true→j≠i:=by rintro j hj rfl; rw [hm] at hj; cases hj
  exact VX.other (fun j hj=>by rw [I6,if_neg (hne j hj)]) (fun j _=>E0.refl ι j) hv

theorem HS.drop (h:HS B S ι hp w) {i:Nat} (hi:pinned i=false):HS B S ι (del i hp) w:=by
 have hl:∀ {j:Nat} {e:g8},look j (del i hp)=some e→look j hp=some e:=by
  intro j e hj
  rw [I6] at hj
  split at hj
  ·cases hj
  ·exact hj
 refine ⟨h.os,h.tape,h.out,h.size,h.frame,h.slt,h.s0,h.s1,fun j e hj=>h.ob j e (hl hj),fun j e hj=>h.bl j e (hl hj),fun j k ej ek hj hk=>h.dj j k ej ek (hl hj) (hl hk),fun q hq=>?_⟩
 obtain ⟨k0,⟨e',k1⟩,k2⟩:=h.pin q hq
 exact ⟨k0,⟨e',by rw [I6,if_neg (by rintro e1; rw [e1,hi] at k0; cases k0)]; exact k1⟩,k2⟩

theorem RS.drop (h:RS B S ι s a w) {i:Nat} (hi:pinned i=false):RS B S ι (s.drop i) a w:=by
 refine ⟨h.hs.drop hi,h.dfr,h.sz,?_⟩
 intro t v hv
 simp only [St.drop,N0,Option.map_eq_some_iff] at hv
 obtain ⟨v0,hv0,rfl⟩:=hv
 exact VX.dropped (h.fr t v0 hv0)

theorem RS.s7 {B:D4} {S:Nat→Prop} {ι:Ix} {a:Act} {w:World}:∀ {g:List Nat} {s:St},RS B S ι s a w→(g.all fun i=>!pinned i)=true→RS B S ι (St.s7 g s) a w
 | [],_,h,_=>h
 | i::g,s,h,hg=>by
  simp only [List.all_cons,Bool.and_eq_true,Bool.not_eq_true'] at hg
  exact RS.s7 (g:=g) (s:=s.drop i) (h.drop hg.1) hg.2

theorem H5:∀ {g:List Nat} {s:St} {j:Nat},look j (St.s7 g s).hp=if j∈g then none else look j s.hp
 | [],s,j=>by simp [St.s7]
 | i::g,s,j=>by
  simp only [St.s7,H5 (g:=g),St.drop,I6]
  by_cases e:j=i
  ·subst e; simp
  ·by_cases e2:j∈g<;>simp [e,e2]

theorem C9.s7 (h:HS B S ι s.hp w) {g:List Nat} {O:List Nat} (hn:O.Nodup) (hO:∀ b∈O,∃ i e,i∈g∧look i s.hp=some e∧b∈l6 ι i e):C9 B S ι (St.s7 g s).hp w O:=by
 refine ⟨hn,fun b hb=>?_⟩
 obtain ⟨i,e,hi,h1,h2⟩:=hO b hb
 obtain ⟨k1,k2,k3⟩:=h.bl i e h1 b h2
 refine ⟨k1,k2,k3,fun j ej hj hbj=>?_⟩
 rw [H5] at hj
 split at hj
 ·cases hj
 ·rename_i hjg
  exact h.dj i j e ej h1 hj (by rintro rfl; exact hjg hi) b h2 hbj

theorem C9.a8o {O:List Nat} (h:C9 B S ι s.hp w O) (g:List Nat):C9 B S ι (St.s7 g s).hp w O :=
 ⟨h.1,fun b hb=>⟨(h.2 b hb).1,(h.2 b hb).2.1,(h.2 b hb).2.2.1,fun i e hi=>by rw [H5] at hi; split at hi; cases hi; exact (h.2 b hb).2.2.2 i e hi⟩⟩

/-! ### new objects -/
theorem RS.alloc (h:RS B S ι s a w) {d:Nat} (hd:s.fresh d=true) {t:Ty} {x:t.den} {cs:List Value} {O:List Nat} (hR:f7 w.heap S t O cs x) (hF:C9 B S ι s.hp w O) (T:TypeId) :
  RS B S (ι.P9 d (w.heap.size,0) O) (s.s8 d (.var t x)) a (C6 w (.cells cs.toArray T)):=by
 have h1:=h.V7 C9.nil (y8.push (.cells cs.toArray T))
 have hF1:=hF.V7 (y8.push (w:=w) (.cells cs.toArray T))
 have hnew:(C6 w (.cells cs.toArray T)).heap[w.heap.size]?=some (.cells cs.toArray T):=a3h
 have hold:∀ {b},b<w.heap.size→(C6 w (.cells cs.toArray T)).heap[b]?=w.heap[b]?:=fun hb=>a3g hb
 refine h1.add hd (fun i hi=>a32 hi _ _) ?_ (O:=w.heap.size::O) ?_ ⟨List.nodup_cons.2 ⟨fun hm=>Nat.lt_irrefl _ (hF.2 _ hm).2.2.1,hF.1⟩,?_⟩
 ·refine ⟨⟨O,by simp [Ix.P9],?_⟩,⟨cs.toArray,T,⟨_,by simpa [Ix.P9] using hnew,.inl rfl⟩,by simp [Ix.P9,hR.length]⟩,?_⟩
  ·have e:d8 (C6 w (.cells cs.toArray T)).heap w.heap.size 0 t.size=cs:=by
    have hb:s5 (C6 w (.cells cs.toArray T)).heap w.heap.size=cs:=by simp only [s5,hnew]
    simp only [d8,hb,List.drop_zero]
    exact List.take_of_length_le (by rw [hR.length]; exact Nat.le_refl _)
   simp only [Ix.P9,if_pos]
   rw [e]
   exact hR.r7 (fun b hb=>hold (hb.elim (fun hb=>(hF.2 b hb).2.2.1) (h.hs.slt b))) (fun _ h=>h)
  ·simp only [Ix.P9,if_pos]
   exact List.nodup_cons.2 ⟨fun hm=>Nat.lt_irrefl _ (hF.2 _ hm).2.2.1,hF.1⟩
 ·intro b hb
  simpa [l6,Ix.P9] using hb
 ·intro b hb
  rcases List.mem_cons.1 hb with rfl|hb
  ·refine ⟨fun hS=>Nat.lt_irrefl _ (h.hs.slt _ hS),.inl h.hs.size,by simp [C6],fun i e hi hbi=>?_⟩
   exact Nat.lt_irrefl _ (h.hs.bl i e hi _ hbi).2.2
  ·exact hF1.2 b hb

theorem b0n {d:Nat} {t:Ty} {x:t.den} {w':World} {r:Nat×Nat} {o:List Nat} (hr:r.1<w'.heap.size):VX w'.heap S (ι.P9 d r o) (s.s8 d (.var t x)).hp (.ptr d []) [.pointer (some ⟨r.1,r.2,none⟩)]:=by
 refine ⟨.var t x,r.1,r.2,by simp [St.s8,o5],by cases t<;>trivial,Z3 ?_ hr,rfl⟩
 simp only [Place,VR,VH,Ix.P9,if_pos,g8.ty]
 cases t<;>first|rfl|(rename_i o _; cases o<;>rfl)

theorem RS.hold (h:RS B S ι s a w) {d:Nat} (hd:s.fresh d=true) {t:Ty} {x:t.den} {O:List Nat} {cs:List Value} (hR:f7 w.heap S t O cs x) (hF:C9 B S ι s.hp w O):RS B S (ι.R2 d cs O) (s.s8 d (.own t x)) a w:=by
 refine h.add hd (fun i hi=>a17 hi _ _) ⟨⟨O,by simp [Ix.R2],by simpa [Ix.R2] using hR⟩,by simpa [Ix.R2] using hF.1⟩ (O:=O) ?_ hF
 intro b hb
 simpa [l6,Ix.R2] using hb

theorem x7 {t:Ty} {x:t.den}:j6 t x []=some ⟨t,x⟩:=by
 cases t<;>first|rfl|(rename_i o _; cases o<;>rfl)
theorem K2 {t:Ty} {x:t.den}:w4 t x []:=by
 cases t<;>first|trivial|(rename_i o _; cases o<;>trivial)
theorem w8 {H:Array Go.Obj} {t:Ty} {b off:Nat}:w7 H t [] b off=some (b,off):=by
 cases t<;>first|rfl|(rename_i o _; cases o<;>rfl)

theorem a1l {H:Array Go.Obj} {d:Nat} {t:Ty} {x:t.den} {cs:List Value} (h:ι.cells d=cs) (hl:cs.length=t.size):Cells H ι d (.own t x) [] t cs:=by
 refine ⟨H.size,0,by simp only [Place,w8]; rfl,?_⟩
 simp only [VH,h,d8,a0k,List.drop_zero]
 exact (List.take_of_length_le (by omega)).symm

theorem P5 {H:Array Go.Obj} {d:Nat} {t:Ty} {x:t.den} {u:Ty} {cs:List Value} (h:Cells H ι d (.own t x) [] u cs) (hl:(ι.cells d).length=u.size):cs=ι.cells d:=by
 obtain ⟨b,off,h1,h2⟩:=h
 simp only [Place,w8,VR,Option.some.injEq,Prod.mk.injEq] at h1
 obtain ⟨rfl,rfl⟩:=h1
 rw [h2]
 simp only [VH,d8,a0k,List.drop_zero]
 exact List.take_of_length_le (by omega)

theorem a4I {H:Array Go.Obj} {d:Nat} {t:Ty} {x:t.den} {cs:List Value} {O:List Nat} (hl:cs.length=t.size):VX H S (ι.R2 d cs O) (Ex.put d (.own t x) hp) (.at_ d []) [j7 t cs] :=
 ⟨.own t x,t,x,cs,by simp [o5],K2,x7,a1l (by simp [Ix.R2]) hl,rfl⟩

theorem b6v (hE:C2 E B) (h:RS B S ι s a w) {o:Oper} {T:TypeId} (ho:o.op=.alloc T):D3 E.P B o a w (n6 E o s):=by
 unfold n6
 rw [ho]
 simp only
 split
 ·rename_i t d ht hd
  split
  ·rename_i hf
   have hz:=p9 hE ht
   have hR:f7 w.heap S t.ty [] (zc t.ty) t.ty.o7:=f7.o7 _
   intro next Q hn
   unfold Oper.wp
   have:(execOp a.eval o).run E.P w=.ok (.value (.pointer (some ⟨w.heap.size,0,none⟩))) (C6 w (.cells (zc t.ty).toArray T)):=by
    simp [execOp,ho,Instr.alloc,a06 hz,newVar,newRow,newObj,Sem.run,C6,hR.cells]
   rw [this]
   exact hn S _ _ _ (h.alloc hf hR C9.nil T) (b0n (by simp [C6]))
  ·trivial
 ·trivial

end
end Go.Ex

namespace Go.Ex

section
variable {E:Env} {B:D4} {S:Nat→Prop} {ι:Ix} {s:St} {a:Act} {w:World} {hp:List (Nat×g8)} {H H':Array Go.Obj}

def over (cur:List Value) (off:Nat) (cs:List Value):List Value:=cur.take off++cs++cur.drop (off+cs.length)

theorem a7A {cur cs:List Value} {off:Nat} (h:off+cs.length≤cur.length):(over cur off cs).length=cur.length:=by
 simp only [over,List.length_append,List.length_take,List.length_drop]; omega

theorem b6V {cur cs:List Value} {off:Nat} (h:off+cs.length≤cur.length):((over cur off cs).drop off).take cs.length=cs:=by
 have e:(cur.take off).length=off:=by rw [List.length_take]; omega
 rw [over,List.append_assoc,List.drop_left' e,List.take_left]

theorem b3u {cur cs:List Value} {off:Nat} (h:off+cs.length≤cur.length) {j:Nat} (hj:j<off∨off+cs.length≤j):(over cur off cs)[j]?=cur[j]?:=by
 have e:(cur.take off).length=off:=by rw [List.length_take]; omega
 rw [over]
 rcases hj with hj|hj
 ·rw [List.append_assoc,List.getElem?_append_left (by omega),List.getElem?_take,if_pos hj]
 ·rw [List.getElem?_append_right (by simp only [List.length_append,e]; omega)]
  simp only [List.length_append,e,List.getElem?_drop]
  congr 1; omega

theorem setRow_other {g c:Nat} {cs:Array Value} (h:c≠g):(w.setRow g cs).heap[c]?=w.heap[c]?:=by
 simp only [World.setRow,Array.getElem?_modify,if_neg (Ne.symm h)]

theorem setRow_size {g:Nat} {cs:Array Value}:(w.setRow g cs).heap.size=w.heap.size:=by simp [World.setRow]

theorem a3E {b off:Nat} {cs:List Value} (hf:K4 w.heap b (off+cs.length)) :
  T4 w.heap (w.setRow b (over (s5 w.heap b) off cs).toArray).heap b off cs.length∧d8 (w.setRow b (over (s5 w.heap b) off cs).toArray).heap b off cs.length=cs:=by
 obtain ⟨arr,T,⟨fz,e,ef⟩,hn⟩:=hf
 have hb:s5 w.heap b=arr.toList:=by simp only [s5,e]
 have hl:off+cs.length≤arr.toList.length:=by simpa using hn
 have hnew:=setRow_heap w b arr (over (s5 w.heap b) off cs).toArray T fz e
 rw [hb] at hnew ⊢
 refine ⟨⟨⟨arr,_,T,⟨fz,⟨e,ef⟩,hnew⟩,?_,?_⟩,fun c hc _=>setRow_other hc⟩,?_⟩
 ·simp [a7A hl]
 ·intro j hj; exact b3u hl hj
 ·simp only [d8,s5,hnew]; exact b6V hl

theorem X7 {P:Program} (g o:Nat) (t:TypeId) (fz:Nat×Nat):∀ (vs:List Value) (i:Nat) (cur:Array Value) (w:World),Lie w.heap g cur t fz→o+i+vs.length≤cur.size→(∀ v∈vs,v.oneCell'=true) →
  (storeCells ⟨g,o,none⟩ vs i).run P w=.ok () (w.setRow g (cur.toList.take (o+i)++vs++cur.toList.drop (o+i+vs.length)).toArray)
 | [],i,cur,w,hg,_,_=>by
  simp only [storeCells,List.append_nil,List.length_nil,Nat.add_zero,List.take_append_drop,Array.toArray_toList]
  rw [setRow_self w g cur t fz hg.1]
  rfl
 | v::rest,i,cur,w,⟨hg,hz⟩,hl,h1=>by
  have hi:o+i<cur.size:=by simp at hl; omega
  have hadd:(⟨g,o,none⟩:Addr).add i=⟨g,o+i,none⟩:=by unfold Addr.add; split<;>simp_all
  have hcell:w.cell? ⟨g,o+i,none⟩=some cur[o+i]:=by simp [World.cell?,hg,hi]
  have hfro:w.frozen? ⟨g,o+i,none⟩=false:=by
   rcases hz with rfl|hz
   ·simp [World.frozen?,hg]
   ·obtain ⟨lo,hi'⟩:=fz
    have:¬ lo≤o+i:=by simp only at hz; omega
    simp [World.frozen?,hg,this]
  have hst:(store ((⟨g,o,none⟩:Addr).add i) v).run P w=.ok () (w.setRow g (cur.setIfInBounds (o+i) v)):=by
   rw [hadd,run_store P w _ v _ (h1 v (by simp)),hcell]
   simp [hfro,setCell_eq_setRow w g (o+i) cur t fz v hg]
  have ih:=X7 (P:=P) g o t fz rest (i+1) (cur.setIfInBounds (o+i) v) (w.setRow g (cur.setIfInBounds (o+i) v)) ⟨setRow_heap w g cur _ t _ hg,by simpa using hz⟩ (by simp at hl ⊢; omega) (fun x hx=>h1 x (by simp [hx]))
  simp only [storeCells,Sem.run_bind,hst,Result.andThen_ok,ih,setRow_setRow]
  congr 3
  have e:=list_seg_step cur.toList (o+i) v rest (by simp at hl ⊢; omega)
  simpa [Array.toList_setIfInBounds,Nat.add_assoc] using e

theorem a52 {P:Program} {n:Nat} {T:TypeId} {t u:Ty} (ht:n8 P n T t=true) (hu:u.sh=t.sh) {b off:Nat} (hf:K4 w.heap b (off+t.size)) {O:List Nat} {cs:List Value} {x:u.den} (hR:f7 H S u O cs x) :
  (storeVar T ⟨b,off,none⟩ (j7 u cs)).run P w=.ok () (w.setRow b (over (s5 w.heap b) off cs).toArray):=by
 obtain ⟨arr,T',⟨fz,e,ef⟩,hn⟩:=hf
 have hl:=hR.length
 have hs:=E3 hu
 have h1:(j7 u cs).cells=cs.toArray:=hR.cells
 have:=X7 (P:=P) b off T' fz cs 0 arr w ⟨e,ef⟩ (by omega) (fun v hv=>(hR.plain v hv).1)
 simp only [storeVar,Sem.run_bind,run_sizeOf ht,Result.andThen,h1]
 have hsz:cs.toArray.size=t.size:=by simp [hl,hs]
 simp only [hsz,ne_eq,not_true_eq_false,if_false]
 simp only [Nat.add_zero] at this
 have hb:s5 w.heap b=arr.toList:=by simp only [s5,e]
 rw [hb,over]
 simpa [Sem.run] using this

theorem c6t {cs:List Value} {b off n:Nat} (hc:T4 H H' b off n) (hsz:H'.size=H.size):T4 (gh H cs) (gh H' cs) b off n:=by
 obtain ⟨a1,a2,T,⟨fz,⟨k1,kf⟩,k2⟩,k3,k4⟩:=hc.at_
 have hlt:b<H.size:=(Array.getElem?_eq_some_iff.1 k1).1
 refine ⟨⟨a1,a2,T,⟨fz,⟨(a4w hlt).trans k1,kf⟩,(a4w (by omega)).trans k2⟩,k3,k4⟩,fun c hcb hcl=>?_⟩
 rw [a4v] at hcl
 by_cases h:c<H.size
 ·rw [a4w h,a4w (by omega)]; exact hc.rest c hcb h
 ·have:c=H.size:=by omega
  subst this
  rw [a9v,← hsz,a9v]

theorem a6R {i:Nat} {e:g8} {b off n:Nat} (hc:T4 H H' b off n) (hsz:H'.size=H.size):T4 (VH H ι i e) (VH H' ι i e) b off n:=by
 cases e<;>first|exact hc|exact c6t hc hsz

theorem b7q {i:Nat} {e:g8} (hsz:H'.size=H.size):VR H' ι i e=VR H ι i e:=by cases e<;>simp [VR,hsz]
theorem a2h {i:Nat} {e:g8}:H.size≤(VH H ι i e).size:=by cases e<;>simp [VH,a4v]

theorem c0x {e:g8} {r:Sigma Ty.den} (he:e≠.I9):(e.D6 r).ty=r.1:=by cases e<;>first|rfl|exact absurd rfl he
theorem b6D {e:g8} {r:Sigma Ty.den} (he:e≠.I9):e.D6 r≠.I9:=by cases e<;>first|exact absurd rfl he|(intro h; cases h)
theorem b4z {i:Nat} {e:g8} {r:Sigma Ty.den} {ι':Ix} (h:ι'.cells i=ι.cells i):VH H ι' i (e.D6 r)=VH H ι i e:=by cases e<;>simp [VH,g8.D6,h]
theorem c1T {i:Nat} {e:g8} {r:Sigma Ty.den} {ι':Ix} (h:ι'.root i=ι.root i):VR H ι' i (e.D6 r)=VR H ι i e:=by cases e<;>simp [VR,g8.D6,h]

theorem OB.D6 {i:Nat} {e:g8} (he:e≠.I9) (ho:OB H S ι i e) (hbl:∀ c∈l6 ι i e,¬ S c∧c<H.size) (hS:∀ c,S c→c<H.size) {p:List Step} (hok:w4 e.ty e.x p) {u:Ty} {y:u.den} (hg:j6 e.ty e.x p=some ⟨u,y⟩)
  {b off:Nat} (hl:Loc H ι i e p=some (b,off)) {u':Ty} {z:u'.den} {O2:List Nat} (hc:T4 H H' b off u.size) (hsz:H'.size=H.size) (hz:f7 H' S u' O2 (d8 H' b off u'.size) z)
  (hO2:∀ c∈O2,c<H.size∧(c∈l6 ι i e→∃ Op,f7 H S u Op (d8 H b off u.size) y∧c∈Op)) (hnd2:O2.Nodup) {r:Sigma Ty.den} (hset:r9 e.ty e.x p u' z=some r) :
  ∃ O,(∀ c∈O,c∈ι.own i∨c∈O2)∧OB H' S (ι.y7 i O) i (e.D6 r)∧r.1.sh=e.ty.sh∧∀ c∈O,c∈O2∨∀ Op,f7 H S u Op (d8 H b off u.size) y→c∉Op:=by
 obtain ⟨O,hO,hR,hb,hnd,hlt,hns,hfr⟩:=ho.see he hS
 obtain ⟨O1,O3,b',off',e1,e2,e3,e4,e5,e6⟩:=focus hR hb hok hg
 obtain ⟨hpl,hbl2⟩:=y9 hl
 rw [F7 he] at hpl
 rw [e3] at hpl; cases hpl
 have hndO:(O1++O3).Nodup:=(e1.nodup_iff).1 ((hO.nodup_iff).2 (List.nodup_cons.1 hnd).2)
 have hmem:∀ c∈O1,c∈ι.own i:=fun c hc=>hO.mem_iff.1 (e1.mem_iff.2 (by simp [hc]))
 have hmem3:∀ c∈O3,c∈ι.own i:=fun c hc=>hO.mem_iff.1 (e1.mem_iff.2 (by simp [hc]))
 have hroot:=(List.nodup_cons.1 hnd).1
 have hown:∀ c∈ι.own i,c∈l6 ι i e:=by intro c hc; cases e<;>simp [l6,hc]
 have hrootS:¬ S (VR H ι i e).1:=by
  rcases hns with h|⟨t,x,rfl⟩
  ·exact h
  ·exact (hbl _ (by simp [l6,VR])).1
 have hz':f7 (VH H' ι i e) S u' O2 (d8 (VH H' ι i e) b off u'.size) z:=by
  rw [l4 (E8 (by omega))]
  exact (Z1 (fun c hc=>by have:=(hO2 c hc).1; omega) (fun c hc=>by have:=hS c hc; omega)).2 hz
 -- what is new is not in what stays
 have hO3:∀ c∈O2,c∈l6 ι i e→c∈O3:=by
  intro c hc hcb
  obtain ⟨Op,h1,h2⟩:=(hO2 c hc).2 hcb
  have e4':f7 H S u O3 (d8 H b off u.size) y:=by
   rw [l4 (E8 hbl2)] at e4
   exact (Z1 (fun c hc=>ho.P6 he (hmem3 c hc)) hS).1 e4
  rwa [h1.det e4'] at h2
 obtain ⟨O4,f1,f2,f3⟩:=a4m e2 hg e3 hb hlt (List.nodup_append.1 hndO).1 (fun h=>hroot (hmem _ h)) (fun c hc=>⟨(hbl c (hown c (hmem c hc))).1,Nat.lt_of_lt_of_le (hbl c (hown c (hmem c hc))).2 a2h⟩) hrootS
  (fun c hc=>Nat.lt_of_lt_of_le (hS c hc) a2h) (fun _ h=>h) (a6R hc hsz) hz' hset
 have hnd4:O4.Nodup:=(f1.nodup_iff).2 (List.nodup_append.2 ⟨(List.nodup_append.1 hndO).1,hnd2,by
  rintro c h1 d h2 rfl
  exact (List.nodup_append.1 hndO).2.2 c h1 c (hO3 c h2 (hown c (hmem c h1))) rfl⟩)
 have hsub:∀ c∈O4,c∈ι.own i∨c∈O2:=by
  intro c hc
  rcases List.mem_append.1 (f1.mem_iff.1 hc) with h|h
  ·exact .inl (hmem c h)
  ·exact .inr h
 have hlt4:∀ c∈O4,c<H'.size:=by
  intro c hc
  rw [hsz]
  rcases hsub c hc with h|h
  ·exact ho.P6 he h
  ·exact (hO2 c h).1
 have f2':=(Z1 hlt4 (fun c hc=>by have:=hS c hc; omega)).1 f2
 have hnot:∀ c∈O4,c∈O2∨∀ Op,f7 H S u Op (d8 H b off u.size) y→c∉Op:=by
  intro c hc
  rcases List.mem_append.1 (f1.mem_iff.1 hc) with h|h
  ·refine .inr (fun Op hOp hcO=>?_)
   have e4':f7 H S u O3 (d8 H b off u.size) y:=by
    rw [l4 (E8 hbl2)] at e4
    exact (Z1 (fun c hc=>ho.P6 he (hmem3 c hc)) hS).1 e4
   obtain rfl:Op=O3:=hOp.det e4'
   exact (List.nodup_append.1 hndO).2.2 c h c hcO rfl
  ·exact .inl h
 refine ⟨O4,hsub,?_,f3,hnot⟩
 cases e with
 | var t x =>
  simp only [g8.D6,OB,Ix.y7,if_true]
  obtain ⟨_,hf,_⟩:=ho
  refine ⟨⟨O4,List.Perm.refl _,f2'⟩,?_,?_⟩
  ·rw [E3 f3]; exact hc.free hf
  ·refine List.nodup_cons.2 ⟨fun h=>?_,hnd4⟩
   rcases hsub _ h with h1|h1
   ·exact hroot h1
   ·exact hroot (hmem3 _ (hO3 _ h1 (List.mem_cons_self ..)))
 | own t x =>
  simp only [g8.D6,OB,Ix.y7,if_true]
  refine ⟨⟨O4,List.Perm.refl _,?_⟩,hnd4⟩
  obtain ⟨⟨O',_,hR'⟩,_⟩:=ho
  have hsz1:r.1.size=t.size:=E3 f3
  have:d8 (VH H' ι i (.own t x)) (VR H ι i (.own t x)).1 (VR H ι i (.own t x)).2 r.1.size=ι.cells i:=by
   simp only [VH,VR]
   rw [← hsz]
   simp only [d8,a0k,List.drop_zero]
   exact List.take_of_length_le (by rw [hR'.length,hsz1]; exact Nat.le_refl _)
  rw [this] at f2'
  exact f2'
 | I9=>exact absurd rfl he

theorem c3G {i:Nat} {e:g8} (he:e≠.I9) (ho:OB H S ι i e) (hbl:∀ c∈l6 ι i e,¬ S c∧c<H.size) (hS:∀ c,S c→c<H.size) {p:List Step} (hok:w4 e.ty e.x p) {u:Ty} {y:u.den} (hg:j6 e.ty e.x p=some ⟨u,y⟩)
  {b off:Nat} (hl:Loc H ι i e p=some (b,off)) {u':Ty} {z:u'.den} (hc:T4 H H' b off u.size) (hsz:H'.size=H.size) {r:Sigma Ty.den} (hset:r9 e.ty e.x p u' z=some r)
  {q:List Step} (hk:kp p q=true) (hq:w4 e.ty e.x q) (O:List Nat) {rr:Nat×Nat} (hr:Loc H ι i e q=some rr):Loc H' (ι.y7 i O) i (e.D6 r) q=some rr∧w4 (e.D6 r).ty (e.D6 r).x q:=by
 obtain ⟨O',hO,hR,hb,hnd,hlt,hns,hfr⟩:=ho.see he hS
 obtain ⟨O1,O3,b',off',e1,e2,e3,e4,e5,e6⟩:=focus hR hb hok hg
 obtain ⟨hpl,hbl2⟩:=y9 hl
 rw [F7 he] at hpl
 rw [e3] at hpl; cases hpl
 have hndO:(O1++O3).Nodup:=(e1.nodup_iff).1 ((hO.nodup_iff).2 (List.nodup_cons.1 hnd).2)
 have hmem:∀ c∈O1,c∈ι.own i:=fun c hc=>hO.mem_iff.1 (e1.mem_iff.2 (by simp [hc]))
 have key:=b3C e2 hg e3 hb hlt (List.nodup_append.1 hndO).1 (fun h=>(List.nodup_cons.1 hnd).1 (hmem _ h)) (fun c hc=>Nat.lt_of_lt_of_le (ho.P6 he (hmem c hc)) a2h) (a6R hc hsz) hset hk hq
 obtain ⟨hr1,hr2⟩:=y9 (b:=rr.1) (off:=rr.2) hr
 rw [F7 he] at hr1
 have hu:w4 (e.D6 r).ty (e.D6 r).x q:=by
  cases e<;>first|exact key.2|exact absurd rfl he
 refine ⟨Z3 (b:=rr.1) (off:=rr.2) ?_ (by omega),hu⟩
 rw [F7 (b6D he),b4z (ι:=ι) (ι':=ι.y7 i O) rfl,c1T (ι:=ι) (ι':=ι.y7 i O) rfl,b7q hsz,c0x he,key.1]
 exact hr1

theorem c0p {i:Nat} {e:g8} (he:e≠.I9) (ho:OB H S ι i e) (hbl:∀ c∈l6 ι i e,¬ S c∧c<H.size) (hS:∀ c,S c→c<H.size) {p:List Step} (hok:w4 e.ty e.x p) {u:Ty} {y:u.den} (hg:j6 e.ty e.x p=some ⟨u,y⟩)
  {b off:Nat} (hl:Loc H ι i e p=some (b,off)) {u':Ty} {z:u'.den} (hc:T4 H H' b off u.size) (hsz:H'.size=H.size) {r:Sigma Ty.den} (hset:r9 e.ty e.x p u' z=some r)
  {q:List Step} (hk:kc e.ty p q=true) (hk2:kp p q=true) (hq:w4 e.ty e.x q) (O:List Nat) {u1:Ty} {y1:u1.den} (hg1:j6 e.ty e.x q=some ⟨u1,y1⟩) {cs:List Value} (hcs:Cells H ι i e q u1 cs) :
  w4 (e.D6 r).ty (e.D6 r).x q∧(∃ y2:u1.den,j6 (e.D6 r).ty (e.D6 r).x q=some ⟨u1,y2⟩)∧Cells H' (ι.y7 i O) i (e.D6 r) q u1 cs:=by
 obtain ⟨O',hO,hR,hb,hnd,hlt,hns,hfr⟩:=ho.see he hS
 obtain ⟨O1,O3,b',off',e1,e2,e3,e4,e5,e6⟩:=focus hR hb hok hg
 obtain ⟨hpl,hbl2⟩:=y9 hl
 rw [F7 he] at hpl
 rw [e3] at hpl; cases hpl
 have hndO:(O1++O3).Nodup:=(e1.nodup_iff).1 ((hO.nodup_iff).2 (List.nodup_cons.1 hnd).2)
 have hmem:∀ c∈O1,c∈ι.own i:=fun c hc=>hO.mem_iff.1 (e1.mem_iff.2 (by simp [hc]))
 have hnb:=fun h=>(List.nodup_cons.1 hnd).1 (hmem _ h)
 have hlo:∀ c∈O1,c<(VH H ι i e).size:=fun c hc=>Nat.lt_of_lt_of_le (ho.P6 he (hmem c hc)) a2h
 have key:=b3C e2 hg e3 hb hlt (List.nodup_append.1 hndO).1 hnb hlo (a6R hc hsz) hset hk2 hq
 obtain ⟨⟨y2,hy2⟩,key2⟩:=b9p e2 hg e3 hb hlt (List.nodup_append.1 hndO).1 hnb hlo (a6R hc hsz) hset hk hq hg1
 obtain ⟨b1,o1,hp1,hc1⟩:=hcs
 rw [F7 he] at hp1
 have hc2:=key2 b1 o1 hp1
 refine ⟨?_,⟨y2,?_⟩,b1,o1,?_,?_⟩
 ·cases e<;>first|exact key.2|exact absurd rfl he
 ·cases e<;>first|exact hy2|exact absurd rfl he
 ·rw [F7 (b6D he),b4z (ι:=ι) (ι':=ι.y7 i O) rfl,c1T (ι:=ι) (ι':=ι.y7 i O) rfl,b7q hsz,c0x he,key.1]
  exact hp1
 ·rw [b4z (ι:=ι) (ι':=ι.y7 i O) rfl,hc2]
  exact hc1

end
end Go.Ex

namespace Go.Ex

section
variable {E:Env} {B:D4} {S:Nat→Prop} {ι:Ix} {s:St} {a:Act} {w:World} {hp:List (Nat×g8)} {H H':Array Go.Obj}

theorem a3R:∀ {t:Ty} {x:t.den} {p:List Step} {u:Ty} {y:u.den} {u':Ty} {z:u'.den} {r:Sigma Ty.den},j6 t x p=some ⟨u,y⟩→r9 t x p u' z=some r→u'.sh=u.sh:=by
 intro t
 induction t with
 | pair a c iha ihc =>
  intro x p u y u' z r hg hs
  match p,hg,hs with
  | [],hg,hs =>
   simp only [j6,Option.some.injEq] at hg; cases hg
   simp only [r9] at hs
   split at hs
   ·rename_i e; exact e
   ·cases hs
  | .l7 0::p,hg,hs =>
   simp only [r9] at hs
   split at hs
   ·rename_i t' w hw; exact iha hg hw
   ·cases hs
  | .l7 (n+1)::p,hg,hs =>
   simp only [r9] at hs
   split at hs
   ·rename_i t' w hw; exact ihc hg hw
   ·cases hs
  | .idx i::p,_,hs=>simp [r9] at hs
 | arr n t ih =>
  intro x p u y u' z r hg hs
  match p,hg,hs with
  | [],hg,hs =>
   simp only [j6,Option.some.injEq] at hg; cases hg
   simp only [r9] at hs
   split at hs
   ·rename_i e; exact e
   ·cases hs
  | .idx i::p,hg,hs =>
   simp only [r9] at hs
   split at hs
   ·rename_i t' w hw; exact ih hg hw
   ·cases hs
  | .l7 i::p,_,hs=>simp [r9] at hs
 | d0 o t ih =>
  intro x p u y u' z r hg hs
  match p,hg,hs with
  | [],hg,hs =>
   have hg:some (⟨.d0 o t,x⟩:Sigma Ty.den)=some ⟨u,y⟩:=by cases o<;>exact hg
   cases hg
   have hs:(if u'.sh=(Ty.d0 o t).sh then some (⟨u',z⟩:Sigma Ty.den) else none)=some r:=by cases o<;>exact hs
   split at hs
   ·rename_i e; exact e
   ·cases hs
  | .idx i::p,hg,hs =>
   cases o with
   | false=>simp [r9] at hs
   | true =>
    simp only [r9] at hs
    split at hs
    ·rename_i t' w hw; exact ih hg hw
    ·cases hs
  | .l7 i::p,_,hs=>cases o<;>simp [r9] at hs
 | _ =>
  intro x p u y u' z r hg hs
  match p,hg,hs with
  | [],hg,hs =>
   simp only [j6,Option.some.injEq] at hg; cases hg
   simp only [r9] at hs
   split at hs
   ·rename_i e; exact e
   ·cases hs
  | .idx i::p,_,hs=>simp [r9] at hs
  | .l7 i::p,_,hs=>simp [r9] at hs


theorem RS.b3b (h:RS B S ι s a w) {i:Nat} {e:g8} (he:look i s.hp=some e) {p:List Step} (hok:w4 e.ty e.x p) {u:Ty} {y:u.den} (hg:j6 e.ty e.x p=some ⟨u,y⟩) {b off:Nat} (hl:Loc w.heap ι i e p=some (b,off))
  {u':Ty} {z:u'.den} {cs:List Value} {O2:List Nat} (hz:∀ H',H'.size=w.heap.size→T4 w.heap H' b off u.size→f7 H' S u' O2 cs z) (hcs:cs.length=u.size) (hnd2:O2.Nodup)
  (hO2:∀ c∈O2,(¬ S c∧(B.w0.heap.size≤c∨B.M c)∧c<w.heap.size)∧(∀ j ej,j≠i→look j s.hp=some ej→c∉l6 ι j ej)∧(c∈l6 ι i e→∃ Op,f7 w.heap S u Op (d8 w.heap b off u.size) y∧c∈Op))
  {r:Sigma Ty.den} (hset:r9 e.ty e.x p u' z=some r) (hty:e.W4=true→p≠[]→r.1=e.ty) :
  ∃ ι',(∃ O,ι'=ι.y7 i O∧∀ c∈O,(c∈ι.own i∨c∈O2)∧(c∈O2∨∀ Op,f7 w.heap S u Op (d8 w.heap b off u.size) y→c∉Op))∧RS B S ι' ((s.kill i e.kd p).s8 i (e.D6 r)) a (w.setRow b (over (s5 w.heap b) off cs).toArray):=by
 have hnb:=K3 hl
 obtain ⟨Op,m1,mn,m2,m3,m4,m5⟩:=N2 hnb (h.hs.ob i e he) h.hs.slt hok hg hl
 have hf:K4 w.heap b (off+cs.length):=by rw [hcs]; exact m5
 obtain ⟨hc,hcell⟩:=a3E hf
 rw [hcs] at hc hcell
 have hsz:(w.setRow b (over (s5 w.heap b) off cs).toArray).heap.size=w.heap.size:=setRow_size
 generalize hw':w.setRow b (over (s5 w.heap b) off cs).toArray=w' at *
 have hbl:=h.hs.bl i e he
 have hbl':∀ c∈l6 ι i e,¬ S c∧c<w.heap.size:=fun c hc=>⟨(hbl c hc).1,(hbl c hc).2.2⟩
 have hnS:¬ S b:=(hbl b m4).1
 have hold:∀ c,c≠b→w'.heap[c]?=w.heap[c]?:=by intro c hcb; rw [← hw']; exact setRow_other hcb
 have husz:u'.size=u.size:=E3 (a3R hg hset)
 have hz':f7 w'.heap S u' O2 (d8 w'.heap b off u'.size) z:=by
  rw [husz,hcell]
  exact hz w'.heap hsz hc
 obtain ⟨O,n1,n2,n3,n4⟩:=OB.D6 hnb (h.hs.ob i e he) hbl' h.hs.slt hok hg hl hc hsz hz' (fun c hc=>⟨(hO2 c hc).1.2.2,(hO2 c hc).2.2⟩) hnd2 hset
 have hown:∀ c∈ι.own i,c∈l6 ι i e:=by intro c hc; cases e<;>simp [l6,hc]
 -- blocks of the object now
 have hblks:∀ c∈l6 (ι.y7 i O) i (e.D6 r),c∈l6 ι i e∨c∈O2:=by
  intro c hc
  cases e with
  | var t x =>
   simp only [l6,g8.D6,Ix.y7,if_true,List.mem_cons] at hc ⊢
   rcases hc with hc|hc
   ·exact .inl (.inl hc)
   ·exact (n1 c hc).imp .inr id
  | own t x =>
   simp only [l6,g8.D6,Ix.y7,if_true] at hc ⊢
   exact n1 c hc
  | I9=>exact absurd rfl hnb
 have hfact:∀ c∈l6 (ι.y7 i O) i (e.D6 r),(¬ S c∧(B.w0.heap.size≤c∨B.M c)∧c<w.heap.size)∧∀ j ej,j≠i→look j s.hp=some ej→c∉l6 ι j ej:=by
  intro c hc
  rcases hblks c hc with h1|h1
  ·exact ⟨hbl c h1,fun j ej hj hlj=>h.hs.dj i j e ej he hlj (Ne.symm hj) c h1⟩
  ·exact ⟨(hO2 c h1).1,(hO2 c h1).2.1⟩
 have hsame:∀ j,j≠i→E0 ι (ι.y7 i O) j:=fun j hj=>a0m hj _
 refine ⟨ι.y7 i O,⟨O,rfl,fun c hc=>⟨n1 c hc,n4 c hc⟩⟩,⟨?_,?_,?_,?_,?_,?_,h.hs.s0,h.hs.s1,?_,?_,?_,?_⟩,h.dfr,h.sz,?_⟩
 ·rw [← hw']; exact h.hs.os
 ·exact S9.trans (.of (by rw [← hw']; rfl) (by rw [← hw']; rfl)) h.hs.tape
 ·rw [← hw']; exact h.hs.out
 ·rw [hsz]; exact h.hs.size
 ·intro c hc1 hm
  rw [hold c (by rintro rfl; rcases (hbl c m4).2.1 with h|h; omega; exact hm h)]
  exact h.hs.frame c hc1 hm
 ·intro c hc1; rw [hsz]; exact h.hs.slt c hc1
 ·intro j ej hj
  simp only [St.s8,o5] at hj
  by_cases e1:j=i
  ·subst e1; rw [if_pos rfl] at hj; cases hj; exact n2
  ·rw [if_neg e1] at hj
   have hj:look j s.hp=some ej:=hj
   refine (hsame j e1).ob.2 ((h.hs.ob j ej hj).r7 (fun c hcm=>hold c ?_) (fun _ h=>h))
   rintro rfl
   rcases hcm with hcm|hcm
   ·exact h.hs.dj j i ej e hj he e1 c hcm m4
   ·exact hnS hcm
 ·intro j ej hj c hc
  simp only [St.s8,o5] at hj
  rw [hsz]
  by_cases e1:j=i
  ·subst e1; rw [if_pos rfl] at hj; cases hj; exact (hfact c hc).1
  ·rw [if_neg e1] at hj
   rw [(hsame j e1).l6] at hc
   exact h.hs.bl j ej hj c hc
 ·intro j k ej ek hj hk hjk c hc
  simp only [St.s8,o5] at hj hk
  by_cases e1:j=i
  ·subst e1
   rw [if_pos rfl] at hj; cases hj
   rw [if_neg (Ne.symm hjk)] at hk
   rw [(hsame k (Ne.symm hjk)).l6]
   exact (hfact c hc).2 k ek (Ne.symm hjk) hk
  ·rw [if_neg e1] at hj
   rw [(hsame j e1).l6] at hc
   by_cases e2:k=i
   ·subst e2
    rw [if_pos rfl] at hk; cases hk
    exact fun hcc=>(hfact c hcc).2 j ej e1 hj hc
   ·rw [if_neg e2] at hk
    rw [(hsame k e2).l6]
    exact h.hs.dj j k ej ek hj hk hjk c hc
 ·intro q hq
  obtain ⟨k0,⟨e',k1⟩,k2,k3⟩:=h.hs.pin q hq
  refine ⟨k0,?_,k2,k3⟩
  simp only [St.s8,o5]
  by_cases e1:q.1=i
  ·exact ⟨_,by rw [if_pos e1]⟩
  ·exact ⟨e',by rw [if_neg e1]; exact k1⟩
 ·intro t v hv
  simp only [St.s8,St.kill,N0,Option.map_eq_some_iff] at hv
  obtain ⟨v0,hv0,rfl⟩:=hv
  refine VX.map (fun c hc=>hold c (fun e=>hnS (e▸hc))) (fun _ h=>h) (fun v vs hr hm hvx=>?_) (h.fr t v0 hv0)
  unfold AV.a9p
  cases hmi:v.i6 i with
  | false =>
   -- speaks of others
   have hne:∀ j,v.i6 j=true→j≠i:=by rintro j hj rfl; rw [hmi] at hj; cases hj
   have hst:VX w'.heap S ι (del i s.hp) v vs:=by
    refine VX.grow (fun c hcm=>hold c ?_) (fun _ h=>h) h.hs.slt (fun j ej hj=>?_) (VX.other (hp':=del i s.hp) (fun j hj=>by rw [I6,if_neg (hne j hj)]) (fun j _=>E0.refl ι j) hvx)
    ·rintro rfl
     rcases hcm with ⟨j,ej,hj,hcj⟩|hcm
     ·rw [I6] at hj
      split at hj
      ·cases hj
      ·rename_i hji
       exact h.hs.dj j i ej e hj he hji c hcj m4
     ·exact hnS hcm
    ·rw [I6] at hj
     split at hj
     ·cases hj
     ·exact h.hs.ob j ej hj
   exact VX.other (fun j hj=>by simp only [St.s8,o5,I6,if_neg (hne j hj)]; rfl) (fun j hj=>hsame j (hne j hj)) hst
  | true =>
   have hany:∀ {vs:List Value},(∃ x,vs=[x])→VX w'.heap S (ι.y7 i O) ((s.kill i e.kd p).s8 i (e.D6 r)).hp .any vs:=fun h=>h
   have honex:=VX.one hr hvx
   simp only
   cases v<;>simp only [AV.ref] at hr<;>try cases hr
   ·rename_i j q
    have hji:i=j:=Nat.eq_of_beq_eq_true hmi
    subst hji
    cases hkp:kp p q with
    | false=>simp only [hkp]; exact honex
    | true =>
     simp only [hkp]
     obtain ⟨ej,b2,off2,k1,k2,k3,k4⟩:=hvx
     rw [he] at k1; cases k1
     obtain ⟨l1,l2⟩:=c3G hnb (h.hs.ob i e he) hbl' h.hs.slt hok hg hl hc hsz hset hkp k2 O k3
     exact ⟨e.D6 r,b2,off2,by simp [St.s8,o5],l2,l1,k4⟩
   ·rename_i j q
    have hji:i=j:=Nat.eq_of_beq_eq_true hmi
    subst hji
    have hkeep:kc e.ty p q=true→kp p q=true→VX w'.heap S (ι.y7 i O) ((s.kill i e.kd p).s8 i (e.D6 r)).hp (.at_ i q) vs:=by
     intro hk1 hk2
     obtain ⟨ej,u2,y2,cs2,k1,k2,k3,k4,k5⟩:=hvx
     rw [he] at k1; cases k1
     obtain ⟨l1,⟨y3,l2⟩,l3⟩:=c0p hnb (h.hs.ob i e he) hbl' h.hs.slt hok hg hl hc hsz hset hk1 hk2 k2 O k3 k4
     exact ⟨e.D6 r,u2,y3,cs2,by simp [St.s8,o5],l1,l2,l3,k5⟩
    cases q with
    | cons st q =>
     cases hkc:kc e.kd.2 p (st::q) && kp p (st::q) with
     | false=>simp only [hkc]; exact honex
     | true =>
      simp only [hkc]
      rw [Bool.and_eq_true] at hkc
      exact hkeep hkc.1 hkc.2
    | nil =>
     have hdef:VX w'.heap S (ι.y7 i O) ((s.kill i e.kd p).s8 i (e.D6 r)).hp (match kc e.kd.2 p [] with|true=>AV.at_ i []|false=>AV.any) vs:=by
      cases hkc:kc e.kd.2 p [] with
      | false=>exact honex
      | true=>exact hkeep hkc (by cases p<;>rfl)
     rcases hpq:p with _|⟨_|jx,pq⟩<;>cases how:e.W4<;>simp only [g8.kd,how]<;>first|(rw [hpq] at hdef; exact hdef)|skip
     ·obtain ⟨ej,u2,y2,cs2,k1,k2,k3,k4,k5⟩:=hvx
      rw [he] at k1; cases k1
      have hrt:=hty how (by rw [hpq]; simp)
      rw [x7] at k3; cases k3
      obtain ⟨t0,x0,rfl⟩:∃ t0 x0,e=.own t0 x0:=by cases e<;>first|exact ⟨_,_,rfl⟩|(simp [g8.W4] at how)
      obtain ⟨⟨O',_,hR'⟩,_⟩:=h.hs.ob i _ he
      have hcs2:=P5 k4 hR'.length
      have hrt:r.1=t0:=hrt
      refine ⟨.own r.1 r.2,r.1,r.2,cs2,by simp [St.s8,o5,g8.D6],K2,x7,a1l (by rw [hcs2]; rfl) (by rw [hcs2,hR'.length,hrt]),?_⟩
      rw [k5]
      simp only [g8.ty,hrt]
   ·rename_i j q lo hi
    have hji:i=j:=Nat.eq_of_beq_eq_true hmi
    subst hji
    cases q with
    | cons st q=>exact honex
    | nil =>
     rcases hpq:p with _|⟨_|jx,pq⟩<;>cases how:e.W4<;>simp only [g8.kd,how]<;>first|exact honex|skip
     ·obtain ⟨ej,v2,k1,k2,k3,k4,k5,k6⟩:=hvx
      rw [he] at k1; cases k1
      have hrt:=hty how (by rw [hpq]; simp)
      obtain ⟨t0,x0,rfl⟩:∃ t0 x0,e=.own t0 x0:=by cases e<;>first|exact ⟨_,_,rfl⟩|(simp [g8.W4] at how)
      obtain ⟨⟨O',_,hR'⟩,_⟩:=h.hs.ob i _ he
      have hrt:r.1=t0:=hrt
      rcases k6 with ⟨t',l,a',cap,g1,g2,g3,g4⟩|⟨n,t',l,b2,off2,g1,g2,g3,g4⟩
      ·rw [x7] at g1; cases g1
       obtain ⟨rt,rx⟩:=r
       have hrt:rt=.d0 true t':=hrt
       subst hrt
       have hcs2:=P5 g3 hR'.length
       -- the length stands, as the header does
       have hlen:List.length (rx:(Ty.d0 true t').den)=List.length (x0:(Ty.d0 true t').den):=by
        obtain ⟨⟨O'',_,hR''⟩,_⟩:=n2
        have hcc:(ι.y7 i O).cells i=[.slice a' (List.length (x0:(Ty.d0 true t').den)) cap]:=(show ι.cells i=_ from hcs2.symm)
        rw [hcc] at hR''
        rcases hR'' with ⟨_,⟨a2,c2,h1,_⟩,h3⟩|⟨b3,o3,cap3,O3,c1,_⟩
        ·simp only [List.cons.injEq,Value.slice.injEq,and_true] at h1
         subst h3
         simp [h1.2.1]
        ·simp only [List.cons.injEq,Value.slice.injEq,and_true] at c1
         exact c1.2.1.symm
       refine ⟨.own (.d0 true t') rx,v2,by simp [St.s8,o5,g8.D6],K2,k3,k4,k5,.inl ⟨t',rx,a',cap,x7,by rw [hlen]; exact g2,?_,g4⟩⟩
       rw [hlen]
       exact a1l (show ι.cells i=_ from hcs2.symm) rfl
      ·exfalso
       simp only [Loc,Place,w8,VR] at g3
       simp at g3

theorem RS.store (h:RS B S ι s a w) {i:Nat} {e:g8} (he:look i s.hp=some e) {p:List Step} (hok:w4 e.ty e.x p) {u:Ty} {y:u.den} (hg:j6 e.ty e.x p=some ⟨u,y⟩) {b off:Nat} (hl:Loc w.heap ι i e p=some (b,off))
  {u':Ty} {z:u'.den} {cs:List Value} {O2:List Nat} (hz:∀ H',H'.size=w.heap.size→T4 w.heap H' b off u.size→f7 H' S u' O2 cs z) (hcs:cs.length=u.size) (hnd2:O2.Nodup)
  (hO2:∀ c∈O2,(¬ S c∧(B.w0.heap.size≤c∨B.M c)∧c<w.heap.size)∧(∀ j ej,j≠i→look j s.hp=some ej→c∉l6 ι j ej)∧(c∈l6 ι i e→∃ Op,f7 w.heap S u Op (d8 w.heap b off u.size) y∧c∈Op))
  {r:Sigma Ty.den} (hset:r9 e.ty e.x p u' z=some r) (hty:e.W4=true→p≠[]→r.1=e.ty) :
  ∃ ι',RS B S ι' ((s.kill i e.kd p).s8 i (e.D6 r)) a (w.setRow b (over (s5 w.heap b) off cs).toArray):=by
 obtain ⟨ι',_,h1⟩:=h.b3b he hok hg hl hz hcs hnd2 hO2 hset hty
 exact ⟨ι',h1⟩

end
end Go.Ex

namespace Go.Ex

section
variable {E:Env} {B:D4} {S:Nat→Prop} {ι:Ix} {s:St} {a:Act} {w:World} {hp:List (Nat×g8)} {H H':Array Go.Obj}

/-! ways that go on -/
theorem b9T:∀ {t:Ty} {x:t.den} {p q:List Step} {b off:Nat} {u:Ty} {y:u.den},j6 t x p=some ⟨u,y⟩→w7 H t (p++q) b off=(w7 H t p b off).bind fun r=>w7 H u q r.1 r.2:=by
 intro t
 induction t with
 | pair a c iha ihc =>
  intro x p q b off u y h
  match p,h with
  | [],h=>simp only [j6,Option.some.injEq] at h; cases h; rfl
  | .l7 0::p,h=>exact iha h
  | .l7 (n+1)::p,h=>exact ihc h
  | .idx i::p,h=>simp [j6] at h
 | arr n t ih =>
  intro x p q b off u y h
  match p,h with
  | [],h=>simp only [j6,Option.some.injEq] at h; cases h; rfl
  | .idx i::p,h=>exact ih h
  | .l7 i::p,h=>simp [j6] at h
 | d0 o t ih =>
  intro x p q b off u y h
  match p,h with
  | [],h =>
   have h:some (⟨.d0 o t,x⟩:Sigma Ty.den)=some ⟨u,y⟩:=by cases o<;>exact h
   cases h
   have:w7 H (.d0 o t) [] b off=some (b,off):=by cases o<;>rfl
   rw [this]; rfl
  | .idx i::p,h =>
   cases o with
   | false=>simp [j6] at h
   | true =>
    simp only [List.cons_append,w7]
    split
    ·exact ih h
    ·rfl
  | .l7 i::p,h=>cases o<;>simp [j6] at h
 | _ =>
  intro x p q b off u y h
  match p,h with
  | [],h=>simp only [j6,Option.some.injEq] at h; cases h; rfl
  | .idx i::p,h=>simp [j6] at h
  | .l7 i::p,h=>simp [j6] at h

theorem T8:∀ {t:Ty} {x:t.den} {p q:List Step} {u:Ty} {y:u.den},j6 t x p=some ⟨u,y⟩→w4 t x p→w4 u y q→w4 t x (p++q):=by
 intro t
 induction t with
 | pair a c iha ihc =>
  intro x p q u y h h1 h2
  match p,h,h1 with
  | [],h,_=>simp only [j6,Option.some.injEq] at h; cases h; exact h2
  | .l7 0::p,h,h1=>exact iha h h1 h2
  | .l7 (n+1)::p,h,h1=>exact ihc h h1 h2
  | .idx i::p,h,_=>simp [j6] at h
 | arr n t ih =>
  intro x p q u y h h1 h2
  match p,h,h1 with
  | [],h,_=>simp only [j6,Option.some.injEq] at h; cases h; exact h2
  | .idx i::p,h,h1=>exact ⟨h1.1,ih h h1.2 h2⟩
  | .l7 i::p,h,_=>simp [j6] at h
 | d0 o t ih =>
  intro x p q u y h h1 h2
  match p,h,h1 with
  | [],h,_ =>
   have h:some (⟨.d0 o t,x⟩:Sigma Ty.den)=some ⟨u,y⟩:=by cases o<;>exact h
   cases h; exact h2
  | .idx i::p,h,h1 =>
   cases o with
   | false=>simp [j6] at h
   | true=>exact ⟨h1.1,ih h h1.2 h2⟩
  | .l7 i::p,h,_=>cases o<;>simp [j6] at h
 | _ =>
  intro x p q u y h h1 h2
  match p,h,h1 with
  | [],h,_=>simp only [j6,Option.some.injEq] at h; cases h; exact h2
  | .idx i::p,h,_=>simp [j6] at h
  | .l7 i::p,h,_=>simp [j6] at h

theorem Z2 {i:Nat} {e:g8} {p q:List Step} {u:Ty} {y:u.den} (hg:j6 e.ty e.x p=some ⟨u,y⟩) {b off:Nat} (hl:Place H ι i e p=some (b,off)) {r:Nat×Nat} (hn:w7 (VH H ι i e) u q b off=some r) :
  Place H ι i e (p++q)=some r:=by
 have he:=a6U hl
 rw [F7 he] at hl ⊢
 rw [b9T hg,hl]; exact hn

theorem a1M {i:Nat} {e:g8} {p q:List Step} {u:Ty} {y:u.den} (hg:j6 e.ty e.x p=some ⟨u,y⟩) {b off:Nat} (hl:Loc H ι i e p=some (b,off)) {off':Nat} (hn:∀ G:Array Go.Obj,w7 G u q b off=some (b,off')) :
  Loc H ι i e (p++q)=some (b,off'):=by
 obtain ⟨h1,h2⟩:=y9 hl
 exact Z3 (Z2 hg h1 (hn _)) h2

/-! fields -/
def N4:Ty→Nat→Nat
 | .pair _ _,0=>0
 | .pair a b,n+1=>a.size+N4 b n
 | _,_=>0

theorem a1p:∀ {t:Ty} {x:t.den} {n:Nat} {u:Ty} {z:u.den} {b off:Nat},j6 t x [.l7 n]=some ⟨u,z⟩→w7 H t [.l7 n] b off=some (b,off+N4 t n):=by
 intro t
 induction t with
 | pair a c _ ihc =>
  intro x n u z b off h
  match n,h with
  | 0,h=>cases a<;>rfl
  | n+1,h =>
   have:=ihc (x:=x.2) (b:=b) (off:=off+a.size) h
   simp only [w7,N4] at this ⊢
   rw [this,Nat.add_assoc]
 | d0 o t _=>intro x n u z b off h; cases o<;>simp [j6] at h
 | _=>intro x n u z b off h; simp [j6] at h

theorem a2s:∀ {t:Ty} {x:t.den} {n:Nat} {u:Ty} {z:u.den},j6 t x [.l7 n]=some ⟨u,z⟩→w4 t x [.l7 n]:=by
 intro t
 induction t with
 | pair a c _ ihc =>
  intro x n u z h
  match n,h with
  | 0,h=>cases a<;>trivial
  | n+1,h=>exact ihc (x:=x.2) h
 | d0 o t _=>intro x n u z h; cases o<;>simp [j6] at h
 | _=>intro x n u z h; simp [j6] at h

theorem c3a {P:Program} {k:Nat}:∀ {t:Ty} {x:t.den} {n:Nat} {u:Ty} {z:u.den} {fs:List Field} {o:Nat},l8 (n8 P k) fs o t=true→j6 t x [.l7 n]=some ⟨u,z⟩ →
  ∃ f,fs[n]?=some f∧f.offset=o+N4 t n∧1≤u.size∧n8 P k f.type u=true:=by
 intro t
 induction t with
 | pair a c _ ihc =>
  intro x n u z fs o h hg
  cases fs with
  | nil=>simp [l8] at h
  | cons f fs =>
   simp only [l8,Bool.and_eq_true] at h
   obtain ⟨⟨⟨⟨h1,h2⟩,h3⟩,_⟩,h4⟩:=h
   match n,hg with
   | 0,hg =>
    have hg:some (⟨a,x.1⟩:Sigma Ty.den)=some ⟨u,z⟩:=by
     rw [← hg]; simp only [j6]
    cases hg
    exact ⟨f,rfl,Nat.eq_of_beq_eq_true h1,Nat.le_of_ble_eq_true h2,h3⟩
   | n+1,hg =>
    obtain ⟨g,e1,e2,e3,e4⟩:=ihc (x:=x.2) h4 hg
    exact ⟨g,by simpa using e1,by rw [e2]; simp only [N4]; omega,e3,e4⟩
 | d0 o t _=>intro x n u z fs o' h hg; cases o<;>simp [j6] at hg
 | _=>intro x n u z fs o h hg; simp [j6] at hg

theorem a30 {P:Program} {k:Nat} {T:TypeId} {t:Ty} {x:t.den} {n:Nat} {u:Ty} {z:u.den} (h:n8 P k T t=true) (hg:j6 t x [.l7 n]=some ⟨u,z⟩) :
  ∃ fs f k',P.underlying T=some (.struct fs)∧fs[n]?=some f∧f.offset=N4 t n∧1≤u.size∧n8 P k' f.type u=true:=by
 cases k with
 | zero=>simp [n8] at h
 | succ k =>
  obtain ⟨d,h1,h2⟩:=M4 h
  simp only [n8,Bool.and_eq_true,h1] at h
  obtain ⟨_,h⟩:=h
  cases t with
  | pair a c =>
   cases d<;>first|(exact (Bool.false_ne_true h).elim)|skip
   rename_i fs
   have h:l8 (n8 P k) fs.toList 0 (.pair a c)=true:=h
   obtain ⟨f,e1,e2,e3,e4⟩:=c3a h hg
   exact ⟨fs,f,k,h1,by simpa using e1,by simpa using e2,e3,e4⟩
  | d0 o t=>cases o<;>simp [j6] at hg
  | _=>simp [j6] at hg

theorem a0n {P:Program} {k:Nat} {T:TypeId} {t:Ty} {x:t.den} {n:Nat} {u:Ty} {z:u.den} (h:n8 P k T t=true) (hg:j6 t x [.l7 n]=some ⟨u,z⟩) (b off:Nat) :
  (Instr.fieldAt T (.pointer (some ⟨b,off,none⟩)) n).run P w=.ok (.pointer (some ⟨b,off+N4 t n,none⟩)) w:=by
 obtain ⟨fs,f,k',h1,h2,h3,h4,h5⟩:=a30 h hg
 have:¬ u.size=0:=by omega
 simp [Instr.fieldAt,n9 h1,h2,Instr.sureAddr,fieldPlace,run_sizeOf h5,this,h3,Addr.F6]

/-! elements -/
theorem U1 {P:Program} {k:Nat} {T:TypeId} {m:Nat} {t:Ty} (h:n8 P k T (.arr m t)=true):∃ e k',P.underlying T=some (.array m e)∧1≤t.size∧n8 P k' e t=true:=by
 cases k with
 | zero=>simp [n8] at h
 | succ k =>
  obtain ⟨d,h1,h2⟩:=M4 h
  simp only [n8,Bool.and_eq_true,h1] at h
  obtain ⟨_,h⟩:=h
  cases d<;>first|(exact (Bool.false_ne_true h).elim)|skip
  ·simp only [Bool.and_eq_true] at h
   rw [Nat.eq_of_beq_eq_true h.1.1] at h1
   exact ⟨_,k,h1,Nat.le_of_ble_eq_true h.1.2,h.2⟩
  ·rename_i fs
   have h:l8 (n8 P k) fs.toList 0 (.arr m t)=true:=h
   cases hf:fs.toList<;>(rw [hf] at h; simp [l8] at h)

theorem E5 {P:Program} {k:Nat} {T:TypeId} {o:Bool} {t:Ty} (h:n8 P k T (.d0 o t)=true):∃ e k',P.underlying T=some (.slice e)∧1≤t.size∧n8 P k' e t=true:=by
 cases k with
 | zero=>simp [n8] at h
 | succ k =>
  obtain ⟨d,h1,h2⟩:=M4 h
  simp only [n8,Bool.and_eq_true,h1] at h
  obtain ⟨_,h⟩:=h
  cases d<;>first|(exact (Bool.false_ne_true h).elim)|skip
  ·simp only [Bool.and_eq_true] at h
   exact ⟨_,k,h1,Nat.le_of_ble_eq_true h.1,h.2⟩
  ·rename_i fs
   have h:l8 (n8 P k) fs.toList 0 (.d0 o t)=true:=h
   cases hf:fs.toList<;>(rw [hf] at h; simp [l8] at h)

theorem S6 {P:Program} {k:Nat} {T:TypeId} (h:n8 P k T .str=true):P.underlying T=some .string:=by
 cases k with
 | zero=>simp [n8] at h
 | succ k =>
  obtain ⟨d,h1,h2⟩:=M4 h
  simp only [n8,Bool.and_eq_true,h1] at h
  obtain ⟨_,h⟩:=h
  cases d<;>first|exact h1|(exact (Bool.false_ne_true h).elim)|skip
  ·rename_i fs
   have h:l8 (n8 P k) fs.toList 0 .str=true:=h
   cases hf:fs.toList<;>(rw [hf] at h; simp [l8] at h)

theorem b6E {P:Program} {k f:Nat} {T:TypeId} (h:n8 P k T (.fn f)=true):∃ a b c,P.underlying T=some (.func a b c):=by
 cases k with
 | zero=>simp [n8] at h
 | succ k =>
  obtain ⟨d,h1,h2⟩:=M4 h
  simp only [n8,Bool.and_eq_true,h1] at h
  obtain ⟨_,h⟩:=h
  cases d<;>first|exact ⟨_,_,_,h1⟩|(exact (Bool.false_ne_true h).elim)|skip
  ·rename_i fs
   have h:l8 (n8 P k) fs.toList 0 (.fn f)=true:=h
   cases hf:fs.toList<;>(rw [hf] at h; simp [l8] at h)

theorem a4Q {P:Program} {k:Nat} {T:TypeId} {o:Bool} {a b:Ty} (h:n8 P k T (.map o a b)=true):∃ K V k',P.underlying T=some (.map K V)∧a.shared=true∧b.shared=true∧n8 P k' K a=true∧n8 P k' V b=true:=by
 cases k with
 | zero=>simp [n8] at h
 | succ k =>
  obtain ⟨d,h1,h2⟩:=M4 h
  simp only [n8,Bool.and_eq_true,h1] at h
  obtain ⟨_,h⟩:=h
  cases d<;>first|(exact (Bool.false_ne_true h).elim)|skip
  ·simp only [Bool.and_eq_true] at h
   exact ⟨_,_,k,h1,h.1.1.1,h.1.1.2,h.1.2,h.2⟩
  ·rename_i fs
   have h:l8 (n8 P k) fs.toList 0 (.map o a b)=true:=h
   cases hf:fs.toList<;>(rw [hf] at h; simp [l8] at h)

theorem a77 {P:Program} {k:Nat} {T:TypeId} {o:Bool} {a:Ty} (h:n8 P k T (.box o none a)=true):∃ e k',P.underlying T=some (.pointer e)∧n8 P k' e a=true:=by
 cases k with
 | zero=>simp [n8] at h
 | succ k =>
  obtain ⟨d,h1,h2⟩:=M4 h
  simp only [n8,Bool.and_eq_true,h1] at h
  obtain ⟨_,h⟩:=h
  cases d<;>first|(exact (Bool.false_ne_true h).elim)|skip
  ·exact ⟨_,k,h1,h⟩
  ·rename_i fs
   have h:l8 (n8 P k) fs.toList 0 (.box o none a)=true:=h
   cases hf:fs.toList<;>(rw [hf] at h; simp [l8] at h)

theorem b06 {P:Program} {k:Nat} {T:TypeId} {o:Bool} {g:Nat} {a:Ty} (h:n8 P k T (.box o (some g) a)=true):∃ p q v,P.underlying T=some (.func p q v):=by
 cases k with
 | zero=>simp [n8] at h
 | succ k =>
  obtain ⟨d,h1,h2⟩:=M4 h
  simp only [n8,Bool.and_eq_true,h1] at h
  obtain ⟨_,h⟩:=h
  cases d<;>first|(exact (Bool.false_ne_true h).elim)|skip
  ·rename_i fs
   have h:l8 (n8 P k) fs.toList 0 (.box o (some g) a)=true:=h
   cases hf:fs.toList<;>(rw [hf] at h; simp [l8] at h)
  ·exact ⟨_,_,_,h1⟩

theorem X1 {P:Program} {k:Nat} {T:TypeId} {kd:IntKind} (h:n8 P k T (.int kd)=true):P.underlying T=some (.int kd):=by
 cases k with
 | zero=>simp [n8] at h
 | succ k =>
  obtain ⟨d,h1,h2⟩:=M4 h
  simp only [n8,Bool.and_eq_true,h1] at h
  obtain ⟨_,h⟩:=h
  cases d<;>first|(exact (Bool.false_ne_true h).elim)|skip
  ·rw [of_decide_eq_true h] at h1; exact h1
  ·rename_i fs
   have h:l8 (n8 P k) fs.toList 0 (.int kd)=true:=h
   cases hf:fs.toList<;>(rw [hf] at h; simp [l8] at h)

theorem a0t {P:Program} {k:Nat} {T:TypeId} {m:Nat} {t:Ty} (h:n8 P k T (.arr m t)=true) (b off:Nat) {kd:IntKind} {n:Int} (hn:0≤n∧n<m) :
  (Instr.indexAt T (.pointer (some ⟨b,off,none⟩)) (.int kd n)).run P w=.ok (.pointer (some ⟨b,off+n.toNat*t.size,none⟩)) w:=by
 obtain ⟨e,k',h1,h2,h3⟩:=U1 h
 simp [Instr.indexAt,asIntOf,n9 h1,Instr.sureAddr,hn,run_sizeOf h3,Addr.F6]

theorem R7 {P:Program} {k:Nat} {T:TypeId} {o:Bool} {t:Ty} (h:n8 P k T (.d0 o t)=true) (b off len cap:Nat) {kd:IntKind} {n:Int} (hn:0≤n∧n<len) :
  (Instr.indexAt T (.slice (some ⟨b,off,none⟩) len cap) (.int kd n)).run P w=.ok (.pointer (some ⟨b,off+n.toNat*t.size,none⟩)) w:=by
 obtain ⟨e,k',h1,h2,h3⟩:=E5 h
 simp [Instr.indexAt,asIntOf,n9 h1,hn,run_sizeOf h3,Addr.F6]

end
end Go.Ex

namespace Go.Ex

section
variable {E:Env} {B:D4} {S:Nat→Prop} {ι:Ix} {s:St} {a:Act} {w:World} {hp:List (Nat×g8)} {H H':Array Go.Obj}

theorem a9g {α:Type} {n:Int} (h:0≤n∧n<(([]:List α).length:Int)):False:=by
 simp at h; omega

theorem x8 {x:Operand} (h:RS B S ι s a w) {v:AV} (e:s.ev x=v):VX w.heap S ι s.hp v [a.eval x]:=e▸h.ev x

theorem G2 {P:Program} {o:Oper} {sem:Sem Value} (he:execOp a.eval o=(do pure (.value (← sem)))) (h:RS B S ι s a w) {v:AV} {val:Value} (hr:sem.run P w=.ok val w)
  (hv:VX w.heap S ι s.hp v [val]):u6 P B o a w v s:=u6.value (Q6 he hr) h hv

theorem a0l {i:Nat} {e e':g8} (h1:look i s.hp=some e) (h:s.obj i=some e'):e'=e:=by
 rw [St.obj,h1] at h; cases h; rfl


theorem F0 (h:HS B S ι hp w) {i:Nat} {e:g8} (hi:look i hp=some e) {p:List Step} (hok:w4 e.ty e.x p) {u:Ty} {y:u.den} (hg:j6 e.ty e.x p=some ⟨u,y⟩) {cs:List Value} (hc:Cells w.heap ι i e p u cs) :
  ∃ O2,(∀ c∈O2,c∈ι.own i)∧O2.Nodup∧f7 w.heap S u O2 cs y:=by
 obtain ⟨b,off,O2,k1,k2,k3,k4,_⟩:=(h.ob i e hi).part (a2B hc) h.slt hok hg
 obtain ⟨b',off',h1,rfl⟩:=hc
 rw [k1] at h1; cases h1
 exact ⟨O2,k2,k3,k4⟩

theorem F5 {i:Nat} {e:g8} {c:Nat} (h:c∈ι.own i):c∈l6 ι i e:=by cases e<;>simp [l6,h]

theorem i7.take {α:Type} {R:List Nat→List Value→α→Prop} {sz:Nat}:∀ {l:List α} {O:List Nat} {cs:List Value} (k:Nat),i7 R sz O cs l→∃ O1 O2,O=O1++O2∧i7 R sz O1 (cs.take (k*sz)) (l.take k)∧i7 R sz O2 (cs.drop (k*sz)) (l.drop k)
 | l,O,cs,0,h=>⟨[],O,rfl,by simp [i7],by simpa using h⟩
 | [],O,cs,k+1,⟨h1,h2⟩=>⟨[],[],by simp [h1],by simp [i7,h2],by simp [i7,h2]⟩
 | x::l,O,cs,k+1,⟨O1,O2,e,h1,h2⟩=>by
  obtain ⟨P1,P2,e',g1,g2⟩:=i7.take k h2
  refine ⟨O1++P1,P2,by rw [e,e',List.append_assoc],⟨O1,P1,rfl,?_,?_⟩,?_⟩
  ·rw [List.take_take,Nat.min_eq_left (by rw [Nat.succ_mul]; omega)]; exact h1
  ·rw [List.drop_take,show (k+1)*sz - sz=k*sz from by rw [Nat.succ_mul]; omega]; exact g1
  ·rw [List.drop_drop,show sz+k*sz=(k+1)*sz from by rw [Nat.succ_mul]; omega] at g2
   exact g2

theorem i7.cut {α:Type} {R:List Nat→List Value→α→Prop} {sz:Nat} {l:List α} {O:List Nat} {cs:List Value} (a n:Nat) (h:i7 R sz O cs l):∃ O1 O2 O3,O=O1++(O2++O3)∧i7 R sz O2 ((cs.drop (a*sz)).take (n*sz)) ((l.drop a).take n):=by
 obtain ⟨O1,O2,e,_,h2⟩:=h.take a
 obtain ⟨P1,P2,e',g1,_⟩:=h2.take n
 exact ⟨O1,P1,P2,by rw [e,e'],g1⟩

theorem X4 {α:Type} {lo hi:Int} {l:List α} (h0:0≤lo) (h2:hi≤(l.length:Int)):(n7 lo hi l).length=(hi - lo).toNat:=by
 simp only [n7,List.length_take,List.length_drop]
 omega

def LB (S:Nat→Prop) (ι:Ix) (hp:List (Nat×g8)) (b:Nat):Prop:=S b∨∃ i e,look i hp=some e∧b∈l6 ι i e

def b92 (H:Array Go.Obj) (S:Nat→Prop) (t:Ty) (l:List t.den) (A:Option Addr) (L:Nat→Prop):Prop :=
 l=[]∨∃ b off O,A=some ⟨b,off,none⟩∧L b∧off+l.length*t.size≤(s5 H b).length∧i7 (f7 H S t) t.size O (d8 H b off (l.length*t.size)) l∧∀ c∈O,L c

theorem a7c (h:HS B S ι s.hp w) {i:Nat} {p:List Step} {lo hi:Int} {v:Value} (hv:VX w.heap S ι s.hp (.sub i p lo hi) [v]) {t:Ty} {l:List t.den} (hw:s.view i p lo hi=some ⟨t,l⟩) :
  ∃ A c,v=.slice A l.length c∧b92 w.heap S t l A (LB S ι s.hp)∧(l.length:Int)=hi - lo∧0≤lo∧lo≤hi∧∃ e,look i s.hp=some e∧w4 e.ty e.x p ∧
   (l≠[]→∃ b off,A=some ⟨b,off,none⟩∧∀ n:Int,0≤n→n<l.length→∃ off2,Loc w.heap ι i e (p++[.idx (lo+n)])=some (b,off2)∧off2=off+n.toNat*t.size∧w4 e.ty e.x (p++[.idx (lo+n)])):=by
 obtain ⟨e,v',h1,h2,h3,h4,h5,h6⟩:=hv
 cases h3
 have hob:=h.ob i e h1
 unfold St.view at hw
 rcases h6 with ⟨t',l',a,cap,k1,k2,k3,c,A,k4,kA,k5,k6⟩|⟨n,t',l',b,off,k1,⟨k2,k2'⟩,k3,c,A,k4,kA,k5,k6⟩
 ·have hp:s.part i p=some ⟨.d0 true t',l'⟩:=by unfold St.part St.obj; rw [h1]; exact k1
  rw [hp] at hw
  simp only [Option.some.injEq,Sigma.mk.injEq] at hw
  obtain ⟨rfl,hw⟩:=hw
  have hw:=eq_of_heq hw
  subst hw
  have hlen:(n7 lo hi l').length=(hi - lo).toNat:=X4 h4 k2
  refine ⟨_,c,by rw [hlen]; exact k4,?_,by omega,h4,h5,e,h1,h2,?_⟩
  ·by_cases hz:n7 lo hi l'=[]
   ·exact .inl hz
   ·obtain ⟨O2,m1,m2,m3⟩:=F0 h h1 h2 k1 k3
    rcases m3 with ⟨_,_,hn⟩|⟨b1,o1,cap',O',c1,c2,c3,c4,c5,rfl,c7⟩
    ·exfalso; apply hz; rw [hn]; simp [n7]
    ·simp only [List.cons.injEq,Value.slice.injEq,and_true] at c1
     obtain ⟨rfl,_,rfl⟩:=c1
     have hpos:0<(hi - lo).toNat:=by rw [← hlen]; exact List.length_pos_iff.2 hz
     obtain ⟨P1,P2,P3,e1,g⟩:=c5.cut lo.toNat (hi - lo).toNat
     have hle:lo.toNat*t'.size+(hi - lo).toNat*t'.size≤List.length l'*t'.size:=by rw [← Nat.add_mul]; exact Nat.mul_le_mul_right _ (by omega)
     rw [n5,m0 _ _ _ _ (by omega)] at g
     refine .inr ⟨b1,o1+lo.toNat*t'.size,P2,?_,.inr ⟨i,e,h1,F5 (m1 b1 (by simp))⟩,?_,by rw [hlen]; exact g,fun c hc=>.inr ⟨i,e,h1,F5 (m1 c (by rw [e1]; simp [hc]))⟩⟩
     ·rw [kA (by omega),Option.map_some,Addr.F6]
     ·rw [hlen]; omega
  ·intro hz
   obtain ⟨O2,m1,m2,m3⟩:=F0 h h1 h2 k1 k3
   rcases m3 with ⟨_,_,hn⟩|⟨b1,o1,cap',O',c1,c2,c3,c4,c5,rfl,c7⟩
   ·exfalso; apply hz; rw [hn]; simp [n7]
   ·simp only [List.cons.injEq,Value.slice.injEq,and_true] at c1
    obtain ⟨rfl,_,rfl⟩:=c1
    have hpos:0<(hi - lo).toNat:=by rw [← hlen]; exact List.length_pos_iff.2 hz
    refine ⟨b1,o1+lo.toNat*t'.size,by rw [kA (by omega),Option.map_some,Addr.F6],fun n hn0 hn=>?_⟩
    obtain ⟨b0,off0,q1,q2⟩:=k3
    have hh:=(M1 b0 off0 _).1 q2.symm
    refine ⟨o1+(lo+n).toNat*t'.size,Z3 (Z2 k1 q1 ?_) c7.free.lt,by rw [show (lo+n).toNat=lo.toNat+n.toNat from by omega,Nat.add_mul]; omega,T8 k1 h2 ⟨⟨by omega,by omega⟩,K2⟩⟩
    simp only [w7,hh,w8]
 ·have hp:s.part i p=some ⟨.arr n t',l'⟩:=by unfold St.part St.obj; rw [h1]; exact k1
  rw [hp] at hw
  simp only [Option.some.injEq,Sigma.mk.injEq] at hw
  obtain ⟨rfl,hw⟩:=hw
  have hw:=eq_of_heq hw
  subst hw
  obtain ⟨O2,m1,m2,m3,m4,m5,m6⟩:=N2 (K3 k3) hob h.slt h2 k1 k3
  obtain ⟨hl,m3⟩:=m3
  have hlen:(n7 lo hi l').length=(hi - lo).toNat:=X4 h4 (by rw [hl]; exact k2)
  refine ⟨_,c,by rw [hlen]; exact k4,?_,by omega,h4,h5,e,h1,h2,?_⟩
  ·by_cases hz:n7 lo hi l'=[]
   ·exact .inl hz
   ·have hpos:0<(hi - lo).toNat:=by rw [← hlen]; exact List.length_pos_iff.2 hz
    obtain ⟨P1,P2,P3,e1,g⟩:=m3.cut lo.toNat (hi - lo).toNat
    have hle:lo.toNat*t'.size+(hi - lo).toNat*t'.size≤n*t'.size:=by rw [← Nat.add_mul]; exact Nat.mul_le_mul_right _ (by omega)
    simp only [Ty.size] at g m4
    rw [n5,m0 _ _ _ _ (by omega)] at g
    refine .inr ⟨b,off+lo.toNat*t'.size,P2,?_,.inr ⟨i,e,h1,m5⟩,?_,by rw [hlen]; exact g,fun c hc=>.inr ⟨i,e,h1,F5 (m1 c (by rw [e1]; simp [hc]))⟩⟩
    ·rw [kA (by omega),Option.map_some,Addr.F6]
    ·rw [hlen]; omega
  ·intro hz
   have hpos:0<(hi - lo).toNat:=by rw [← hlen]; exact List.length_pos_iff.2 hz
   refine ⟨b,off+lo.toNat*t'.size,by rw [kA (by omega),Option.map_some,Addr.F6],fun m hm0 hm=>?_⟩
   refine ⟨off+(lo+m).toNat*t'.size,a1M k1 k3 (fun G=>by simp only [w7,w8]),by rw [show (lo+m).toNat=lo.toNat+m.toNat from by omega,Nat.add_mul]; omega,T8 k1 h2 ⟨⟨by omega,by omega⟩,K2⟩⟩

theorem b6L {H:Array Go.Obj} {o:Bool} {t:Ty} {O:List Nat} {cs:List Value} {l:(Ty.d0 o t).den} (hR:f7 H S (.d0 o t) O cs l) {L:Nat→Prop} (hO:∀ c∈O,L c) (hS:∀ c,S c→L c) :
  ∃ A c,j7 (.d0 o t) cs=.slice A (List.length l) c∧b92 H S t l A L:=by
 rcases hR with ⟨_,⟨a,c,rfl,_⟩,hn⟩|⟨b1,o1,cap',O',rfl,c2,c3,c4,c5,c6⟩
 ·have:List.length l=0:=by rw [hn]; rfl
  exact ⟨a,c,by rw [this]; rfl,.inl hn⟩
 ·refine ⟨_,_,rfl,.inr ⟨b1,o1,O',rfl,?_,c4,c5,?_⟩⟩
  ·cases o with
   | true=>exact hO b1 (by rw [c6.1]; simp)
   | false=>exact hS b1 c6.2.2
  ·cases o with
   | true=>intro c hc; exact hO c (by rw [c6.1]; simp [hc])
   | false=>intro c hc; rw [c6.2.1] at hc; cases hc

theorem a7m (h:HS B S ι s.hp w) {v:AV} {val:Value} (hv:VX w.heap S ι s.hp v [val]) {t:Ty} {l:List t.den} (hw:v.els s=some ⟨t,l⟩):∃ A c,val=.slice A l.length c∧b92 w.heap S t l A (LB S ι s.hp):=by
 unfold AV.els at hw
 split at hw
 ·rename_i o t' l'
  simp only [Option.some.injEq,Sigma.mk.injEq] at hw
  obtain ⟨rfl,hw⟩:=hw
  have hw:=eq_of_heq hw
  subst hw
  obtain ⟨cs,e,hR⟩:=hv
  have e:val=j7 (.d0 o t') cs:=by simpa using e
  obtain ⟨A,c,k1,k2⟩:=b6L hR (L:=LB S ι s.hp) (by simp) (fun c hc=>.inl hc)
  exact ⟨A,c,e.trans k1,k2⟩
 ·rename_i i p
  split at hw
  ·rename_i o t' l' hp
   simp only [Option.some.injEq,Sigma.mk.injEq] at hw
   obtain ⟨rfl,hw⟩:=hw
   have hw:=eq_of_heq hw
   subst hw
   obtain ⟨e,u,y,cs,h1,h2,h3,h4,h5⟩:=hv
   have hg:=G3 h1 hp
   rw [h3] at hg; cases hg
   have h5:val=j7 (.d0 o t') cs:=by simpa using h5
   obtain ⟨O2,m1,m2,m3⟩:=F0 h h1 h2 h3 h4
   obtain ⟨A,c,k1,k2⟩:=b6L m3 (L:=LB S ι s.hp) (fun c hc=>.inr ⟨i,e,h1,F5 (m1 c hc)⟩) (fun c hc=>.inl hc)
   exact ⟨A,c,h5.trans k1,k2⟩
  ·cases hw
 ·obtain ⟨A,c,k1,k2,_⟩:=a7c h hv hw
  exact ⟨A,c,k1,k2⟩
 ·cases hw

theorem a7a {t:Ty} {y:Option t.den} {val:Value} (hv:VX w.heap S ι s.hp (.val (.box false none t) y) [val]) (hy:y.isSome=true):VX w.heap S ι s.hp (.L9 t (y.getD t.o7)) [val]:=by
 obtain ⟨cs,e,hR⟩:=hv
 rcases hR with ⟨rfl,_⟩|⟨z,b,off,O',rfl,rfl,h2,h3,_,rfl,h4⟩
 ·cases hy
 ·exact ⟨b,off,by simpa [j7,Ty.agg,a4d] using e,h4,h2,h3⟩

theorem a74 {f:Nat} {t:Ty} {y:Option t.den} {val:Value} (hv:VX w.heap S ι s.hp (.val (.box false (some f) t) y) [val]) (hy:y.isSome=true):∃ p,val=.func (.func f) #[] #[p]∧VX w.heap S ι s.hp (.L9 t (y.getD t.o7)) [p]:=by
 obtain ⟨cs,e,hR⟩:=hv
 rcases hR with ⟨rfl,_⟩|⟨z,b,off,O',rfl,rfl,h2,h3,_,rfl,h4⟩
 ·cases hy
 ·exact ⟨_,by simpa [j7,Ty.agg,a4d] using e,b,off,rfl,h4,h2,h3⟩

theorem a9y (hE:C2 E B) (h:RS B S ι s a w) {o:Oper} {T:TypeId} {x:Operand} {n:Nat} (ho:o.op=.fieldAddr T x n):D3 E.P B o a w (n6 E o s):=by
 have he:execOp a.eval o=(do pure (.value (← Instr.fieldAt T (a.eval x) n))):=by simp [execOp,ho]
 unfold n6
 rw [ho]
 simp only
 split
 ·rename_i i p hx
  split
  ·rename_i u z hpt
   split
   ·rename_i r hc hg2
    obtain ⟨e,b,off,h1,h2,h3,h4⟩:=x8 h hx
    have hg:=G3 h1 hpt
    have h4:a.eval x=.pointer (some ⟨b,off,none⟩):=by simpa using h4
    obtain ⟨u2,z2⟩:=r
    exact G2 he h (by rw [h4]; exact a0n (C1 hE hc) hg2 b off) ⟨e,b,off+N4 u n,h1,T8 hg h2 (a2s hg2),a1M hg h3 (fun G=>a1p hg2),rfl⟩
   ·trivial
  ·trivial
 ·rename_i t y hx
  split
  ·rename_i u z hc hg
   obtain ⟨b,off,e,h1,h2,h3⟩:=x8 h hx
   have e:a.eval x=.pointer (some ⟨b,off,none⟩):=by simpa using e
   have hok:=a2s hg
   obtain ⟨O1,O2,b',off',e1,e2,e3,e4,e5,e6⟩:=focus h3 h2 hok hg
   have hO:O1=[]∧O2=[]:=by have:=e1.nil_eq; simpa using this.symm
   rw [a1p hg] at e3; cases e3
   refine G2 he h (by rw [e]; exact a0n (C1 hE hc) hg b off) ⟨b,off+N4 t n,rfl,h1,e5,?_⟩
   rw [hO.2] at e4; exact e4
  ·trivial
 ·rename_i t y hx
  split
  ·rename_i u z hc hg
   intro hy
   obtain ⟨b,off,e,h1,h2,h3⟩:=a7a (x8 h hx) hy
   have e:a.eval x=.pointer (some ⟨b,off,none⟩):=by simpa using e
   have hok:=a2s hg
   obtain ⟨O1,O2,b',off',e1,e2,e3,e4,e5,e6⟩:=focus h3 h2 hok hg
   have hO:O1=[]∧O2=[]:=by have:=e1.nil_eq; simpa using this.symm
   rw [a1p hg] at e3; cases e3
   refine G2 he h (by rw [e]; exact a0n (C1 hE hc) hg b off) ⟨b,off+N4 t n,rfl,h1,e5,?_⟩
   rw [hO.2] at e4; exact e4
  ·trivial
 ·trivial

theorem a9s (hE:C2 E B) (h:RS B S ι s a w) {o:Oper} {T:TypeId} {x y:Operand} (ho:o.op=.indexAddr T x y):D3 E.P B o a w (n6 E o s):=by
 have he:execOp a.eval o=(do pure (.value (← Instr.indexAt T (a.eval x) (a.eval y)))):=by simp [execOp,ho]
 unfold n6
 rw [ho]
 simp only
 split
 ·rename_i d p k n hx hy
  split
  ·rename_i m u z hpt
   split
   ·rename_i hc
    intro hn
    obtain ⟨e,b,off,h1,h2,h3,h4⟩:=x8 h hx
    have hg:=G3 h1 hpt
    have h4:a.eval x=.pointer (some ⟨b,off,none⟩):=by simpa using h4
    obtain ⟨hyv,_⟩:=VX.F8 (x8 h hy)
    exact G2 he h (by rw [h4,hyv]; exact a0t (C1 hE hc) b off hn) ⟨e,b,off+n.toNat*u.size,h1,T8 hg h2 ⟨hn,K2⟩,a1M hg h3 (fun G=>by simp only [w7,w8]),rfl⟩
   ·trivial
  ·trivial
 ·rename_i m t z k n hx hy
  split
  ·rename_i hc
   intro hn
   obtain ⟨b,off,e,h1,h2,h3⟩:=x8 h hx
   have e:a.eval x=.pointer (some ⟨b,off,none⟩):=by simpa using e
   obtain ⟨hyv,_⟩:=VX.F8 (x8 h hy)
   have hok:w4 (.arr m t) z [.idx n]:=⟨hn,by cases t<;>trivial⟩
   have hg:j6 (.arr m t) z [.idx n]=some ⟨t,List.getD z (Int.toNat n) t.o7⟩:=by simp only [j6]
   obtain ⟨O1,O2,b',off',e1,e2,e3,e4,e5,e6⟩:=focus h3 h2 hok hg
   have hO:O1=[]∧O2=[]:=by have:=e1.nil_eq; simpa using this.symm
   have e3':w7 w.heap (.arr m t) [.idx n] b off=some (b,off+Int.toNat n*t.size):=by simp only [w7]
   rw [e3'] at e3; cases e3
   refine G2 he h (by rw [e,hyv]; exact a0t (C1 hE hc) b off hn) ⟨b,off+Int.toNat n*t.size,rfl,h1,e5,?_⟩
   rw [hO.2] at e4; exact e4
  ·trivial
 ·rename_i t z k n hx hy
  split
  ·rename_i hc
   intro hn
   obtain ⟨cs,e,hR⟩:=x8 h hx
   have e:a.eval x=j7 (.d0 false t) cs:=by simpa using e
   obtain ⟨hyv,_⟩:=VX.F8 (x8 h hy)
   rcases hR with ⟨_,_,hz⟩|⟨b1,o1,cap,O',c1,c2,c3,c4,c5,c6,c7,c8⟩
   ·subst hz; exact (a9g hn).elim
   ·have hxv:a.eval x=.slice (some ⟨b1,o1,none⟩) (List.length z) cap:=by rw [e,c1]; rfl
    obtain ⟨b1',b2,b3,b4⟩:=C4 (sz:=t.size) hn
    obtain ⟨P1,P2,P3,e1,g1,g2,g3⟩:=i7.split (d:=t.o7) (i:=Int.toNat n) b1' c5
    have hle:t.size≤List.length z*t.size - Int.toNat n*t.size:=by omega
    rw [n5,m0 _ _ _ _ hle] at g2
    have hP:P2=[]:=by rw [c7] at e1; have:=List.append_eq_nil_iff.1 e1.symm; exact (List.append_eq_nil_iff.1 this.2).1
    refine G2 he h (by rw [hxv,hyv]; exact R7 (C1 hE hc) b1 o1 _ cap hn) ⟨b1,o1+Int.toNat n*t.size,rfl,c8,by omega,?_⟩
    rw [hP] at g2; exact g2
  ·trivial
 ·rename_i d p k n hx hy
  split
  ·rename_i u z hpt
   split
   ·rename_i hc
    intro hn
    obtain ⟨e,u',y',cs,h1,h2,h3,h4,h5⟩:=x8 h hx
    have hg:=G3 h1 hpt
    rw [h3] at hg; cases hg
    obtain ⟨hyv,_⟩:=VX.F8 (x8 h hy)
    have h5:a.eval x=j7 (.d0 true u) cs:=by simpa using h5
    obtain ⟨O2,m1,m2,m3⟩:=F0 h.hs h1 h2 h3 h4
    rcases m3 with ⟨_,_,hz⟩|⟨b1,o1,cap,O',rfl,c2,c3,c4,c5,c6,c7⟩
    ·subst hz; exact (a9g hn).elim
    ·have hxv:a.eval x=.slice (some ⟨b1,o1,none⟩) (List.length z) cap:=h5
     obtain ⟨b0,off0,q1,q2⟩:=h4
     have hh:=(M1 b0 off0 _).1 q2.symm
     refine G2 he h (by rw [hxv,hyv]; exact R7 (C1 hE hc) b1 o1 _ cap hn) ⟨e,b1,o1+n.toNat*u.size,h1,T8 h3 h2 ⟨hn,K2⟩,Z3 (Z2 h3 q1 ?_) c7.free.lt,rfl⟩
     simp only [w7,hh,w8]
   ·trivial
  ·trivial
 ·rename_i d p lo hi k n hx hy
  split
  ·rename_i u l hvw
   split
   ·rename_i hc
    intro hn
    have hn1:@LE.le Int Int.instLEInt 0 n:=hn.1
    have hn2:@LT.lt Int Int.instLTInt n (hi - lo):=hn.2
    obtain ⟨A,c,k1,k2,k3,k4,k5,e,k6,k7,k8⟩:=a7c h.hs (x8 h hx) hvw
    obtain ⟨hyv,_⟩:=VX.F8 (x8 h hy)
    have hz:l≠[]:=by rintro rfl; have k3:((0:Nat):Int)=hi - lo:=k3; omega
    obtain ⟨b,off,rfl,k9⟩:=k8 hz
    obtain ⟨off2,q1,rfl,q3⟩:=k9 n hn.1 (by omega)
    exact G2 he h (by rw [k1,hyv]; exact R7 (C1 hE hc) b off _ c (by omega)) ⟨e,b,_,k6,q3,q1,rfl⟩
   ·trivial
  ·trivial
 ·trivial

theorem c4P:∀ {t:Ty} {x:t.den} {n:Nat} {u:Ty} {z:u.den} {cs:List Value},f7 H S t [] cs x→j6 t x [.l7 n]=some ⟨u,z⟩→f7 H S u [] ((cs.drop (N4 t n)).take u.size) z∧t.agg=true:=by
 intro t
 induction t with
 | pair a c _ ihc =>
  intro x n u z cs hR h
  obtain ⟨O1,O2,e,h1,h2⟩:=hR
  have e1:O1=[]∧O2=[]:=by simpa using e.symm
  rw [e1.1] at h1; rw [e1.2] at h2
  refine ⟨?_,rfl⟩
  match n,h with
  | 0,h =>
   have h:some (⟨a,x.1⟩:Sigma Ty.den)=some ⟨u,z⟩:=by rw [← h]; simp only [j6]
   cases h
   simpa [N4] using h1
  | n+1,h =>
   have:=(ihc (x:=x.2) h2 h).1
   simpa [N4,List.drop_drop,Nat.add_comm] using this
 | d0 o t _=>intro x n u z cs _ h; cases o<;>simp [j6] at h
 | _=>intro x n u z cs _ h; simp [j6] at h

theorem c2x:∀ {t:Ty} {x:t.den} {n:Nat} {u:Ty} {z:u.den} {O:List Nat} {cs:List Value},f7 H S t O cs x→j6 t x [.l7 n]=some ⟨u,z⟩→∃ O2,(∀ c∈O2,c∈O)∧f7 H S u O2 ((cs.drop (N4 t n)).take u.size) z∧t.agg=true:=by
 intro t
 induction t with
 | pair a c _ ihc =>
  intro x n u z O cs hR h
  obtain ⟨O1,O2,rfl,h1,h2⟩:=hR
  match n,h with
  | 0,h =>
   have h:some (⟨a,x.1⟩:Sigma Ty.den)=some ⟨u,z⟩:=by rw [← h]; simp only [j6]
   cases h
   exact ⟨O1,fun c hc=>by simp [hc],by simpa [N4] using h1,rfl⟩
  | n+1,h =>
   obtain ⟨O3,k1,k2,_⟩:=ihc (x:=x.2) h2 h
   exact ⟨O3,fun c hc=>by simp [k1 c hc],by simpa [N4,List.drop_drop,Nat.add_comm] using k2,rfl⟩
 | d0 o t _=>intro x n u z O cs _ h; cases o<;>simp [j6] at h
 | _=>intro x n u z O cs _ h; simp [j6] at h

theorem c44:∀ {t:Ty} {x:t.den} {n:Nat} {u:Ty} {z:u.den},j6 t x [.l7 n]=some ⟨u,z⟩→N4 t n+u.size≤t.size:=by
 intro t
 induction t with
 | pair a c _ ihc =>
  intro x n u z h
  match n,h with
  | 0,h =>
   have h:some (⟨a,x.1⟩:Sigma Ty.den)=some ⟨u,z⟩:=by rw [← h]; simp only [j6]
   cases h
   simp [N4,Ty.size]
  | n+1,h =>
   have:=ihc (x:=x.2) h
   simp only [N4,Ty.size]; omega
 | d0 o t _=>intro x n u z h; cases o<;>simp [j6] at h
 | _=>intro x n u z h; simp [j6] at h

theorem a7G:∀ {t:Ty} {x:t.den} {p q:List Step} {u:Ty} {y:u.den} {r:Sigma Ty.den},j6 t x p=some ⟨u,y⟩→j6 u y q=some r→j6 t x (p++q)=some r:=by
 intro t
 induction t with
 | pair a c iha ihc =>
  intro x p q u y r h1 h2
  match p,h1 with
  | [],h1=>simp only [j6,Option.some.injEq] at h1; cases h1; exact h2
  | .l7 0::p,h1=>exact iha h1 h2
  | .l7 (n+1)::p,h1=>exact ihc (p:=.l7 n::p) h1 h2
  | .idx i::p,h1=>simp [j6] at h1
 | arr n t ih =>
  intro x p q u y r h1 h2
  match p,h1 with
  | [],h1=>simp only [j6,Option.some.injEq] at h1; cases h1; exact h2
  | .idx i::p,h1=>exact ih h1 h2
  | .l7 i::p,h1=>simp [j6] at h1
 | d0 o t ih =>
  intro x p q u y r h1 h2
  match p,h1 with
  | [],h1=>rw [x7] at h1; cases h1; exact h2
  | .idx i::p,h1=>cases o with
   | true=>exact ih h1 h2
   | false=>simp [j6] at h1
  | .l7 i::p,h1=>cases o<;>simp [j6] at h1
 | _ =>
  intro x p q u y r h1 h2
  match p,h1 with
  | [],h1=>simp only [j6,Option.some.injEq] at h1; cases h1; exact h2
  | .idx i::p,h1=>simp [j6] at h1
  | .l7 i::p,h1=>simp [j6] at h1

theorem Z8 {P:Program} {k:Nat} {T:TypeId} {u:Ty} {cs:List Value} {off:Nat} {z:u.den} {O:List Nat} (h:n8 P k T u=true) (hR:f7 H S u O ((cs.drop off).take u.size) z) :
  (part T cs.toArray off).run P w=.ok (j7 u ((cs.drop off).take u.size)) w:=by
 have hl:=hR.length
 simp only [part,Sem.run_bind,a55 h,Result.andThen]
 cases hg:u.agg with
 | true =>
  simp only [if_true,Sem.run_bind,run_sizeOf h,Result.andThen]
  simp [j7,hg]
 | false =>
  have h1:u.size=1:=by cases u<;>simp_all [Ty.agg,Ty.size]
  rw [h1] at hl ⊢
  match hc:(cs.drop off).take 1,hl with
  | [c],_ =>
   have:cs[off]?=some c:=by
    have:((cs.drop off).take 1)[0]?=some c:=by rw [hc]; rfl
    simpa using this
   simp [this,j7,hg]

theorem b7T (h:RS B S ι s a w) {o:Oper} {op:UnOp} {T:TypeId} {x:Operand} {P:Program} (ho:o.op=.unOp op T x):D3 P B o a w (unA op (s.ev x) s):=by
 have he:execOp a.eval o=(do pure (.value (← Op.unary op (a.eval x)))):=by simp [execOp,ho]
 unfold unA
 split
 ·rename_i b hx
  have:=VX.a14 (x8 h hx)
  exact G2 he h (by rw [this]; rfl) VX.bool
 ·rename_i k n hx
  obtain ⟨hv,_⟩:=VX.F8 (x8 h hx)
  exact a2g (by rw [Q6 he (w':=w) (val:=.int k (k.wrap (0 - n)))]; rw [hv]; rfl) h
 ·rename_i k n hx
  obtain ⟨hv,_⟩:=VX.F8 (x8 h hx)
  refine G2 he h (val:=.int k (a1K k (if k.signed then -1 else k.max) n)) (by rw [hv]; rfl) (VX.int (P8 _ _))
 ·trivial

theorem b5X (hE:C2 E B) (h:RS B S ι s a w) {o:Oper} {T:TypeId} {x:Operand} {n:Nat} (ho:o.op=.field T x n):D3 E.P B o a w (n6 E o s):=by
 have he:execOp a.eval o=(do pure (.value (← Instr.field T (a.eval x) n))):=by simp [execOp,ho]
 unfold n6
 rw [ho]
 simp only
 split
 ·rename_i t y hx
  split
  ·rename_i u z hc hg
   obtain ⟨cs,e,hR⟩:=x8 h hx
   have e:a.eval x=j7 t cs:=by simpa using e
   obtain ⟨fs,f,k',h1,h2,h3,h4,h5⟩:=a30 (C1 hE hc) hg
   obtain ⟨hR2,hag⟩:=c4P hR hg
   have:a.eval x=.agg cs.toArray:=by rw [e,j7,hag]; rfl
   refine G2 he h (val:=j7 u ((cs.drop (N4 t n)).take u.size)) ?_ ⟨_,rfl,hR2⟩
   rw [this]
   have:=Z8 (w:=w) h5 hR2
   simp [Instr.field,n9 h1,h2,asAgg,h3,this]
  ·trivial
 ·rename_i i p hx
  split
  ·rename_i t y hpt
   split
   ·rename_i u z hc hg
    obtain ⟨e,t',y',cs,h1,h2,h3,h4,h5⟩:=x8 h hx
    have hgp:=G3 h1 hpt
    rw [h3] at hgp; cases hgp
    have h5:a.eval x=j7 t cs:=by simpa using h5
    obtain ⟨fs,f,k',q1,q2,q3,q4,q5⟩:=a30 (C1 hE hc) hg
    obtain ⟨O2,m1,m2,m3⟩:=F0 h.hs h1 h2 h3 h4
    obtain ⟨O3,m4,hR2,hag⟩:=c2x m3 hg
    have hxv:a.eval x=.agg cs.toArray:=by rw [h5,j7,hag]; rfl
    have hrun:=Z8 (w:=w) q5 hR2
    have hr:(Instr.field T (a.eval x) n).run E.P w=.ok (j7 u ((cs.drop (N4 t n)).take u.size)) w:=by
     rw [hxv]
     simp [Instr.field,n9 q1,q2,asAgg,q3,hrun]
    split
    ·rename_i hs
     have:=hR2.J5 hs
     subst this
     exact G2 he h hr ⟨_,rfl,hR2⟩
    ·refine G2 he h hr ⟨e,u,z,_,h1,T8 h3 h2 (a2s hg),a7G h3 hg,?_,rfl⟩
     obtain ⟨b0,off0,g1,rfl⟩:=h4
     refine ⟨b0,off0+N4 t n,Z2 h3 g1 (a1p hg),?_⟩
     have:=m3.length
     have hle:=c44 hg
     rw [n5,m0 _ _ _ _ (by omega)]
   ·trivial
  ·trivial
 ·trivial

end
end Go.Ex

namespace Go.Ex

section
variable {E:Env} {B:D4} {S S':Nat→Prop} {ι:Ix} {s:St} {a:Act} {w:World} {hp:List (Nat×g8)} {H H':Array Go.Obj}

theorem Ty.a7e (t:Ty):t.sh.sh=t.sh:=by
 induction t with
 | pair a b iha ihb=>simp only [Ty.sh,iha,ihb]
 | arr n t ih=>simp only [Ty.sh,ih]
 | d0 o t ih=>simp only [Ty.sh,ih]
 | hole t ih=>simp only [Ty.sh,ih]
 | w5 t ih=>simp only [Ty.sh,ih]
 | box o g t ih=>simp only [Ty.sh,ih]
 | _=>rfl

theorem b1B {A A' C C':Type} (ha:A=A') (hc:C=C') (h:(A×C)=(A'×C')) (x:A×C):cast h x=(cast ha x.1,cast hc x.2):=by subst ha; subst hc; rfl
theorem a0K {A A':Type} (ha:A=A') (h:List A=List A') (l:List A):cast h l=l.map (cast ha):=by
 subst ha
 show l=List.map (fun x=>x) l
 simp

theorem c3v {A A':Type} (ha:A=A') (h:Option A=Option A') (x:Option A):cast h x=x.map (cast ha):=by
 subst ha
 show x=Option.map (fun x=>x) x
 simp

theorem i7.map {α β:Type} {R:List Nat→List Value→α→Prop} {R':List Nat→List Value→β→Prop} {sz:Nat} {f:α→β} {L:List Nat} (hr:∀ O cs x,(∀ b∈O,b∈L)→R O cs x→R' [] cs (f x)) :
  ∀ {l:List α} {O:List Nat} {cs:List Value},(∀ b∈O,b∈L)→i7 R sz O cs l→i7 R' sz [] cs (l.map f)
 | [],_,_,_,⟨_,h⟩=>⟨rfl,h⟩
 | _::_,_,_,hO,⟨O1,O2,e,h1,h2⟩=>by
  subst e
  exact ⟨[],[],rfl,hr _ _ _ (fun b hb=>hO b (by simp [hb])) h1,i7.map hr (fun b hb=>hO b (by simp [hb])) h2⟩

theorem f7.a1s:∀ {u:Ty} {O:List Nat} {cs:List Value} {y:u.den},f7 H S u O cs y→(∀ b∈O,S' b)→(∀ b,S b→S' b)→u.R8=true→f7 H S' u.sh [] cs (cast (D7 u).symm y):=by
 intro u
 induction u with
 | int k=>intro O cs y h _ _ _; exact ⟨rfl,h.2⟩
 | bool=>intro O cs y h _ _ _; exact ⟨rfl,h.2⟩
 | str=>intro O cs y h _ _ _; exact ⟨rfl,h.2⟩
 | unit=>intro O cs y h _ _ _; exact ⟨rfl,h.2⟩
 | fn f=>intro O cs y h _ _ _; exact ⟨rfl,h.2⟩
 | map o k v =>
  rintro O cs y h hO hS hn
  show f7 H S' (.map false k v) [] cs y
  rcases h with h|⟨l,b,es,ck,h0,h2,h3,h4,h5⟩
  ·exact .inl ⟨h.1,rfl,h.2.2⟩
  have hb:S' b:=by
   cases o with
   | true=>exact hO b (by rw [h5]; simp)
   | false=>exact hS b h5.2
  exact .inr ⟨l,b,es,ck,h0,h2,h3,h4.mono (fun _ _ h=>h.r7 (fun _ _=>rfl) hS) (fun _ _ h=>h.r7 (fun _ _=>rfl) hS),rfl,hb⟩
 | box o g t ih =>
  rintro O cs y h hO hS hn
  have e:=c3v (D7 t).symm (D7 (.box o g t)).symm y
  refine Eq.subst (motive:=fun z=>f7 H S' (.box false g t.sh) [] cs z) e.symm ?_
  rcases h with ⟨rfl,_,h⟩|⟨z,b,off,O',rfl,h1,h2,h3,h4⟩
  ·exact .inl ⟨rfl,rfl,h⟩
  have hb:S' b:=by
   cases o with
   | true=>exact hO b (by rw [h4.1]; simp)
   | false=>exact hS b h4.2.2
  have hO':∀ c∈O',S' c:=by
   intro c hc
   cases o with
   | true=>exact hO c (by rw [h4.1]; simp [hc])
   | false=>rw [h4.2.1] at hc; cases hc
  exact .inr ⟨_,b,off,[],rfl,h1,by rw [M9]; exact h2,by rw [M9]; exact ih h3 hO' hS hn,rfl,rfl,hb⟩
 | pair a c iha ihc =>
  rintro O cs y ⟨O1,O2,rfl,h1,h2⟩ hO hS hn
  simp only [Ty.R8,Bool.and_eq_true] at hn
  have e:=b1B (D7 a).symm (D7 c).symm (D7 (.pair a c)).symm y
  refine Eq.subst (motive:=fun z=>f7 H S' (.pair a.sh c.sh) [] cs z) e.symm ?_
  exact ⟨[],[],rfl,by rw [M9]; exact iha h1 (fun b hb=>hO b (by simp [hb])) hS hn.1,by rw [M9]; exact ihc h2 (fun b hb=>hO b (by simp [hb])) hS hn.2⟩
 | arr n t ih =>
  rintro O cs y ⟨h1,h2⟩ hO hS hn
  have e:=a0K (D7 t).symm (D7 (.arr n t)).symm y
  refine Eq.subst (motive:=fun z=>f7 H S' (.arr n t.sh) [] cs z) e.symm ?_
  refine ⟨by rw [List.length_map]; exact h1,?_⟩
  rw [M9]
  exact i7.map (L:=O) (fun O1 cs x hL hr=>ih hr (fun b hb=>hO b (hL b hb)) hS hn) (fun _ h=>h) h2
 | d0 o t ih =>
  rintro O cs y h hO hS hn
  have e:=a0K (D7 t).symm (D7 (.d0 o t)).symm y
  refine Eq.subst (motive:=fun z=>f7 H S' (.d0 false t.sh) [] cs z) e.symm ?_
  rcases h with ⟨_,⟨a,c,h2,h2'⟩,h3⟩|⟨b,off,cap,O',c1,c2,c3,c4,c5,c6⟩
  ·subst h3; exact .inl ⟨rfl,⟨a,c,h2,fun h=>by cases h⟩,rfl⟩
  ·have hb:S' b:=by
    cases o with
    | true=>exact hO b (by rw [c6.1]; simp)
    | false=>exact hS b c6.2.2
   have hO':∀ c∈O',c∈O:=by
    intro c hc
    cases o with
    | true=>rw [c6.1]; simp [hc]
    | false=>rw [c6.2.1] at hc; cases hc
   refine .inr ⟨b,off,cap,[],by rw [List.length_map]; exact c1,by rw [List.length_map]; exact c2,⟨c3.1,fun h=>by cases h⟩,by rw [List.length_map,M9]; exact c4,?_,rfl,rfl,hb⟩
   rw [List.length_map,M9]
   exact i7.map (L:=O) (fun O1 cs x hL hr=>ih hr (fun b hb=>hO b (hL b hb)) hS hn) hO' c5
 | hole t ih=>intro O cs y _ _ _ hn; cases hn
 | w5 t ih=>intro O cs y _ _ _ hn; cases hn

theorem Ty.c0K (t:Ty):t.shH.sh=t.sh:=by
 induction t with
 | pair a b iha ihb=>simp only [Ty.shH,Ty.sh,iha,ihb]
 | arr n t ih=>simp only [Ty.shH,Ty.sh,Ty.a7e]
 | d0 o t ih=>simp only [Ty.shH,Ty.sh,Ty.a7e]
 | w5 t ih=>simp only [Ty.shH,Ty.sh,Ty.a7e]
 | box o g t ih=>simp only [Ty.shH,Ty.sh,Ty.a7e]
 | _=>rfl

theorem a8b (t:Ty):t.shH.size=t.size:=E3 (Ty.c0K t)

theorem f7.c7c:∀ {u:Ty} {O:List Nat} {cs:List Value} {y:u.den},f7 H S u O cs y→(∀ b∈O,S' b)→(∀ b,S b→S' b)→u.okH=true→f7 H S' u.shH [] cs (cast (a4B u).symm y):=by
 intro u
 induction u with
 | pair a c iha ihc =>
  rintro O cs y ⟨O1,O2,rfl,h1,h2⟩ hO hS hn
  simp only [Ty.okH,Bool.and_eq_true] at hn
  have e:=b1B (a4B a).symm (a4B c).symm (a4B (.pair a c)).symm y
  refine Eq.subst (motive:=fun z=>f7 H S' (.pair a.shH c.shH) [] cs z) e.symm ?_
  exact ⟨[],[],rfl,by rw [a8b]; exact iha h1 (fun b hb=>hO b (by simp [hb])) hS hn.1,by rw [a8b]; exact ihc h2 (fun b hb=>hO b (by simp [hb])) hS hn.2⟩
 | hole t ih=>intro O cs y h _ _ _; exact ⟨rfl,h.2⟩
 | w5 t ih=>intro O cs y h _ _ hn; cases hn
 | arr n t ih=>intro O cs y h hO hS hn; exact f7.a1s (u:=.arr n t) h hO hS hn
 | d0 o t ih=>intro O cs y h hO hS hn; exact f7.a1s (u:=.d0 o t) h hO hS hn
 | box o g t ih=>intro O cs y h hO hS hn; exact f7.a1s (u:=.box o g t) h hO hS hn
 | map o k v=>intro O cs y h hO hS hn; exact f7.a1s (u:=.map o k v) h hO hS hn
 | int k=>intro O cs y h _ _ _; exact ⟨rfl,h.2⟩
 | bool=>intro O cs y h _ _ _; exact ⟨rfl,h.2⟩
 | str=>intro O cs y h _ _ _; exact ⟨rfl,h.2⟩
 | unit=>intro O cs y h _ _ _; exact ⟨rfl,h.2⟩
 | fn f=>intro O cs y h _ _ _; exact ⟨rfl,h.2⟩

theorem i7.c2J {α β:Type} {R:List Nat→List Value→α→Prop} {R':List Nat→List Value→β→Prop} {sz:Nat} {f:α→β} (hr:∀ O cs x,R O cs x→R' O cs (f x)) :
  ∀ {l:List α} {O:List Nat} {cs:List Value},i7 R sz O cs l→i7 R' sz O cs (l.map f)
 | [],_,_,⟨h0,h⟩=>⟨h0,h⟩
 | _::_,_,_,⟨O1,O2,e,h1,h2⟩=>⟨O1,O2,e,hr _ _ _ h1,i7.c2J hr h2⟩

theorem Z5:∀ {u t:Ty},a08 u t=true→t.size=u.size∧u.isB=t.isB:=by
 have base:∀ {u t:Ty},decide (u=t)=true→t.size=u.size∧u.isB=t.isB:=by
  intro u t h
  have e:=of_decide_eq_true h
  subst e
  exact ⟨rfl,rfl⟩
 intro u
 induction u with
 | pair a b iha ihb =>
  intro t h
  cases t with
  | pair c d =>
   have h:(a08 a c && a08 b d)=true:=h
   rw [Bool.and_eq_true] at h
   exact ⟨by simp only [Ty.size,(iha h.1).1,(ihb h.2).1],rfl⟩
  | _=>exact base h
 | arr n a ih =>
  intro t h
  cases t with
  | arr m b =>
   have h:(Nat.beq n m && a08 a b)=true:=h
   rw [Bool.and_eq_true] at h
   have e:=Nat.eq_of_beq_eq_true h.1
   subst e
   exact ⟨by simp only [Ty.size,(ih h.2).1],rfl⟩
  | _=>exact base h
 | d0 o a ih =>
  intro t h
  cases t with
  | d0 o2 b=>exact ⟨rfl,rfl⟩
  | w5 b=>exact ⟨rfl,rfl⟩
  | _=>cases o<;>exact base h
 | _=>intro t h; cases t<;>exact base h

theorem i7.c6p {α β:Type} {R:List Nat→List Value→α→Prop} {R':List Nat→List Value→β→Prop} {sz:Nat} {f:α→β} (hr:∀ O cs x,R' O cs (f x)→R O cs x) :
  ∀ {l:List α} {O:List Nat} {cs:List Value},i7 R' sz O cs (l.map f)→i7 R sz O cs l
 | [],_,_,⟨h0,h⟩=>⟨h0,h⟩
 | _::_,_,_,⟨O1,O2,e,h1,h2⟩=>⟨O1,O2,e,hr _ _ _ h1,i7.c6p hr h2⟩

theorem c48:∀ {u t:Ty} {y:u.den} {O:List Nat} {cs:List Value},a08 u t=true→f7 H S u O cs y→f7 H S t O cs (msV u t y):=by
 have base:∀ {u t:Ty} {y:u.den} {O:List Nat} {cs:List Value},decide (u=t)=true→f7 H S u O cs y→f7 H S t O cs (if h:u=t then h▸y else t.o7):=by
  intro u t y O cs h hR
  have e:=of_decide_eq_true h
  subst e
  rw [dif_pos rfl]
  exact hR
 intro u
 induction u with
 | pair a b iha ihb =>
  intro t y O cs h hR
  cases t with
  | pair c d =>
   have h:(a08 a c && a08 b d)=true:=h
   rw [Bool.and_eq_true] at h
   obtain ⟨P1,P2,rfl,r1,r2⟩:=hR
   exact ⟨P1,P2,rfl,by rw [(Z5 h.1).1]; exact iha h.1 r1,by rw [(Z5 h.1).1]; exact ihb h.2 r2⟩
  | _=>exact base h hR
 | arr n a ih =>
  intro t y O cs h hR
  cases t with
  | arr m b =>
   have h:(Nat.beq n m && a08 a b)=true:=h
   rw [Bool.and_eq_true] at h
   have e:=Nat.eq_of_beq_eq_true h.1
   subst e
   show f7 H S (.arr n b) O cs (if h:a=b then h▸y else List.map (msV a b) y)
   split
   ·rename_i e; subst e; exact hR
   ·obtain ⟨h1,h2⟩:=hR
    refine ⟨by rw [List.length_map]; exact h1,?_⟩
    rw [(Z5 h.2).1]
    exact i7.c2J (fun _ _ _ q=>ih h.2 q) h2
  | _=>exact base h hR
 | d0 o a ih =>
  intro t y O cs h hR
  cases t with
  | d0 o2 b =>
   cases o with
   | false=>exact base h hR
   | true=>cases o2 with
    | false=>exact base h hR
    | true =>
     have h:a08 a b=true:=h
     show f7 H S (.d0 true b) O cs (if h:a=b then h▸y else List.map (msV a b) y)
     split
     ·rename_i e; subst e; exact hR
     ·have hR:f7 H S (.d0 true a) O cs y:=hR
      rcases hR with ⟨h1,h2,h3⟩|⟨c,off,cap,O',c1,c2,c3,c4,c5,c6,c7⟩
      ·have h3:y=[]:=h3
       rw [h3]; exact .inl ⟨h1,h2,rfl⟩
      ·refine .inr ⟨c,off,cap,O',by rw [List.length_map]; exact c1,by rw [List.length_map]; exact c2,c3,by rw [List.length_map,(Z5 h).1]; exact c4,?_,c6,by rw [(Z5 h).1,← (Z5 h).2]; exact c7⟩
       rw [List.length_map,(Z5 h).1]
       exact i7.c2J (fun _ _ _ q=>ih h q) c5
  | w5 b =>
   have e:a=b:=by cases o<;>exact of_decide_eq_true h
   subst e
   cases o with
   | false=>show f7 H S (.w5 a) O cs (if h:a=a then (0,h▸y,[]) else (0,[],[])); rw [dif_pos rfl]; exact hR
   | true=>show f7 H S (.w5 a) O cs (if h:a=a then (1,h▸y,[]) else (1,[],[])); rw [dif_pos rfl]; exact hR
  | _=>cases o<;>exact base h hR
 | _=>intro t y O cs h hR; cases t<;>exact base h hR

theorem c3g:∀ {u t:Ty} {y:u.den} {z:t.den} {O:List Nat} {cs:List Value},a8v u t y=some z→f7 H S u O cs y→∃ O1 D,O.Perm (O1++D)∧t.size=u.size∧∀ S':Nat→Prop,(∀ b,S b→S' b)→(∀ b∈D,S' b)→f7 H S' t O1 cs z:=by
 have base:∀ {u t:Ty} {y:u.den} {z:t.den} {O:List Nat} {cs:List Value},(if h:u=t then some (G1 h y) else if h:u.sh=t then (match u.R8 with
   | true=>some (cast ((D7 u).symm.trans (congrArg Ty.den h)) y)
   | false=>none) else (match a08 u t with
   | true=>some (msV u t y)
   | false=>none))=some z→f7 H S u O cs y→∃ O1 D,O.Perm (O1++D)∧t.size=u.size∧∀ S':Nat→Prop,(∀ b,S b→S' b)→(∀ b∈D,S' b)→f7 H S' t O1 cs z:=by
  intro u t y z O cs h hR
  split at h
  ·rename_i e
   subst e
   cases h
   exact ⟨O,[],by simp,rfl,fun S' hS _=>hR.r7 (fun _ _=>rfl) hS⟩
  ·split at h
   ·rename_i e
    subst e
    split at h
    ·rename_i hn
     cases h
     exact ⟨[],O,by simp,M9 u,fun S' hS hD=>hR.a1s hD hS hn⟩
    ·cases h
   ·split at h
    ·rename_i hm
     cases h
     exact ⟨O,[],by simp,(Z5 hm).1,fun S' hS _=>(c48 hm hR).r7 (fun _ _=>rfl) hS⟩
    ·cases h
 intro u
 induction u with
 | pair a b iha ihb =>
  intro t y z O cs h hR
  cases t with
  | pair c d =>
   simp only [a8v] at h
   split at h
   ·rename_i x1 x2 h1 h2
    cases h
    obtain ⟨P1,P2,rfl,r1,r2⟩:=hR
    obtain ⟨A1,D1,e1,s1,k1⟩:=iha h1 r1
    obtain ⟨A2,D2,e2,s2,k2⟩:=ihb h2 r2
    refine ⟨A1++A2,D1++D2,?_,by simp only [Ty.size,s1,s2],fun S' hS hD=>⟨A1,A2,rfl,?_,?_⟩⟩
    ·refine (e1.append e2).trans ?_
     rw [List.append_assoc,List.append_assoc]
     refine List.Perm.append_left _ ?_
     rw [← List.append_assoc,← List.append_assoc]
     exact List.Perm.append_right _ List.perm_append_comm
    ·rw [s1]; exact k1 S' hS (fun b hb=>hD b (by simp [hb]))
    ·rw [s1]; exact k2 S' hS (fun b hb=>hD b (by simp [hb]))
   ·cases h
  | _=>exact base h hR
 | _=>intro t y z O cs h hR; cases t<;>exact base h hR

def b5C (ι:Ix) (hp:List (Nat×g8)) (i b:Nat):Prop:=∃ e,look i hp=some e∧b∈l6 ι i e

theorem b6I (h:HS B S ι s.hp w) {i:Nat} {p:List Step} {lo hi:Int} {v:Value} (hv:VX w.heap S ι s.hp (.sub i p lo hi) [v]) {t:Ty} {l:List t.den} (hw:s.view i p lo hi=some ⟨t,l⟩) :
  ∃ A c,v=j7 (.d0 false t.sh) [.slice A l.length c]∧(l=[]∨∃ b off O,A=some ⟨b,off,none⟩∧b5C ι s.hp i b∧off+l.length*t.size≤(s5 w.heap b).length∧i7 (f7 w.heap S t) t.size O (d8 w.heap b off (l.length*t.size)) l∧(∀ c∈O,b5C ι s.hp i c)∧(l.length≤c∧c≤maxLen)):=by
 obtain ⟨e,v',h1,h2,h3,h4,h5,h6⟩:=hv
 cases h3
 have hob:=h.ob i e h1
 unfold St.view at hw
 rcases h6 with ⟨t',l',a,cap,k1,k2,k3,c,A,k4,kA,k5,k6⟩|⟨n,t',l',b,off,k1,⟨k2,k2'⟩,k3,c,A,k4,kA,k5,k6⟩
 ·have hp:s.part i p=some ⟨.d0 true t',l'⟩:=by unfold St.part St.obj; rw [h1]; exact k1
  rw [hp] at hw
  simp only [Option.some.injEq,Sigma.mk.injEq] at hw
  obtain ⟨rfl,hw⟩:=hw
  have hw:=eq_of_heq hw
  subst hw
  have hlen:(n7 lo hi l').length=(hi - lo).toNat:=X4 h4 k2
  refine ⟨_,c,by rw [hlen]; exact k4,?_⟩
  by_cases hz:n7 lo hi l'=[]
  ·exact .inl hz
  ·obtain ⟨O2,m1,m2,m3⟩:=F0 h h1 h2 k1 k3
   rcases m3 with ⟨_,_,hn⟩|⟨b1,o1,cap',O',c1,c2,c3,c4,c5,rfl,c7⟩
   ·exfalso; apply hz; rw [hn]; simp [n7]
   ·simp only [List.cons.injEq,Value.slice.injEq,and_true] at c1
    obtain ⟨rfl,_,rfl⟩:=c1
    have hpos:0<(hi - lo).toNat:=by rw [← hlen]; exact List.length_pos_iff.2 hz
    obtain ⟨P1,P2,P3,e1,g⟩:=c5.cut lo.toNat (hi - lo).toNat
    have hle:lo.toNat*t'.size+(hi - lo).toNat*t'.size≤List.length l'*t'.size:=by rw [← Nat.add_mul]; exact Nat.mul_le_mul_right _ (by omega)
    rw [n5,m0 _ _ _ _ (by omega)] at g
    refine .inr ⟨b1,o1+lo.toNat*t'.size,P2,by rw [kA (by omega),Option.map_some,Addr.F6],⟨e,h1,F5 (m1 b1 (by simp))⟩,by rw [hlen]; omega,by rw [hlen]; exact g,fun c hc=>⟨e,h1,F5 (m1 c (by rw [e1]; simp [hc]))⟩,by rw [hlen]; exact k5,by have:=c3.1; omega⟩
 ·have hp:s.part i p=some ⟨.arr n t',l'⟩:=by unfold St.part St.obj; rw [h1]; exact k1
  rw [hp] at hw
  simp only [Option.some.injEq,Sigma.mk.injEq] at hw
  obtain ⟨rfl,hw⟩:=hw
  have hw:=eq_of_heq hw
  subst hw
  obtain ⟨O2,m1,m2,m3,m4,m5,m6⟩:=N2 (K3 k3) hob h.slt h2 k1 k3
  obtain ⟨hl,m3⟩:=m3
  have hlen:(n7 lo hi l').length=(hi - lo).toNat:=X4 h4 (by rw [hl]; exact k2)
  refine ⟨_,c,by rw [hlen]; exact k4,?_⟩
  by_cases hz:n7 lo hi l'=[]
  ·exact .inl hz
  ·have hpos:0<(hi - lo).toNat:=by rw [← hlen]; exact List.length_pos_iff.2 hz
   obtain ⟨P1,P2,P3,e1,g⟩:=m3.cut lo.toNat (hi - lo).toNat
   have hle:lo.toNat*t'.size+(hi - lo).toNat*t'.size≤n*t'.size:=by rw [← Nat.add_mul]; exact Nat.mul_le_mul_right _ (by omega)
   simp only [Ty.size] at g m4
   rw [n5,m0 _ _ _ _ (by omega)] at g
   exact .inr ⟨b,off+lo.toNat*t'.size,P2,by rw [kA (by omega),Option.map_some,Addr.F6],⟨e,h1,m5⟩,by rw [hlen]; omega,by rw [hlen]; exact g,fun c hc=>⟨e,h1,F5 (m1 c (by rw [e1]; simp [hc]))⟩,by rw [hlen]; exact k5,by omega⟩


theorem a1U:∀ t:Ty,t.rdT.size=t.size:=by
 intro t
 induction t with
 | pair a b iha ihb=>simp only [Ty.rdT,Ty.size,iha,ihb]
 | arr n t ih=>simp only [Ty.rdT,Ty.size,ih]
 | _=>rfl
theorem c5D (t:Ty):t.rdT.agg=t.agg:=by cases t<;>rfl

theorem b0l:∀ {u:Ty} {O:List Nat} {cs:List Value} {y:u.den},f7 H S u O cs y→(∀ b∈O,S' b)→(∀ b,S b→S' b)→u.okM=true→f7 H S' u.rdT [] cs (rdV u y):=by
 have d0:∀ {o:Bool} {u v:Ty} {f:u.den→v.den} {O:List Nat} {cs:List Value} {y:List u.den},v.size=u.size→(∀ {O:List Nat} {cs:List Value} {y:u.den},f7 H S u O cs y→(∀ b∈O,S' b)→f7 H S' v [] cs (f y)) →
   f7 H S (.d0 o u) O cs y→(∀ b∈O,S' b)→(∀ b,S b→S' b)→f7 H S' (.d0 false v) [] cs (y.map f):=by
  intro o u v f O cs y hsz ih h hO hS
  rcases h with ⟨_,⟨a,c,h2,h2'⟩,h3⟩|⟨b,off,cap,O',c1,c2,c3,c4,c5,c6⟩
  ·have h3:y=[]:=h3
   subst h3; exact .inl ⟨rfl,⟨a,c,h2,fun h=>by cases h⟩,rfl⟩
  ·have hb:S' b:=by
    cases o with
    | true=>exact hO b (by rw [c6.1]; simp)
    | false=>exact hS b c6.2.2
   have hO':∀ c∈O',c∈O:=by
    intro c hc
    cases o with
    | true=>rw [c6.1]; simp [hc]
    | false=>rw [c6.2.1] at hc; cases hc
   refine .inr ⟨b,off,cap,[],by rw [List.length_map]; exact c1,by rw [List.length_map]; exact c2,⟨c3.1,fun h=>by cases h⟩,by rw [List.length_map,hsz]; exact c4,?_,rfl,rfl,hb⟩
   rw [List.length_map,hsz]
   exact i7.map (L:=O) (fun O1 cs x hL hr=>ih hr (fun b hb=>hO b (hL b hb))) hO' c5
 intro u
 induction u with
 | int k=>intro O cs y h _ _ _; exact ⟨rfl,h.2⟩
 | bool=>intro O cs y h _ _ _; exact ⟨rfl,h.2⟩
 | str=>intro O cs y h _ _ _; exact ⟨rfl,h.2⟩
 | unit=>intro O cs y h _ _ _; exact ⟨rfl,h.2⟩
 | fn f=>intro O cs y h _ _ _; exact ⟨rfl,h.2⟩
 | map o k v=>intro O cs y h hO hS hn; exact f7.a1s (u:=.map o k v) h hO hS hn
 | box o g t=>intro O cs y h hO hS hn; exact f7.a1s (u:=.box o g t) h hO hS hn
 | hole t=>intro O cs y h hO hS hn; cases hn
 | pair a c iha ihc =>
  rintro O cs y ⟨O1,O2,rfl,h1,h2⟩ hO hS hn
  simp only [Ty.okM,Bool.and_eq_true] at hn
  exact ⟨[],[],rfl,by rw [a1U]; exact iha h1 (fun b hb=>hO b (by simp [hb])) hS hn.1,by rw [a1U]; exact ihc h2 (fun b hb=>hO b (by simp [hb])) hS hn.2⟩
 | arr n t ih =>
  rintro O cs y h hO hS hn
  by_cases hh:t.R8=true
  ·have:=f7.a1s (S':=S') (u:=.arr n t) h hO hS hh
   show f7 H S' (.arr n t.rdT) [] cs (if h:t.R8=true then cast (congrArg List (a0R h)) y else List.map (rdV t) y)
   rw [dif_pos hh]
   have e:=b0m t hh
   revert this
   generalize a0R hh=e2
   revert e2
   rw [e]
   intro e2 this
   exact this
  ·show f7 H S' (.arr n t.rdT) [] cs (if h:t.R8=true then cast (congrArg List (a0R h)) y else List.map (rdV t) y)
   rw [dif_neg hh]
   refine ⟨by rw [List.length_map]; exact h.1,?_⟩
   rw [a1U]
   exact i7.map (L:=O) (fun O1 cs x hL hr=>ih hr (fun b hb=>hO b (hL b hb)) hS hn) (fun _ h=>h) h.2
 | d0 o t ih =>
  rintro O cs y h hO hS hn
  by_cases hh:t.R8=true
  ·have:=f7.a1s (S':=S') (u:=.d0 o t) h hO hS hh
   show f7 H S' (.d0 false t.rdT) [] cs (if h:t.R8=true then cast (congrArg List (a0R h)) y else List.map (rdV t) y)
   rw [dif_pos hh]
   have e:=b0m t hh
   revert this
   generalize a0R hh=e2
   revert e2
   rw [e]
   intro e2 this
   exact this
  ·show f7 H S' (.d0 false t.rdT) [] cs (if h:t.R8=true then cast (congrArg List (a0R h)) y else List.map (rdV t) y)
   rw [dif_neg hh]
   exact d0 (a1U t) (fun hr hO=>ih hr hO hS hn) h hO hS
 | w5 t ih =>
  rintro O cs ⟨n,l,m⟩ h hO hS hn
  show f7 H S' (.d0 false t.sh) [] cs (cast (congrArg List (D7 t).symm) l)
  rw [a0K (D7 t).symm]
  have ih:∀ {O:List Nat} {cs:List Value} {y:t.den},f7 H S t O cs y→(∀ b∈O,S' b)→f7 H S' t.sh [] cs (cast (D7 t).symm y):=fun hr hO=>hr.a1s hO hS hn
  match n,h with
  | 0,h=>exact d0 (o:=false) (M9 t) ih h hO hS
  | 1,h=>exact d0 (o:=true) (M9 t) ih h hO hS
  | n+2,⟨b,off,O',c1,c2,c3,c4,c5⟩ =>
   have hb:S' b:=by
    cases n with
    | zero=>exact hO b (by rw [c5.1]; simp)
    | succ n=>exact hS b c5.2.2
   have hO':∀ c∈O',c∈O:=by
    intro c hc
    cases n with
    | zero=>rw [c5.1]; simp [hc]
    | succ n=>rw [c5.2.1] at hc; cases hc
   rw [List.length_append,Nat.add_mul] at c3 c4
   obtain ⟨P1,P2,P3,e1,g⟩:=c4.cut 0 l.length
   simp only [Nat.zero_mul,List.drop_zero,List.take_left'] at g
   refine .inr ⟨b,off,List.length l+List.length m,[],by rw [List.length_map]; exact c1,by rw [List.length_map]; omega,⟨c2.1,fun h=>by cases h⟩,by rw [List.length_map,M9]; omega,?_,rfl,rfl,hb⟩
   rw [List.length_map,M9]
   have g2:i7 (f7 H S t) t.size P2 (d8 H b off (l.length*t.size)) l:=by
    rw [m0 _ _ _ _ (by omega)] at g
    exact g
   exact i7.map (L:=O) (fun O1 cs x hL hr=>ih hr (fun b hb=>hO b (hL b hb))) (fun c hc=>hO' c (by rw [e1]; simp [hc])) g2

theorem c4T {a t:Ty} {y:(Ty.w5 a).den} {x:t.den} (h:rdS a t y=some x):t.size=1∧t.agg=false∧∀ {O:List Nat} {cs:List Value},f7 H S (.w5 a) O cs y→(∀ b∈O,S' b)→(∀ b,S b→S' b)→f7 H S' t [] cs x:=by
 unfold rdS at h
 split at h
 ·rename_i b
  split at h
  ·rename_i e
   subst e
   split at h
   ·rename_i hn
    obtain ⟨n,l,m⟩:=y
    cases h
    refine ⟨rfl,rfl,fun {O cs} hR hO hS=>?_⟩
    show f7 H S' (.w5 a.sh) [] cs (shF n,cast (congrArg List (D7 a).symm) l,cast (congrArg List (D7 a).symm) m)
    have h0:=b0l (S':=S') hR hO hS hn
    match n,hR with
    | 0,hR=>exact h0
    | 1,hR=>exact h0
    | n+2,⟨b,off,O',c1,c2,c3,c4,c5⟩ =>
     have hb:S' b:=by
      cases n with
      | zero=>exact hO b (by rw [c5.1]; simp)
      | succ n=>exact hS b c5.2.2
     have hO':∀ c∈O',c∈O:=by
      intro c hc
      cases n with
      | zero=>rw [c5.1]; simp [hc]
      | succ n=>rw [c5.2.1] at hc; cases hc
     have hlen:∀ l:List a.den,List.length (cast (congrArg List (D7 a).symm) l:List a.sh.den)=l.length:=fun l=>by rw [a0K (D7 a).symm,List.length_map]
     have happ:((cast (congrArg List (D7 a).symm) l:List a.sh.den)++(cast (congrArg List (D7 a).symm) m:List a.sh.den))=(l++m).map (cast (D7 a).symm):=by
      rw [a0K (D7 a).symm,a0K (D7 a).symm,List.map_append]
     refine ⟨b,off,[],by rw [hlen,hlen]; exact c1,by rw [hlen,hlen]; exact c2,by rw [happ,List.length_map,M9]; exact c3,?_,rfl,rfl,hb⟩
     rw [happ,List.length_map,M9]
     exact i7.map (L:=O) (fun O1 cs x hL hr=>hr.a1s (fun b hb=>hO b (hL b hb)) hS hn) hO' c4
   ·cases h
  ·cases h
 ·cases h

theorem c4U {t u:Ty} {y:u.den} {x:t.den} (h:rdM t u y=some x):t.size=u.size∧t.agg=u.agg∧∀ {O:List Nat} {cs:List Value},f7 H S u O cs y→(∀ b∈O,S' b)→(∀ b,S b→S' b)→f7 H S' t [] cs x:=by
 unfold rdM at h
 split at h
 ·rename_i hm
  split at h
  ·rename_i e
   subst e
   cases h
   exact ⟨a1U u,c5D u,fun hR hO hS=>b0l hR hO hS hm⟩
  ·split at h
   ·exact c4T h
   ·cases h
 ·cases h

theorem a49 {t:Ty} {r:Option (Sigma Ty.den)} {x:t.den} (h:a2R t r=some x):∃ u y,r=some ⟨u,y⟩:=by
 unfold a2R at h
 split at h
 ·exact ⟨_,_,rfl⟩
 ·cases h

theorem a7b {t u:Ty} (h:t.agg=u.agg) (cs:List Value):j7 t cs=j7 u cs:=by simp only [j7,h]

theorem a48 {t u:Ty} {y:u.den} {x:t.den} (h:a2R t (some ⟨u,y⟩)=some x):t.size=u.size∧t.agg=u.agg∧∀ {O:List Nat} {cs:List Value},f7 H S u O cs y→(∀ b∈O,S' b)→(∀ b,S b→S' b)→f7 H S' t [] cs x:=by
 simp only [a2R] at h
 split at h
 ·rename_i hn
  split at h
  ·rename_i e
   subst e
   cases h
   exact ⟨a8b u,a9X (Ty.c0K u),fun hR hO hS=>hR.c7c hO hS hn⟩
  ·cases h
 ·exact c4U h

theorem c2M {t u:Ty} {l:List u.den} {x:t.den} (h:a2R t (some ⟨.d0 true u,l⟩)=some x):∃ (t':Ty) (f:u.den→t'.den) (e:t=.d0 false t'),G1 e x=l.map f∧t'.size=u.size ∧
  ∀ {O:List Nat} {cs:List Value} {y:u.den},f7 H S u O cs y→(∀ b∈O,S' b)→(∀ b,S b→S' b)→f7 H S' t' [] cs (f y):=by
 simp only [a2R] at h
 split at h
 ·rename_i hn
  split at h
  ·rename_i e
   subst e
   cases h
   exact ⟨u.sh,cast (D7 u).symm,rfl,a0K (D7 u).symm _ l,M9 u,fun hR hO hS=>hR.a1s hO hS hn⟩
  ·cases h
 ·rename_i hn
  unfold rdM at h
  split at h
  ·rename_i hm
   split at h
   ·rename_i e
    subst e
    cases h
    refine ⟨u.rdT,rdV u,rfl,?_,a1U u,fun hR hO hS=>b0l hR hO hS hm⟩
    show (if h:u.R8=true then cast (congrArg List (a0R h)) l else List.map (rdV u) l)=List.map (rdV u) l
    rw [dif_neg (fun e=>by rw [show (Ty.d0 true u).okH=u.R8 from rfl,e] at hn; cases hn)]
   ·cases h
  ·cases h

theorem b4r {v:AV} {t:Ty} {x:t.den} {val:Value} (h:v.as t=some x) (hv:VX H S ι hp v [val]):∃ cs,val=j7 t cs∧f7 H S t [] cs x:=by
 unfold AV.as at h
 split at h
 ·rename_i u y
  split at h
  ·rename_i hu; subst hu; cases h
   obtain ⟨cs,e,hR⟩:=hv
   exact ⟨cs,by simpa using e,hR⟩
  ·cases h
 ·split at h
  ·cases h
   have:[val]=[Value.slice none 0 0]:=hv
   exact ⟨[.slice none 0 0],by simpa [j7,Ty.agg] using this,.inl ⟨rfl,⟨none,0,rfl,fun _=>rfl⟩,rfl⟩⟩
  ·cases h
 ·cases h

def J9 (ι:Ix) (hp:List (Nat×g8)) (g:List Nat) (b:Nat):Prop:=∃ i e,i∈g∧look i hp=some e∧b∈l6 ι i e

theorem b7l (h:HS B S ι s.hp w) {v:AV} {t:Ty} {x:t.den} {val:Value} (hx:v.asV s t=some x) (hv:VX w.heap S ι s.hp v [val]) {S1:Nat→Prop} (hS:∀ b,S b→S1 b) (hL:∀ b,J9 ι s.hp v.E6 b→S1 b) :
  ∃ cs,val=j7 t cs∧f7 w.heap S1 t [] cs x:=by
 unfold AV.asV at hx
 split at hx
 ·rename_i i p
  obtain ⟨u,y,hp⟩:=a49 hx
  unfold St.a09 at hx
  rw [hp] at hx
  obtain ⟨e,u',y',cs,h1,h2,h3,h4,h5⟩:=hv
  have hg:=G3 h1 hp
  rw [h3] at hg; cases hg
  obtain ⟨O2,k1,_,k2⟩:=F0 h h1 h2 h3 h4
  obtain ⟨_,g2,g3⟩:=a48 (H:=w.heap) (S:=S) (S':=S1) hx
  exact ⟨cs,by rw [a7b g2]; simpa using h5,g3 k2 (fun b hb=>hL b ⟨i,e,by simp [AV.E6],h1,F5 (k1 b hb)⟩) hS⟩
 ·rename_i i p lo hi
  split at hx
  ·rename_i u l hw
   obtain ⟨t',f,e,hf,hsz,hr⟩:=c2M (H:=w.heap) (S:=S) (S':=S1) hx
   subst e
   have hf:x=l.map f:=hf
   subst hf
   have hLB:∀ b,(S b∨b5C ι s.hp i b)→S1 b:=fun b hb=>hb.elim (hS b) (fun ⟨e,h1,h2⟩=>hL b ⟨i,e,by simp [AV.E6],h1,h2⟩)
   -- the blocks are of object i or shared
   obtain ⟨A,c,k1,k2⟩:=b6I h hv hw
   refine ⟨[.slice A l.length c],k1,?_⟩
   rcases k2 with rfl|⟨b,off,O,rfl,hb,h4,h5,h6,h7⟩
   ·exact .inl ⟨rfl,⟨A,c,rfl,fun h=>by cases h⟩,rfl⟩
   ·refine .inr ⟨b,off,c,[],by rw [List.length_map],by rw [List.length_map]; exact h7.1,⟨h7.2,fun h=>by cases h⟩,by rw [List.length_map,hsz]; exact h4,?_,rfl,rfl,hLB b (.inr hb)⟩
    rw [List.length_map,hsz]
    exact i7.map (L:=O) (fun O1 cs x hLm hq=>hr hq (fun b hb=>hLB b (.inr (h6 b (hLm b hb)))) hS) (fun _ h=>h) h5
  ·cases hx
 ·rename_i u x'
  split at hx
  ·rename_i hu; subst hu; cases hx
   obtain ⟨cs,e,hR⟩:=hv
   exact ⟨cs,by simpa using e,hR.r7 (fun _ _=>rfl) hS⟩
  ·obtain ⟨cs,e,hR⟩:=hv
   obtain ⟨_,g2,g3⟩:=a48 (H:=w.heap) (S:=S) (S':=S1) hx
   exact ⟨cs,by rw [a7b g2]; simpa using e,g3 hR (by simp) hS⟩
 ·obtain ⟨cs,e,hR⟩:=b4r hx hv
  exact ⟨cs,e,hR.r7 (fun _ _=>rfl) hS⟩

theorem b0P (h:HS B S ι s.hp w) {v:AV} {t:Ty} {x:t.den} {val:Value} (hx:v.asR s t=some x) (hv:VX w.heap S ι s.hp v [val]) {S1:Nat→Prop} (hS:∀ b,S b→S1 b) (hL:∀ b,J9 ι s.hp v.E6 b→S1 b) :
  b9R w.heap S1 t val x:=by
 unfold AV.asR at hx
 split at hx
 ·rename_i i p
  obtain ⟨u,y,hp⟩:=a49 hx
  unfold St.a09 at hx
  rw [hp] at hx
  obtain ⟨e,b,off,h1,h2,h3,h4⟩:=hv
  have hg:=G3 h1 hp
  obtain ⟨O2,m1,m2,m3,m4,m5,_⟩:=N2 (K3 h3) (h.ob i e h1) h.slt h2 hg h3
  obtain ⟨g1,g2,g3⟩:=a48 (H:=w.heap) (S:=S) (S':=S1) hx
  refine ⟨b,off,by simpa using h4,hL b ⟨i,e,by simp [AV.E6],h1,m5⟩,by rw [g1]; exact m4,?_⟩
  rw [g1]
  exact g3 m3 (fun b hb=>hL b ⟨i,e,by simp [AV.E6],h1,F5 (m1 b hb)⟩) hS
 ·rename_i u x'
  split at hx
  ·rename_i hu; subst hu; cases hx
   obtain ⟨b,off,e,h1,h2,h3⟩:=hv
   exact ⟨b,off,by simpa using e,hS b h1,h2,h3.r7 (fun _ _=>rfl) hS⟩
  ·cases hx
 ·rename_i i p
  split at hx
  ·rename_i u
   split at hx
   ·rename_i x0 hx0
    cases hx
    obtain ⟨u',y,hp⟩:=a49 hx0
    unfold St.a09 at hx0
    rw [hp] at hx0
    obtain ⟨b0,off0,v0,e0,hb0,hl0,hc0,e,b,off,h1,h2,h3,h4⟩:=hv
    have hg:=G3 h1 hp
    obtain ⟨O2,m1,m2,m3,m4,m5,_⟩:=N2 (K3 h3) (h.ob i e h1) h.slt h2 hg h3
    obtain ⟨g1,g2,g3⟩:=a48 (H:=w.heap) (S:=S) (S':=S1) hx0
    obtain rfl:v0=.pointer (some ⟨b,off,none⟩):=by simpa using h4
    have hk:=g3 m3 (fun b hb=>hL b ⟨i,e,by simp [AV.E6],h1,F5 (m1 b hb)⟩) hS
    refine ⟨b0,off0,by simpa using e0,hS _ hb0,hl0,?_⟩
    rw [show d8 w.heap b0 off0 (Ty.box false none u).size=[.pointer (some ⟨b,off,none⟩)] from hc0]
    exact .inr ⟨_,b,off,[],rfl,rfl,by rw [g1]; exact m4,by rw [g1]; exact hk,rfl,rfl,hL b ⟨i,e,by simp [AV.E6],h1,m5⟩⟩
   ·cases hx
  ·cases hx
 ·cases hx

theorem b4t (h:HS B S ι s.hp w) {S1:Nat→Prop} (hS:∀ b,S b→S1 b):∀ {ts:List Ty} {v:AV} {x:DL ts} {vs:List Value},AV.a6N s ts v=some x→VX w.heap S ι s.hp v vs→(∀ b,J9 ι s.hp v.E6 b→S1 b)→RdL w.heap S1 ts vs x
 | [],v,x,vs,hx,hv,_=>by
  cases v<;>simp only [AV.a6N] at hx<;>first|cases hx|skip
  exact hv
 | t::ts,v,x,vs,hx,hv,hL=>by
  cases v<;>simp only [AV.a6N] at hx<;>first|cases hx|skip
  rename_i a b
  split at hx
  ·rename_i x1 x2 h1 h2
   cases hx
   obtain ⟨v,us,rfl,ha,hb⟩:=hv
   exact ⟨v,us,rfl,b0P h h1 ha hS (fun c hc=>hL c (by obtain ⟨i,e,q1,q2⟩:=hc; exact ⟨i,e,by simp [AV.E6,q1],q2⟩)),b4t h hS h2 hb (fun c hc=>hL c (by obtain ⟨i,e,q1,q2⟩:=hc; exact ⟨i,e,by simp [AV.E6,q1],q2⟩))⟩
  ·cases hx

theorem b7d {H:Array Go.Obj} {t':Ty} {O2:List Nat} {A:Option Addr} {cap:Nat} {x':List t'.den} {lo hi:Int} {v:Value} (m3:f7 H S (.d0 true t') O2 [.slice A (List.length x') cap] x') (m2:O2.Nodup) (h4:0≤lo) (h5:lo≤hi) (k2:hi≤(List.length x':Int)) (hv:b4D t'.size A cap lo hi v) :
  ∃ O cs,v=j7 (.d0 true t') cs∧f7 H S (.d0 true t') O cs (n7 lo hi x')∧O.Nodup∧∀ b∈O,b∈O2:=by
 obtain ⟨c,A',k4,kA,k5,k6⟩:=hv
 have hlen:(n7 lo hi x').length=(hi - lo).toNat:=X4 h4 k2
 by_cases hc:c=0
 ·refine ⟨[],[.slice A' 0 0],?_,.inl ⟨rfl,⟨A',0,rfl,fun _=>rfl⟩,?_⟩,List.nodup_nil,by simp⟩
  ·rw [k4,hc]
   have:(hi - lo).toNat=0:=by omega
   rw [this]; rfl
  ·exact List.length_eq_zero_iff.1 (by omega)
 ·rcases m3 with ⟨_,⟨a2,c2,q1,q2⟩,hn⟩|⟨b1,o1,cap',O',c1,c2,c3,c4,c5,rfl,c7⟩
  ·exfalso
   simp only [List.cons.injEq,Value.slice.injEq,and_true] at q1
   have:=q2 rfl
   omega
  ·simp only [List.cons.injEq,Value.slice.injEq,and_true] at c1
   obtain ⟨rfl,_,rfl⟩:=c1
   obtain ⟨P1,P2,P3,e1,g1⟩:=c5.cut lo.toNat (hi - lo).toNat
   have hle:lo.toNat*t'.size+(hi - lo).toNat*t'.size≤List.length x'*t'.size:=by rw [← Nat.add_mul]; exact Nat.mul_le_mul_right _ (by omega)
   have hcap:(lo.toNat+c)*t'.size≤cap*t'.size:=Nat.mul_le_mul_right _ (Nat.le_of_eq k6)
   rw [Nat.add_mul] at hcap
   rw [n5,m0 _ _ _ _ (by omega)] at g1
   have hnd:(b1::P2).Nodup:=by
    rw [e1] at m2
    have h1:=List.nodup_cons.1 m2
    refine List.nodup_cons.2 ⟨fun hb=>h1.1 (by simp [hb]),(List.nodup_append.1 (List.nodup_append.1 h1.2).2.1).1⟩
   refine ⟨b1::P2,[.slice (some ⟨b1,o1+lo.toNat*t'.size,none⟩) (n7 lo hi x').length c],?_,.inr ⟨b1,o1+lo.toNat*t'.size,c,P2,rfl,by rw [hlen]; exact k5,⟨by have:=c3.1; omega,fun _=>by omega⟩,by rw [hlen]; omega,by rw [hlen]; exact g1,rfl,c7.mono (by omega)⟩,hnd,fun b hb=>?_⟩
   ·rw [k4,kA hc,hlen,Option.map_some,Addr.F6]; rfl
   ·rcases List.mem_cons.1 hb with rfl|hb
    ·simp
    ·rw [e1]; simp [hb]

theorem a1a (h:HS B S ι s.hp w) {v:AV} {val:Value} {t:Ty} {x:t.den} {g:List Nat} (hg:v.Y6 s=some (⟨t,x⟩,g)) (hv:VX w.heap S ι s.hp v [val]) :
  ∃ O cs,val=j7 t cs∧f7 w.heap S t O cs x∧O.Nodup∧∀ b∈O,J9 ι s.hp g b:=by
 unfold AV.Y6 at hg
 split at hg
 ·cases hg
  obtain ⟨cs,e,hR⟩:=hv
  exact ⟨[],cs,by simpa using e,hR,List.nodup_nil,by simp⟩
 ·rename_i i
  split at hg
  ·rename_i t' x' hob
   cases hg
   obtain ⟨e,u,y,cs,h1,h2,h3,h4,h5⟩:=hv
   obtain rfl:=a0l h1 hob
   rw [x7] at h3; cases h3
   obtain ⟨O2,m1,m2,m3⟩:=F0 h h1 h2 x7 h4
   have h5:val=j7 t cs:=by simpa [g8.ty] using h5
   exact ⟨O2,cs,h5,m3,m2,fun b hb=>⟨i,_,by simp,h1,F5 (m1 b hb)⟩⟩
  ·cases hg
 ·rename_i i lo hi
  split at hg
  ·rename_i t' x' hob
   cases hg
   obtain ⟨e,v,h1,h2,h3,h4,h5,h6⟩:=hv
   obtain rfl:=a0l h1 hob
   cases h3
   rcases h6 with ⟨t1,l,A,cap,k1,k2,k3,k4⟩|⟨n,t1,l,b,off,k1,_,k3,_⟩
   ·have k1:j6 (.d0 true t') x' []=some ⟨.d0 true t1,l⟩:=k1
    rw [x7] at k1; cases k1
    obtain ⟨O2,m1,m2,m3⟩:=F0 h h1 h2 x7 k3
    obtain ⟨O,cs,q1,q2,q3,q4⟩:=b7d m3 m2 h4 h5 k2 k4
    exact ⟨O,cs,q1,q2,q3,fun b hb=>⟨i,_,by simp,h1,F5 (m1 b (q4 b hb))⟩⟩
   ·exfalso
    simp only [Loc,Place,w8,VR] at k3
    simp at k3
  ·cases hg
 ·cases hg

theorem a3Q (h:HS B S ι s.hp w) {v:AV} {val:Value} {t:Ty} {x:t.den} {g:List Nat} (hg:v.a0w s=some (⟨t,x⟩,g)) (hv:VX w.heap S ι s.hp v [val]) :
  ∃ O cs,val=j7 t cs∧f7 w.heap S t O cs x∧O.Nodup∧∀ b∈O,J9 ι s.hp g b:=by
 unfold AV.a0w at hg
 split at hg
 ·rename_i i
  split at hg
  ·rename_i t' x' hob
   cases hg
   obtain ⟨e,u,y,cs,h1,h2,h3,h4,h5⟩:=hv
   obtain rfl:=a0l h1 hob
   rw [x7] at h3; cases h3
   obtain ⟨O2,m1,m2,m3⟩:=F0 h h1 h2 x7 h4
   have h5:val=j7 t cs:=by simpa [g8.ty] using h5
   exact ⟨O2,cs,h5,m3,m2,fun b hb=>⟨i,_,by simp,h1,F5 (m1 b hb)⟩⟩
  ·exact a1a h hg hv
 ·rename_i f
  cases hg
  obtain ⟨us,e,rfl⟩:=hv
  have e:val=.func (.func f) #[] #[]:=by simpa using e
  exact ⟨[],[fnV f true],e,⟨rfl,rfl⟩,List.nodup_nil,by simp⟩
 ·exact a1a h hg hv

theorem J9.mono {g g':List Nat} {b:Nat} (h:J9 ι hp g b) (hs:∀ i∈g,i∈g'):J9 ι hp g' b:=by
 obtain ⟨i,e,h1,h2⟩:=h; exact ⟨i,e,hs i h1,h2⟩

def PK.reads:PK→Bool
 | .own _|.rw _|.mu _|.Y2 _ _|.el _=>false
 | _=>true

theorem c5A (h:HS B S ι s.hp w) {S1:Nat→Prop} (hS:∀ b,S b→S1 b) {k:PK} {v:AV} {x:k.den} {val:Value} {g m:List Nat} (hx:v.M3 s k=some (x,g,m)) (hv:VX w.heap S ι s.hp v [val])
  (hL:k.reads=true→∀ b,J9 ι s.hp v.E6 b→S1 b) :
  ∃ L,c6P w.heap S1 k val x L∧L.Nodup∧(∀ b∈L,J9 ι s.hp (g++m) b)∧∀ i∈m,∀ e,look i s.hp=some e→∀ b∈l6 ι i e,b∈L:=by
 cases k with
 | v t =>
  simp only [AV.M3] at hx
  split at hx
  ·rename_i y hy; cases hx
   obtain ⟨cs,e,hR⟩:=b7l h hy hv hS (hL rfl)
   exact ⟨[],⟨rfl,cs,e,hR⟩,List.nodup_nil,by simp,by simp⟩
  ·cases hx
 | rd t =>
  simp only [AV.M3] at hx
  split at hx
  ·rename_i y hy; cases hx
   exact ⟨[],⟨rfl,b0P h hy hv hS (hL rfl)⟩,List.nodup_nil,by simp,by simp⟩
  ·cases hx
 | B8 f ts =>
  cases v<;>simp only [AV.M3] at hx<;>first|cases hx|skip
  rename_i f' l
  cases hb:Nat.beq f f' with
  | false=>rw [hb] at hx; cases hx
  | true =>
   rw [hb] at hx
   simp only at hx
   have hff:=Nat.eq_of_beq_eq_true hb
   split at hx
   ·rename_i y hy; cases hx
    obtain ⟨us,e,hus⟩:=hv
    exact ⟨[],⟨rfl,us,by simpa [hff] using e,b4t h hS hy hus (fun b hb=>hL rfl b hb)⟩,List.nodup_nil,by simp,by simp⟩
   ·cases hx
 | Y2 f n=>simp only [AV.M3] at hx; cases hx
 | el q=>simp only [AV.M3] at hx; cases hx
 | S7 =>
  simp only [AV.M3] at hx
  split at hx
  ·cases hx
   exact ⟨[],⟨rfl,by simpa using (show [val]=[Value.slice none 0 0] from hv)⟩,List.nodup_nil,by simp,by simp⟩
  ·cases hx
 | own t =>
  simp only [AV.M3] at hx
  split at hx
  ·split at hx
   ·rename_i y hy; cases hx
    obtain ⟨cs,e,hR⟩:=b4r hy hv
    exact ⟨[],⟨cs,e,hR.r7 (fun _ _=>rfl) hS⟩,List.nodup_nil,by simp,by simp⟩
   ·cases hx
  ·split at hx
   ·rename_i u y l hg
    split at hx
    ·rename_i hu; subst hu; cases hx
     obtain ⟨O,cs,e,hR,hnd,hO⟩:=a3Q h hg hv
     exact ⟨O,⟨cs,e,hR.r7 (fun _ _=>rfl) hS⟩,hnd,fun b hb=>(hO b hb).mono (by simp),by simp⟩
    ·cases hx
   ·cases hx
 | rw t =>
  simp only [AV.M3] at hx
  split at hx
  ·rename_i i
   split at hx
   ·rename_i u y hob
    split at hx
    ·rename_i hu; subst hu; cases hx
     obtain ⟨e,b,off,h1,h2,h3,h4⟩:=hv
     obtain rfl:=a0l h1 hob
     obtain ⟨⟨O,hO,hR⟩,hf,hnd⟩:=h.ob i _ h1
     have hl:(ι.root i).1=b∧(ι.root i).2=off:=by
      have:=(y9 h3).1
      simp only [Place,w8,VR,Option.some.injEq,Prod.mk.injEq] at this
      exact this
     obtain ⟨rfl,rfl⟩:=hl
     refine ⟨(ι.root i).1::O,⟨_,_,O,by simpa using h4,hR.r7 (fun _ _=>rfl) hS,hf,rfl⟩,?_,?_,?_⟩
     ·exact ((hO.cons _).nodup_iff).2 hnd
     ·intro c hc
      refine ⟨i,_,by simp,h1,?_⟩
      simp only [l6]
      exact ((hO.cons _).mem_iff).1 hc
     ·intro j hj e' he' c hc
      simp only [List.mem_cons,List.not_mem_nil,or_false] at hj
      subst hj
      rw [h1] at he'; cases he'
      exact ((hO.cons _).mem_iff).2 hc
    ·cases hx
   ·cases hx
  ·cases hx
 | mu t =>
  simp only [AV.M3] at hx
  split at hx
  ·rename_i i
   split at hx
   ·rename_i u y hob
    split at hx
    ·rename_i hu; subst hu; cases hx
     obtain ⟨e,u',y',cs,h1,h2,h3,h4,h5⟩:=hv
     obtain rfl:=a0l h1 hob
     rw [x7] at h3; cases h3
     obtain ⟨⟨O,hO,hR⟩,hnd⟩:=h.ob i _ h1
     have hcs:=P5 h4 hR.length
     have h5:val=j7 (.d0 true t) cs:=by simpa [g8.ty] using h5
     refine ⟨O,⟨cs,h5,by rw [hcs]; exact hR.r7 (fun _ _=>rfl) hS⟩,(hO.nodup_iff).2 hnd,?_,?_⟩
     ·intro c hc
      exact ⟨i,_,by simp,h1,hO.mem_iff.1 hc⟩
     ·intro j hj e' he' c hc
      simp only [List.mem_cons,List.not_mem_nil,or_false] at hj
      subst hj
      rw [h1] at he'; cases he'
      exact hO.mem_iff.2 hc
    ·cases hx
   ·cases hx
  ·cases hx

end
end Go.Ex

namespace Go.Ex

section
variable {E:Env} {B:D4} {S S':Nat→Prop} {ι:Ix} {s:St} {a:Act} {w:World} {hp:List (Nat×g8)} {H H':Array Go.Obj}

theorem a2a:∀ {l:List Nat},a1v l=true→l.Nodup
 | [],_=>List.nodup_nil
 | a::l,h=>by
  simp only [a1v,Bool.and_eq_true,Bool.not_eq_true'] at h
  refine List.nodup_cons.2 ⟨fun hm=>?_,a2a h.2⟩
  have:=h.1
  simp [hm] at this

theorem b1z:∀ {l m:List Nat},b8T l m=true→∀ i∈l,i∉m
 | [],_,_,i,hi=>by cases hi
 | a::l,m,h,i,hi=>by
  simp only [b8T,Bool.and_eq_true,Bool.not_eq_true'] at h
  rcases List.mem_cons.1 hi with rfl|hi
  ·intro hm; have:=h.1; simp [hm] at this
  ·exact b1z h.2 i hi

theorem a8E (h:HS B S ι s.hp w) {S1:Nat→Prop} (hS:∀ b,S b→S1 b):∀ {ks:List PK} {v:AV} {x:DK ks} {vs:List Value} {g m:List Nat},AV.a0c s ks v=some (x,g,m)→VX w.heap S ι s.hp v vs→(g++m).Nodup →
  (∀ b,J9 ι s.hp (O5.loose ks v) b→S1 b)→∃ L,Q7 w.heap S1 ks vs x L∧L.Nodup∧(∀ b∈L,J9 ι s.hp (g++m) b)∧∀ i∈m,∀ e,look i s.hp=some e→∀ b∈l6 ι i e,b∈L
 | [],v,x,vs,g,m,hx,hv,_,_=>by
  cases v<;>simp only [AV.a0c] at hx<;>first|cases hx|skip
  exact ⟨[],⟨hv,rfl⟩,List.nodup_nil,by simp,by simp⟩
 | k::ks,v,x,vs,g,m,hx,hv,hnd,hL=>by
  cases v<;>simp only [AV.a0c] at hx<;>first|cases hx|skip
  rename_i a b
  split at hx
  ·rename_i x1 g1 m1 x2 g2 m2 h1 h2
   cases hx
   obtain ⟨v,us,rfl,ha,hb⟩:=hv
   have hn1:∀ i,i∈g1++m1→i∉g2++m2:=by
    intro i hi hi'
    simp only [List.mem_append] at hi hi'
    have hgm:=List.nodup_append.1 hnd
    have hg:=List.nodup_append.1 hgm.1
    have hm:=List.nodup_append.1 hgm.2.1
    rcases hi with hi|hi<;>rcases hi' with hi'|hi'
    ·exact hg.2.2 i hi i hi' rfl
    ·exact hgm.2.2 i (by simp [hi]) i (by simp [hi']) rfl
    ·exact hgm.2.2 i (by simp [hi']) i (by simp [hi]) rfl
    ·exact hm.2.2 i hi i hi' rfl
   have hnd2:(g2++m2).Nodup:=by
    have hgm:=List.nodup_append.1 hnd
    have hg:=List.nodup_append.1 hgm.1
    have hm:=List.nodup_append.1 hgm.2.1
    exact List.nodup_append.2 ⟨hg.2.1,hm.2.1,fun i hi j hj=>hgm.2.2 i (by simp [hi]) j (by simp [hj])⟩
   obtain ⟨L1,k1,k2,k3,k4⟩:=c5A h hS h1 ha (fun hr c hc=>hL c (by
    obtain ⟨i,e,q1,q2⟩:=hc
    refine ⟨i,e,?_,q2⟩
    cases k<;>first|(show i∈a.E6++O5.loose ks b; exact List.mem_append_left _ q1)|(exfalso; simp [PK.reads] at hr; done)))
   obtain ⟨L2,n1,n2,n3,n4⟩:=a8E h hS h2 hb hnd2 (fun c hc=>hL c (by
    obtain ⟨i,e,q1,q2⟩:=hc
    refine ⟨i,e,?_,q2⟩
    cases k<;>first|(show i∈a.E6++O5.loose ks b; exact List.mem_append_right _ q1)|(show i∈O5.loose ks b; exact q1)))
   refine ⟨L1++L2,⟨v,us,L1,L2,rfl,rfl,k1,n1⟩,List.nodup_append.2 ⟨k2,n2,?_⟩,?_,?_⟩
   ·rintro c hc d hd rfl
    obtain ⟨i,e,q1,q2,q3⟩:=k3 c hc
    obtain ⟨j,e',r1,r2,r3⟩:=n3 c hd
    have hij:i≠j:=by rintro rfl; exact hn1 i q1 r1
    exact h.dj i j e e' q2 r2 hij c q3 r3
   ·intro c hc
    rcases List.mem_append.1 hc with hc|hc
    ·exact (k3 c hc).mono (by simp; intro i hi; rcases hi with hi|hi<;>simp [hi])
    ·exact (n3 c hc).mono (by simp; intro i hi; rcases hi with hi|hi<;>simp [hi])
   ·intro i hi e he c hc
    rcases List.mem_append.1 hi with hi|hi
    ·exact List.mem_append_left _ (k4 i hi e he c hc)
    ·exact List.mem_append_right _ (n4 i hi e he c hc)
  ·cases hx

theorem a3t {s:St}:∀ {ks:List PK} {v:AV} {r:DK ks×List Nat×List Nat},AV.a0c s ks v=some r→ks.any PK.lnk=false
 | [],_,_,_=>rfl
 | k::ks,v,r,hx=>by
  cases v<;>simp only [AV.a0c] at hx<;>first|cases hx|skip
  split at hx
  ·rename_i x1 g1 m1 x2 g2 m2 h1 h2
   rw [List.any_cons,a3t h2,Bool.or_false]
   cases k<;>first|rfl|(simp only [AV.M3] at h1; cases h1)
  ·cases hx

theorem f7.H6:∀ {t:Ty} {O:List Nat} {cs:List Value} {x:t.den},t.H6=true→f7 H S t O cs x→f7 H S' t O cs x:=by
 intro t
 induction t with
 | int k=>intro O cs x _ h; exact h
 | bool=>intro O cs x _ h; exact h
 | str=>intro O cs x _ h; exact h
 | unit=>intro O cs x _ h; exact h
 | fn f=>intro O cs x _ h; exact h
 | hole t _=>intro O cs x _ h; exact h
 | w5 t _=>intro O cs x hn; cases hn
 | map o k v ihk ihv =>
  rintro O cs x hn h
  simp only [Ty.H6,Bool.and_eq_true] at hn
  rcases h with h|⟨l,b,es,ck,h0,h2,h3,h4,h5⟩
  ·exact .inl h
  refine .inr ⟨l,b,es,ck,h0,h2,h3,h4.mono (fun _ _ h=>ihk hn.1.2 h) (fun _ _ h=>ihv hn.2 h),?_⟩
  rw [hn.1.1] at h5 ⊢
  exact h5
 | box o g t ih =>
  rintro O cs x hn h
  simp only [Ty.H6,Bool.and_eq_true] at hn
  rcases h with h|⟨y,b,off,O',h0,h1,h2,h3,h4⟩
  ·exact .inl h
  refine .inr ⟨y,b,off,O',h0,h1,h2,ih hn.2 h3,?_⟩
  rw [hn.1] at h4 ⊢
  exact h4
 | pair a c iha ihc =>
  rintro O cs x hn ⟨O1,O2,e,h1,h2⟩
  simp only [Ty.H6,Bool.and_eq_true] at hn
  exact ⟨O1,O2,e,iha hn.1 h1,ihc hn.2 h2⟩
 | arr n t ih =>
  rintro O cs x hn ⟨h1,h2⟩
  exact ⟨h1,i7.mono (L:=O) (fun _ h=>h) (fun _ _ _ _ h=>ih hn h) h2⟩
 | d0 o t ih =>
  rintro O cs x hn h
  simp only [Ty.H6,Bool.and_eq_true] at hn
  rcases h with h|⟨b,off,cap,O',c1,c2,c3,c4,c5,c6⟩
  ·exact .inl h
  ·rw [hn.1] at c6
   refine .inr ⟨b,off,cap,O',c1,c2,c3,c4,i7.mono (L:=O') (fun _ h=>h) (fun _ _ _ _ h=>ih hn.2 h) c5,?_⟩
   rw [hn.1]; exact c6

theorem J1.mono {T:Nat→Prop}:∀ {ts:List Ty} {O:List Nat} {vs:List Value} {x:DL ts},J1 H S ts O vs x→(∀ b,S b→T b)→J1 H T ts O vs x
 | [],_,_,_,h,_=>h
 | _::_,_,_,_,⟨v,us,O1,O2,cs,e1,e2,e3,h1,h2⟩,hT=>⟨v,us,O1,O2,cs,e1,e2,e3,h1.r7 (fun _ _=>rfl) hT,J1.mono h2 hT⟩

theorem J1.H6:∀ {ts:List Ty} {O:List Nat} {vs:List Value} {x:DL ts},ts.all Ty.H6=true→J1 H S ts O vs x→J1 H S' ts O vs x
 | [],_,_,_,_,h=>h
 | t::ts,_,_,_,hn,⟨v,us,O1,O2,cs,e1,e2,e3,h1,h2⟩=>by
  simp only [List.all_cons,Bool.and_eq_true] at hn
  exact ⟨v,us,O1,O2,cs,e1,e2,e3,h1.H6 hn.1,J1.H6 hn.2 h2⟩


theorem E9.H6:∀ {ks:List PK} {vs:List Value} {y:DL (F3 ks)} {L:List Nat},(F3 ks).all Ty.H6=true→E9 H S ks vs y L→E9 H S' ks vs y L
 | [],_,_,_,_,h=>h
 | .rw t::ks,_,_,_,hn,⟨b,off,O,us,L',e1,e2,e3,e4,e5⟩=>by
  simp only [F3,List.all_cons,Bool.and_eq_true] at hn
  exact ⟨b,off,O,us,L',e1,e2.H6 hn.1,e3,e4,E9.H6 hn.2 e5⟩
 | .mu t::ks,_,_,_,hn,⟨cs,O,us,L',e1,e1',e2,e4,e5⟩=>by
  simp only [F3,List.all_cons,Bool.and_eq_true] at hn
  exact ⟨cs,O,us,L',e1,e1',e2.H6 hn.1,e4,E9.H6 hn.2 e5⟩
 | .v _::ks,_,_,_,hn,⟨v,us,e,h⟩=>⟨v,us,e,E9.H6 (ks:=ks) hn h⟩
 | .rd _::ks,_,_,_,hn,⟨v,us,e,h⟩=>⟨v,us,e,E9.H6 (ks:=ks) hn h⟩
 | .B8 _ _::ks,_,_,_,hn,⟨v,us,e,h⟩=>⟨v,us,e,E9.H6 (ks:=ks) hn h⟩
 | .S7::ks,_,_,_,hn,⟨v,us,e,h⟩=>⟨v,us,e,E9.H6 (ks:=ks) hn h⟩
 | .Y2 _ _::ks,_,_,_,hn,⟨v,us,e,h⟩=>⟨v,us,e,E9.H6 (ks:=ks) hn h⟩
 | .el _::ks,_,_,_,hn,⟨v,us,e,h⟩=>⟨v,us,e,E9.H6 (ks:=ks) hn h⟩
 | .own _::ks,_,_,_,hn,⟨v,us,e,h⟩=>⟨v,us,e,E9.H6 (ks:=ks) hn h⟩


theorem c3F:∀ {t:Ty} {p:List Step} {b off:Nat} {G G':Array Go.Obj},a5k p=true→w7 G t p b off=w7 G' t p b off:=by
 intro t
 induction t with
 | pair a c iha ihc =>
  intro p b off G G' h
  match p,h with
  | [],_=>rfl
  | .l7 0::p,h=>exact iha h
  | .l7 (n+1)::p,h=>exact ihc (p:=.l7 n::p) h
  | .idx i::p,h=>cases h
 | d0 o t ih =>
  intro p b off G G' h
  match p,h with
  | [],_=>rw [w8,w8]
  | .l7 i::p,_=>cases o<;>simp [w7]
  | .idx i::p,h=>cases h
 | _ =>
  intro p b off G G' h
  match p,h with
  | [],_=>rw [w8,w8]
  | .l7 i::p,_=>simp [w7]
  | .idx i::p,h=>cases h

theorem c42:∀ {t:Ty} {p:List Step} {x y:t.den},a5k p=true→w4 t x p→w4 t y p:=by
 intro t
 induction t with
 | pair a c iha ihc =>
  intro p x y h ho
  match p,h,ho with
  | [],_,_=>trivial
  | .l7 0::p,h,ho=>exact iha (x:=x.1) h ho
  | .l7 (n+1)::p,h,ho=>exact ihc (p:=.l7 n::p) (x:=x.2) h ho
  | .idx i::p,h,_=>cases h
 | d0 o t ih =>
  intro p x y h ho
  match p,h,ho with
  | [],_,_=>exact K2
  | .l7 i::p,_,ho=>cases o<;>simp [w4] at ho
  | .idx i::p,h,_=>cases h
 | _ =>
  intro p x y h ho
  match p,h,ho with
  | [],_,_=>exact K2
  | .l7 i::p,_,ho=>simp [w4] at ho
  | .idx i::p,h,_=>cases h

def a67 (e e':g8):Prop:=(∃ t x x',e=.var t x∧e'=.var t x')∨(∃ t x x',e=.own (.d0 true t) x∧e'=.own (.d0 true t) x')∨(∃ o k v x x',e=.own (.map o k v) x∧e'=.own (.map o k v) x')

theorem RS.renew (h:RS B S ι s a w) {i:Nat} {e e':g8} (he:look i s.hp=some e) (hal:a67 e e') {F:List Nat} (hF:C9 B S ι s.hp w F) {L:List Nat} {w':World} (k:y8 L w w') (hLs:∀ b∈L,b∈l6 ι i e∨b∈F) (hS:∀ b,S b→S' b)
  (hS':∀ b,S' b→S b∨((w.heap.size≤b∨b∈L)∧b<w'.heap.size)) {O':List Nat} (hob:OB w'.heap S' (ι.y7 i O') i e') (hO':∀ c∈l6 (ι.y7 i O') i e',¬ S' c∧(w.heap.size≤c∨c∈L)∧c<w'.heap.size) :
  RS B S' (ι.y7 i O') ((s.T6 i e.W4).s8 i e') a w':=by
 have hnb:e≠.I9:=by rcases hal with ⟨_,_,_,h,_⟩|⟨_,_,_,h,_⟩|⟨_,_,_,_,_,h,_⟩<;>(rw [h]; intro h; cases h)
 have hLfact:∀ b∈L,¬ S b∧(B.w0.heap.size≤b∨B.M b)∧b<w.heap.size∧∀ j ej,j≠i→look j s.hp=some ej→b∉l6 ι j ej:=by
  intro b hb
  rcases hLs b hb with h1|h1
  ·obtain ⟨q1,q2,q3⟩:=h.hs.bl i e he b h1
   exact ⟨q1,q2,q3,fun j ej hj hlj=>h.hs.dj i j e ej he hlj (Ne.symm hj) b h1⟩
  ·obtain ⟨q1,q2,q3,q4⟩:=hF.2 b h1
   exact ⟨q1,q2,q3,fun j ej _ hlj=>q4 j ej hlj⟩
 have hold:∀ {b:Nat},((∃ j ej,j≠i∧look j s.hp=some ej∧b∈l6 ι j ej)∨S b)→w'.heap[b]?=w.heap[b]?:=by
  intro b hb
  refine k.frame b (hb.elim (fun ⟨j,ej,_,h1,h2⟩=>(h.hs.bl j ej h1 b h2).2.2) (h.hs.slt b)) (fun hbL=>?_)
  obtain ⟨q1,_,_,q4⟩:=hLfact b hbL
  rcases hb with ⟨j,ej,h0,h1,h2⟩|hb
  ·exact q4 j ej h0 h1 h2
  ·exact q1 hb
 have hnew:∀ c∈l6 (ι.y7 i O') i e',(¬ S' c∧(B.w0.heap.size≤c∨B.M c)∧c<w'.heap.size)∧∀ j ej,j≠i→look j s.hp=some ej→c∉l6 ι j ej:=by
  intro c hc
  obtain ⟨q1,q2,q3⟩:=hO' c hc
  rcases q2 with q2|q2
  ·exact ⟨⟨q1,.inl (Nat.le_trans h.hs.size q2),q3⟩,fun j ej _ hlj hcb=>by have:=(h.hs.bl j ej hlj c hcb).2.2; omega⟩
  ·obtain ⟨r1,r2,r3,r4⟩:=hLfact c q2
   exact ⟨⟨q1,r2,q3⟩,r4⟩
 have hsame:∀ j,j≠i→E0 ι (ι.y7 i O') j:=fun j hj=>a0m hj _
 have hHS:HS B S' (ι.y7 i O') (Ex.put i e' s.hp) w':=by
  refine ⟨k.os.trans h.hs.os,k.tape.trans h.hs.tape,k.out.trans h.hs.out,Nat.le_trans h.hs.size k.size,?_,?_,fun b hb=>hS b (h.hs.s0 b hb),?_,?_,?_,?_,?_⟩
  ·intro c hc hm
   rw [k.frame c (Nat.lt_of_lt_of_le hc h.hs.size) (fun hcL=>by rcases (hLfact c hcL).2.1 with h1|h1; omega; exact hm h1)]
   exact h.hs.frame c hc hm
  ·intro b hb
   rcases hS' b hb with h1|h1
   ·exact Nat.lt_of_lt_of_le (h.hs.slt b h1) k.size
   ·exact h1.2
  ·intro b hb
   rcases hS' b hb with h1|h1
   ·exact h.hs.s1 b h1
   ·rcases h1.1 with h2|h2
    ·exact .inr (.inl (Nat.le_trans h.hs.size h2))
    ·exact .inr (hLfact b h2).2.1
  ·intro j ej hj
   rw [o5] at hj
   by_cases e1:j=i
   ·subst e1; rw [if_pos rfl] at hj; cases hj; exact hob
   ·rw [if_neg e1] at hj
    exact (hsame j e1).ob.2 ((h.hs.ob j ej hj).r7 (fun b hb=>hold (hb.imp (fun hb=>⟨j,ej,e1,hj,hb⟩) id)) hS)
  ·intro j ej hj c hc
   rw [o5] at hj
   by_cases e1:j=i
   ·subst e1; rw [if_pos rfl] at hj; cases hj; exact (hnew c hc).1
   ·rw [if_neg e1] at hj
    rw [(hsame j e1).l6] at hc
    obtain ⟨q1,q2,q3⟩:=h.hs.bl j ej hj c hc
    refine ⟨fun hs=>?_,q2,Nat.lt_of_lt_of_le q3 k.size⟩
    rcases hS' c hs with h1|⟨h1|h1,_⟩
    ·exact q1 h1
    ·omega
    ·exact (hLfact c h1).2.2.2 j ej e1 hj hc
  ·intro j l ej el hj hl hjl c hc
   rw [o5] at hj hl
   by_cases e1:j=i
   ·subst e1
    rw [if_pos rfl] at hj; cases hj
    rw [if_neg (Ne.symm hjl)] at hl
    rw [(hsame l (Ne.symm hjl)).l6]
    exact (hnew c hc).2 l el (Ne.symm hjl) hl
   ·rw [if_neg e1] at hj
    rw [(hsame j e1).l6] at hc
    by_cases e2:l=i
    ·subst e2
     rw [if_pos rfl] at hl; cases hl
     exact fun hcc=>(hnew c hcc).2 j ej e1 hj hc
    ·rw [if_neg e2] at hl
     rw [(hsame l e2).l6]
     exact h.hs.dj j l ej el hj hl hjl c hc
  ·intro q hq
   obtain ⟨k0,⟨e1,k1⟩,k2,k3⟩:=h.hs.pin q hq
   refine ⟨k0,?_,k2,k3⟩
   rw [o5]
   by_cases e2:q.1=i
   ·exact ⟨_,by rw [if_pos e2]⟩
   ·exact ⟨e1,by rw [if_neg e2]; exact k1⟩
 refine ⟨hHS,h.dfr,h.sz,?_⟩
 intro t v hv
 simp only [St.s8,St.T6,N0,Option.map_eq_some_iff] at hv
 obtain ⟨v0,hv0,rfl⟩:=hv
 refine VX.map (fun c hc=>hold (.inr hc)) hS (fun v vs hr hm hvx=>?_) (h.fr t v0 hv0)
 unfold AV.a1B
 have honex:=VX.one hr hvx
 cases hmi:v.i6 i with
 | false =>
  have hne:∀ j,v.i6 j=true→j≠i:=by rintro j hj rfl; rw [hmi] at hj; cases hj
  have hst:VX w'.heap S' ι (del i s.hp) v vs:=by
   refine VX.grow (fun c hcm=>hold ?_) hS h.hs.slt (fun j ej hj=>?_) (VX.other (hp':=del i s.hp) (fun j hj=>by rw [I6,if_neg (hne j hj)]) (fun j _=>E0.refl ι j) hvx)
   ·rcases hcm with ⟨j,ej,hj,hcj⟩|hcm
    ·rw [I6] at hj
     split at hj
     ·cases hj
     ·rename_i hji
      exact .inl ⟨j,ej,hji,hj,hcj⟩
    ·exact .inr hcm
   ·rw [I6] at hj
    split at hj
    ·cases hj
    ·exact h.hs.ob j ej hj
  exact VX.other (fun j hj=>by simp only [St.s8,o5,I6,if_neg (hne j hj)]; rfl) (fun j hj=>hsame j (hne j hj)) hst
 | true =>
  simp only
  cases v<;>simp only [AV.ref] at hr<;>try cases hr
  ·rename_i j q
   have hji:i=j:=Nat.eq_of_beq_eq_true hmi
   subst hji
   cases hfl:a5k q with
   | false=>simp only [hfl]; exact honex
   | true =>
    simp only [hfl]
    obtain ⟨ej,b2,off2,k1,k2,k3,k4⟩:=hvx
    rw [he] at k1; cases k1
    rcases hal with ⟨t0,x0,x1,rfl,rfl⟩|⟨t0,x0,x1,rfl,rfl⟩|⟨o0,k0,v0,x0,x1,rfl,rfl⟩
    ·obtain ⟨p1,p2⟩:=y9 k3
     refine ⟨.var t0 x1,b2,off2,by simp [St.s8,o5],c42 hfl k2,Z3 ?_ (Nat.lt_of_lt_of_le p2 k.size),k4⟩
     simp only [Place,VR,VH,Ix.y7,g8.ty] at p1 ⊢
     rw [c3F (G':=w.heap) hfl]; exact p1
    ·exfalso
     obtain ⟨p1,p2⟩:=y9 k3
     cases q with
     | nil =>
      simp only [Place,w8,VR,Option.some.injEq,Prod.mk.injEq] at p1
      omega
     | cons st q =>
      cases st with
      | l7 n=>have k2:w4 (.d0 true t0) x0 (.l7 n::q):=k2; simp [w4] at k2
      | idx n=>cases hfl
    ·exfalso
     obtain ⟨p1,p2⟩:=y9 k3
     cases q with
     | nil =>
      simp only [Place,w8,VR,Option.some.injEq,Prod.mk.injEq] at p1
      omega
     | cons st q =>
      cases st with
      | l7 n=>have k2:w4 (.map o0 k0 v0) x0 (.l7 n::q):=k2; simp [w4] at k2
      | idx n=>cases hfl
  ·rename_i j q
   have hji:i=j:=Nat.eq_of_beq_eq_true hmi
   subst hji
   cases q with
   | cons st q=>exact honex
   | nil =>
    rcases hal with ⟨t0,x0,x1,rfl,rfl⟩|⟨t0,x0,x1,rfl,rfl⟩|⟨o0,k0,v0,x0,x1,rfl,rfl⟩
    ·exact honex
    ·obtain ⟨ej,u2,y2,cs2,k1,k2,k3,k4,k5⟩:=hvx
     rw [he] at k1; cases k1
     rw [x7] at k3; cases k3
     obtain ⟨⟨O1,_,hR1⟩,_⟩:=h.hs.ob i _ he
     have hcs2:=P5 k4 hR1.length
     exact ⟨.own (.d0 true t0) x1,.d0 true t0,x1,cs2,by simp [St.s8,o5],K2,x7,a1l (show ι.cells i=cs2 from hcs2.symm) (by rw [hcs2]; exact hR1.length),k5⟩
    ·obtain ⟨ej,u2,y2,cs2,k1,k2,k3,k4,k5⟩:=hvx
     rw [he] at k1; cases k1
     rw [x7] at k3; cases k3
     obtain ⟨⟨O1,_,hR1⟩,_⟩:=h.hs.ob i _ he
     have hcs2:=P5 k4 hR1.length
     exact ⟨.own (.map o0 k0 v0) x1,.map o0 k0 v0,x1,cs2,by simp [St.s8,o5],K2,x7,a1l (show ι.cells i=cs2 from hcs2.symm) (by rw [hcs2]; exact hR1.length),k5⟩
  ·rename_i j q lo hi
   have hji:i=j:=Nat.eq_of_beq_eq_true hmi
   subst hji
   cases q with
   | cons st q=>exact honex
   | nil =>
    rcases hal with ⟨t0,x0,x1,rfl,rfl⟩|⟨t0,x0,x1,rfl,rfl⟩|⟨o0,k0,v0,x0,x1,rfl,rfl⟩
    ·exact honex
    ·obtain ⟨ej,v2,k1,k2,k3,k4,k5,k6⟩:=hvx
     rw [he] at k1; cases k1
     obtain ⟨⟨O1,_,hR1⟩,_⟩:=h.hs.ob i _ he
     rcases k6 with ⟨t',l,a',cap,g1,g2,g3,g4⟩|⟨n,t',l,b2,off2,g1,g2,g3,g4⟩
     ·have g1:j6 (.d0 true t0) x0 []=some ⟨.d0 true t',l⟩:=g1
      rw [x7] at g1; cases g1
      have hcs2:=P5 g3 hR1.length
      have hlen:List.length x1=List.length x0:=by
       obtain ⟨⟨O'',_,hR''⟩,_⟩:=hob
       have hcc:(ι.y7 i O').cells i=[.slice a' (List.length x0) cap]:=(show ι.cells i=_ from hcs2.symm)
       rw [hcc] at hR''
       rcases hR'' with ⟨_,⟨a2,c2,h1,_⟩,h3⟩|⟨b3,o3,cap3,O3,c1,_⟩
       ·simp only [List.cons.injEq,Value.slice.injEq,and_true] at h1
        subst h3
        simp [h1.2.1]
       ·simp only [List.cons.injEq,Value.slice.injEq,and_true] at c1
        exact c1.2.1.symm
      refine ⟨.own (.d0 true t0) x1,v2,by simp [St.s8,o5],K2,k3,k4,k5,.inl ⟨t0,x1,a',cap,x7,by rw [hlen]; exact g2,?_,g4⟩⟩
      rw [hlen]
      exact a1l (show ι.cells i=_ from hcs2.symm) rfl
     ·exfalso
      simp only [Loc,Place,w8,VR] at g3
      simp at g3
    ·exfalso
     obtain ⟨ej,v2,k1,k2,k3,k4,k5,k6⟩:=hvx
     rw [he] at k1; cases k1
     rcases k6 with ⟨t',l,a',cap,g1,_⟩|⟨n,t',l,b2,off2,g1,_⟩
     ·have g1:j6 (.map o0 k0 v0) x0 []=some ⟨.d0 true t',l⟩:=g1
      rw [x7] at g1; cases g1
     ·have g1:j6 (.map o0 k0 v0) x0 []=some ⟨.arr n t',l⟩:=g1
      rw [x7] at g1; cases g1

end
end Go.Ex
