import Derived.Test.YtekbamiaenbhjaaExK2
import Derived.Laws.IdiomCopy
import Derived.Laws.Strings
import Derived.Laws.CopyRow

namespace Go.Ex

/-! ### contracts: what they say -/
section
variable (H:Array Go.Obj) (S:Nat→Prop)
def b8s (t:Ty) (v:Value) (x:t.den):Prop :=
 ∃ b off,v=.pointer (some ⟨b,off,none⟩)∧S b∧off+t.size≤(w7 H b).length∧f9 H S t [] (f8 H b off t.size) x

def RdL:(ts:List Ty)→List Value→DL ts→Prop
 | [],vs,_=>vs=[]
 | t::ts,vs,x=>∃ v us,vs=v::us∧b8s H S t v x.1∧RdL ts us x.2

def c4T:(k:PK)→Value→k.den→List Nat→Prop
 | .v t,v,x,L=>L=[]∧∃ cs,v=j8 t cs∧f9 H S t [] cs x
 | .rd t,v,x,L=>L=[]∧b8s H S t v x
 | .s4 f ts,v,x,L=>L=[]∧∃ us,v=.func (.func f) #[] us.toArray∧RdL H S ts us x
 | .own t,v,x,L=>∃ cs,v=j8 t cs∧f9 H S t L cs x
 | .rw t,v,x,L=>∃ b off O,v=.pointer (some ⟨b,off,none⟩)∧f9 H S t O (f8 H b off t.size) x∧N1 H b (off+t.size)∧L=b::O
 | .mu t,v,x,L=>∃ cs,v=j8 (.d0 true t) cs∧f9 H S (.d0 true t) L cs x
 | .R4,v,_,L=>L=[]∧v=.slice none 0 0
 | .X5 _ _,_,_,L=>L=[]
 | .el _,_,_,L=>L=[]

def R8:(ks:List PK)→List Value→DK ks→List Nat→Prop
 | [],vs,_,L=>vs=[]∧L=[]
 | k::ks,vs,x,L=>∃ v us L1 L2,vs=v::us∧L=L1++L2∧c4T H S k v x.1 L1∧R8 ks us x.2 L2

def K4:(ts:List Ty)→List Nat→List Value→DL ts→Prop
 | [],O,vs,_=>O=[]∧vs=[]
 | t::ts,O,vs,x=>∃ v us O1 O2 cs,vs=v::us∧O=O1++O2∧v=j8 t cs∧f9 H S t O1 cs x.1∧K4 ts O2 us x.2

def E9:(ks:List PK)→List Value→DL (C9 ks)→List Nat→Prop
 | [],vs,_,L=>vs=[]∧L=[]
 | .rw t::ks,vs,y,L=>∃ b off O us L',vs=.pointer (some ⟨b,off,none⟩)::us∧f9 H S t O (f8 H b off t.size) y.1∧N1 H b (off+t.size)∧L=(b::O)++L'∧E9 ks us y.2 L'
 | .mu t::ks,vs,y,L=>∃ cs O us L',vs=j8 (.d0 true t) cs::us∧cs.length=1∧f9 H S (.d0 true t) O cs y.1∧L=O++L'∧E9 ks us y.2 L'
 | .v _::ks,vs,y,L=>∃ v us,vs=v::us∧E9 ks us y L
 | .rd _::ks,vs,y,L=>∃ v us,vs=v::us∧E9 ks us y L
 | .s4 _ _::ks,vs,y,L=>∃ v us,vs=v::us∧E9 ks us y L
 | .own _::ks,vs,y,L=>∃ v us,vs=v::us∧E9 ks us y L
 | .R4::ks,vs,y,L=>∃ v us,vs=v::us∧E9 ks us y L
 | .X5 _ _::ks,vs,y,L=>∃ v us,vs=v::us∧E9 ks us y L
 | .el _::ks,vs,y,L=>∃ v us,vs=v::us∧E9 ks us y L

def V7:(ks:List PK)→Option (Sigma Ty.den)→List Value→List Value→DK ks→Prop
 | [],_,_,_,_=>True
 | .X5 f n::ks,_,pre,vs,x=>(∃ us b off,vs=Value.pointer (some ⟨b,off,none⟩)::us∧S b∧off+1≤(w7 H b).length∧f8 H b off 1=[.func (.func f) #[] ((pre.take n).reverse++[Value.pointer (some ⟨b,off,none⟩)]).toArray]∧n≤pre.length) ∧
   V7 ks none (vs.take 1++pre) (vs.drop 1) x.2
 | .el q::ks,c,pre,vs,x=>(∃ t y b0 off0 pre' b off us,c=some ⟨t,y⟩∧pre=Value.pointer (some ⟨b0,off0,none⟩)::pre'∧vs=Value.pointer (some ⟨b,off,none⟩)::us∧w6 t y (q++[.idx x.1])∧x5 H t (q++[.idx x.1]) b0 off0=some (b,off)∧b<H.size) ∧
   V7 ks none (vs.take 1++pre) (vs.drop 1) x.2
 | .rw t::ks,_,pre,vs,x=>V7 ks (some ⟨t,x.1⟩) (vs.take 1++pre) (vs.drop 1) x.2
 | .v _::ks,_,pre,vs,x=>V7 ks none (vs.take 1++pre) (vs.drop 1) x.2
 | .rd _::ks,_,pre,vs,x=>V7 ks none (vs.take 1++pre) (vs.drop 1) x.2
 | .s4 _ _::ks,_,pre,vs,x=>V7 ks none (vs.take 1++pre) (vs.drop 1) x.2
 | .own _::ks,_,pre,vs,x=>V7 ks none (vs.take 1++pre) (vs.drop 1) x.2
 | .mu _::ks,_,pre,vs,x=>V7 ks none (vs.take 1++pre) (vs.drop 1) x.2
 | .R4::ks,_,pre,vs,x=>V7 ks none (vs.take 1++pre) (vs.drop 1) x.2
end

def PK.lnk:PK→Bool
 | .X5 _ _|.el _=>true
 | _=>false

theorem a3b {H:Array Go.Obj} {S:Nat→Prop}:∀ {ks:List PK} {c:Option (Sigma Ty.den)} {pre vs:List Value} {x:DK ks},ks.any PK.lnk=false→V7 H S ks c pre vs x
 | [],_,_,_,_,_=>trivial
 | k::ks,c,pre,vs,x,h=>by
  rw [List.any_cons,Bool.or_eq_false_iff] at h
  cases k<;>first|(exfalso; simp [PK.lnk] at h; done)|exact a3b (ks:=ks) h.2

def a3s:List Value→Value
 | [v]=>v
 | us=>.tuple us.toArray

structure C0 (L:List Nat) (w w':World):Prop where
 os:w'.os=w.os
 tape:T9 w w'
 out:w'.output=w.output
 size:w.heap.size≤w'.heap.size
 frame:∀ c,c<w.heap.size→c∉L→w'.heap[c]?=w.heap[c]?

def a3h (w:World) (S:Nat→Prop) (rs:List Ty) (ps:List PK) (vs:List Value) (L:List Nat) (y:DL rs) (z:DL (C9 ps)) (e:Ending) (w':World):Prop :=
 ∃ us O Lo S',e=.returned (a3s us)∧C0 L w w'∧(∀ b,S b→S' b)∧(∀ b,S' b→S b∨(w.heap.size≤b∧b<w'.heap.size)) ∧
  K4 w'.heap S' rs O us y∧E9 w'.heap S' ps vs z Lo∧(O++Lo).Nodup∧∀ b∈O++Lo,¬ S' b∧(w.heap.size≤b∨b∈L)∧b<w'.heap.size

/-! ### package-level variables that are only read -/
def b3x:List (String×(Array Value→Prop)) :=
 [("internal/strconv.uint64pow10",fun cs=>cs=(((List.range 20).map fun i=>((10^i:Nat):Int)).map fun z=>Value.int .u64 z).toArray),
 ("internal/bytealg.MaxLen",fun cs=>∃ m,cs[0]?=some (.int .i64 m))]

def a0j (P:Program) (w:World) (S:Nat→Prop):Prop:=∀ x∈b3x,∀ g,P.globalNamed x.1=some g→S g∧∃ cs,w.var? P x.1=some cs∧x.2 cs

theorem a0j.mono {P:Program} {w w':World} {S S':Nat→Prop} (h:a0j P w S) (hH:∀ b,S b→w'.heap[b]?=w.heap[b]?) (hS:∀ b,S b→S' b):a0j P w' S':=by
 intro x hx g hg
 obtain ⟨h1,cs,h2,h3⟩:=h x hx g hg
 refine ⟨hS _ h1,cs,?_,h3⟩
 unfold World.var? at h2 ⊢
 rw [hg,Option.bind_some] at h2 ⊢
 rw [hH _ h1]
 exact h2

theorem a0j.sub {P:Program} {w:World} {S S':Nat→Prop} (h:a0j P w S) (hS:∀ b,S b→S' b):a0j P w S':=h.mono (fun _ _=>rfl) hS

theorem a0j.none {P:Program} {w:World} {S:Nat→Prop} (h:(b3x.all fun x=>(P.globalNamed x.1).isNone)=true):a0j P w S:=by
 intro x hx g hg
 have:=List.all_eq_true.1 h x hx
 rw [hg] at this
 cases this

def GlB (P:Program) (B:C6):Prop:=a0j P B.w0 B.S0∧∀ b,B.S0 b→b<B.w0.heap.size∧¬ B.M b

theorem GlB.at_ {P:Program} {B:C6} {S:Nat→Prop} {ι:Ix} {hp:List (Nat×f7)} {w:World} (h:GlB P B) (hs:HS B S ι hp w):a0j P w S :=
 h.1.mono (fun b hb=>hs.frame b (h.2 b hb).1 (h.2 b hb).2) hs.s0

structure w9.Valid (P:Program) (f:FuncId) (c:w9):Prop where
 ent:∃ fn,P.funcs[f]?=some fn∧(fn.name == "runtime.NumGoroutine")=false∧fn.body.isNone=false
 run:∀ (w:World) (S:Nat→Prop) (vs:List Value) (x:DK c.ps) (L:List Nat),(∀ b,S b→b<w.heap.size)→a0j P w S→c.pre x→R8 w.heap S c.ps vs x L→V7 w.heap S c.ps none [] vs x→L.Nodup→(∀ b∈L,¬ S b∧b<w.heap.size) →
  Calls P f vs.toArray w (a3h w S c.rs c.ps vs L (c.fn x) (c.out x))
 fresh:c.new=true→∀ (w:World) (S:Nat→Prop) (vs:List Value) (x:DK c.ps) (L:List Nat),(∀ b,S b→b<w.heap.size)→a0j P w S→c.pre x→R8 w.heap S c.ps vs x L→V7 w.heap S c.ps none [] vs x→L.Nodup→(∀ b∈L,¬ S b∧b<w.heap.size) →
  Calls P f vs.toArray w (fun e w'=>∃ us O Lo S',e=.returned (a3s us)∧C0 L w w'∧(∀ b,S b→S' b)∧(∀ b,S' b→S b∨(w.heap.size≤b∧b<w'.heap.size)) ∧
   K4 w'.heap S' c.rs O us (c.fn x)∧E9 w'.heap S' c.ps vs (c.out x) Lo∧(O++Lo).Nodup∧(∀ b∈O++Lo,¬ S' b∧(w.heap.size≤b∨b∈L)∧b<w'.heap.size) ∧
   K4 w'.heap (fun b=>S' b∧w.heap.size≤b) c.rs O us (c.fn x))

def c4Q (p:List Step):(ps:List PK)→DK ps→Prop
 | .rw t::_,x=>w6 t x.1 p
 | _,_=>True

def c4S (p:List Step) (H H':Array Go.Obj):(ps:List PK)→List Value→DL (C9 ps)→Prop
 | .rw t::_,vs,z=>(match vs with
  | .pointer (some ⟨b,off,none⟩)::_=>w6 t z.1 p∧x5 H' t p b off=x5 H t p b off
  | _=>True)
 | _,_,_=>True

def w9.Kept (P:Program) (f:FuncId) (c:w9) (pat:List (Option Nat)):Prop :=
 ∀ (w:World) (S:Nat→Prop) (vs:List Value) (x:DK c.ps) (L:List Nat),(∀ b,S b→b<w.heap.size)→a0j P w S→c.pre x→R8 w.heap S c.ps vs x L→V7 w.heap S c.ps none [] vs x→L.Nodup→(∀ b∈L,¬ S b∧b<w.heap.size) →
  ∀ p,pm pat p=true→c4Q p c.ps x→Calls P f vs.toArray w (fun e w'=>a3h w S c.rs c.ps vs L (c.fn x) (c.out x) e w'∧c4S p w.heap w'.heap c.ps vs (c.out x))

structure B6 (E:Env):Prop where
 tt:∀ T i,look T E.tt=some i→a6e E.P (T,i)=true
 F2:∀ f c,look f E.F2=some c→c.Valid E.P f
 kept:∀ f c pat,look f E.F2=some c→look f E.keeps=some pat→c.Kept E.P f pat

structure A6 (E:Env) (B:C6):Prop extends B6 E where
 gb:GlB E.P B

/-! ### the state, step by step -/
section
variable {E:Env} {B:C6} {S:Nat→Prop} {ι:Ix} {s:St} {a:Act} {w:World}

theorem RS.get (h:RS B S ι s a w) (t:Nat):VX w.heap S ι s.hp (s.get t) [a.tmps.getD t (B.gd t)]:=by
 unfold St.get
 cases hl:look t s.fr with
 | none=>exact ⟨_,rfl⟩
 | some v=>exact h.fr t v hl

theorem VX.const (v:Value) {H:Array Go.Obj} {hp:List (Nat×f7)}:VX H S ι hp (ofConst v) [v]:=by
 unfold ofConst
 split
 ·rename_i k n
  split
  ·rename_i h; exact ⟨[.int k n],rfl,rfl,rfl,h⟩
  ·rfl
 ·rename_i b; exact ⟨[.bool b],rfl,rfl,rfl⟩
 ·rename_i s
  split
  ·rename_i h
   refine ⟨[.string s],rfl,rfl,?_,by simpa using h⟩
   simp
  ·rfl
 ·rfl

theorem RS.ev (h:RS B S ι s a w) (x:Operand):VX w.heap S ι s.hp (s.ev x) [a.eval x]:=by
 cases x with
 | tmp t =>
  show VX w.heap S ι s.hp (match Nat.beq t F8 with|true=>.any|false=>s.get t) [a.tmps.getD t undef]
  have:=h.get t
  unfold C6.gd at this
  cases hb:Nat.beq t F8 with
  | true=>exact ⟨_,rfl⟩
  | false=>rw [hb] at this; exact this
 | const v=>exact VX.const v
 | global g=>exact ⟨_,rfl⟩
 | func f=>exact ⟨[],by simp [Act.eval],rfl⟩

theorem RS.K5 (h:RS B S ι s a w):∀ l:List Operand,VX w.heap S ι s.hp (s.K5 l) (l.map a.eval)
 | []=>rfl
 | x::l=>⟨_,_,rfl,h.ev x,h.K5 l⟩

theorem RS.put (h:RS B S ι s a w) {d:Option Nat} (hd:E7 B.n d=true) {v:AV} {val:Value} (hv:VX w.heap S ι s.hp v [val]):RS B S ι (s.put d v) (a.put d val) w:=by
 cases d with
 | none=>exact h
 | some d =>
  have hlt:d<B.n:=by simpa [E7,Nat.blt_eq] using hd
  refine ⟨h.hs,h.dfr,by simpa [Act.put] using h.sz,?_⟩
  intro t v' ht
  simp only [St.put,p7] at ht
  simp only [Act.put]
  by_cases e:t=d
  ·subst e
   rw [if_pos rfl] at ht; cases ht
   have:t<a.tmps.size:=by rw [h.sz]; exact hlt
   show VX w.heap S ι s.hp v [_]
   simpa [Array.getD,this,Array.getElem?_setIfInBounds] using hv
  ·rw [if_neg e] at ht
   have:=h.fr t v' ht
   show VX w.heap S ι s.hp v' [_]
   simpa [Array.getD_eq_getD_getElem?,Array.getElem?_setIfInBounds_ne (Ne.symm e)] using this

def x6 (P:Program) (B:C6) (o:Oper) (a:Act) (w:World) (v:AV) (s':St):Prop :=
 ∀ (next:Act→World→Prop) (Q:Exit→Act→World→Prop),
  (∀ S' ι' w' val,RS B S' ι' s' a w'→VX w'.heap S' ι' s'.hp v [val]→next (a.put o.dst val) w')→o.wp P a w next Q

theorem x6.value {P:Program} {o:Oper} {v:AV} {val:Value} (hr:(execOp a.eval o).run P w=.ok (.value val) w) (h:RS B S ι s a w) (hv:VX w.heap S ι s.hp v [val]) :
  x6 P B o a w v s:=by
 intro next Q hn
 unfold Oper.wp
 rw [hr]
 exact hn S ι w val h hv

theorem B2 (hE:A6 E B) {T:TypeId} {u:Ty} (h:G1 E T u=true):o9 E.P 100 T u=true:=by
 unfold G1 at h
 split at h
 ·rename_i i hi
  have h1:=hE.tt T i hi
  simp only [a6e,Bool.and_eq_true] at h1
  exact c0J (a4C (of_decide_eq_true h).symm (c0K h1.1))
 ·cases h

theorem w5 (hE:A6 E B) {T:TypeId} {i:TI} (h:look T E.tt=some i):o9 E.P 100 T i.ty=true:=by
 have h1:=hE.tt T i h
 simp only [a6e,Bool.and_eq_true] at h1
 exact h1.1

/-! reading memory -/
theorem L5 {b off n:Nat} {j:Nat} {v:Value} (h:(f8 w.heap b off n)[j]?=some v):w.cell? ⟨b,off+j,none⟩=some v:=by
 simp only [f8,List.getElem?_take,List.getElem?_drop] at h
 split at h
 ·unfold w7 at h
  split at h
  ·rename_i arr T fz e
   simp [World.cell?,e] 
   simpa using h
  ·simp at h
 ·cases h

theorem Addr.F3 (b off n:Nat):(⟨b,off,none⟩:Addr).add n=⟨b,off+n,none⟩:=by
 unfold Addr.add
 split
 ·subst_vars; simp
 ·rfl

theorem a01 {P:Program} {T:TypeId} {t:Ty} {n:Nat} (ht:o9 P n T t=true) {b off:Nat} {O:List Nat} {x:t.den} (hR:f9 w.heap S t O (f8 w.heap b off t.size) x) :
  (loadVar T ⟨b,off,none⟩).run P w=.ok (j8 t (f8 w.heap b off t.size)) w:=by
 have hl:=hR.length
 simp only [loadVar,Sem.run_bind,a6o ht,Result.andThen]
 cases hg:t.agg with
 | true =>
  simp only [if_true,Sem.run_bind,run_sizeOf ht,Result.andThen]
  have:=run_loadCells_list (P:=P) w ⟨b,off,none⟩ (f8 w.heap b off t.size) (fun j v h=>by rw [Addr.F3]; exact L5 h)
  rw [hl] at this
  rw [this]
  simp [j8,hg]
 | false =>
  have h1:t.size=1:=by cases t<;>simp_all [Ty.agg,Ty.size]
  rw [h1] at hl ⊢
  match hc:f8 w.heap b off 1,hl with
  | [c],_ =>
   have:=L5 (w:=w) (b:=b) (off:=off) (n:=1) (j:=0) (v:=c) (by rw [hc]; rfl)
   simp only [Nat.add_zero] at this
   simp [run_load,this,j8,hg]

theorem J8 {P:Program} {o:Oper} {sem:Sem Value} {val:Value} {w':World} (h:execOp a.eval o=(do pure (.value (← sem)))) (hr:sem.run P w=.ok val w') :
  (execOp a.eval o).run P w=.ok (.value val) w':=by
 rw [h]; simp [hr]

theorem F6 {i:Nat} {e:f7} (h1:look i s.hp=some e) {p:List Step} {r:Sigma Ty.den} (h:s.part i p=some r):i6 e.ty e.x p=some r:=by
 unfold St.part St.obj at h
 rw [h1] at h
 exact h

theorem b6e (hE:A6 E B) {T:TypeId} (ht:c2Q (look T E.tt)=true) {l:AV} {val:Value} (hv:VX w.heap S ι s.hp (.bx l) [val]) :
  ∃ u,(Instr.loadAt T val).run E.P w=.ok u w∧VX w.heap S ι s.hp l [u]:=by
 obtain ⟨b,off,u,e,hb,h1,h2,h3⟩:=hv
 refine ⟨u,?_,h3⟩
 obtain rfl:val=.pointer (some ⟨b,off,none⟩):=by simpa using e
 obtain ⟨t,hta,hag⟩:∃ t,o9 E.P 100 T t=true∧t.agg=false:=by
  cases hl:look T E.tt with
  | none=>rw [hl] at ht; cases ht
  | some i =>
   rw [hl] at ht
   refine ⟨i.ty,w5 hE hl,?_⟩
   obtain ⟨ty,n⟩:=i
   cases ty<;>first|rfl|cases ht
 have:=L5 (w:=w) (b:=b) (off:=off) (n:=1) (j:=0) (v:=u) (by rw [h2]; rfl)
 simp only [Nat.add_zero] at this
 simp [Instr.loadAt,Instr.sureAddr,loadVar,a6o hta,hag,run_load,this]

theorem b48 (hE:A6 E B) (h:RS B S ι s a w) {o:Oper} {T:TypeId} {x:Operand} (ho:o.op=.load T x) {v:AV} {s':St} (hl:U2 E T (s.ev x) s=.ok v s') :
  x6 E.P B o a w v s':=by
 have he:execOp a.eval o=(do pure (.value (← Instr.loadAt T (a.eval x)))):=by simp [execOp,ho]
 have hv:=h.ev x
 unfold U2 at hl
 split at hl
 ·rename_i t y hx
  rw [hx] at hv
  obtain ⟨b,off,e,hb,hr,hR⟩:=hv
  split at hl
  ·rename_i hc
   cases hl
   have e:a.eval x=.pointer (some ⟨b,off,none⟩):=by simpa using e
   refine x6.value (J8 he (w':=w) (val:=j8 t (f8 w.heap b off t.size)) ?_) h ⟨_,rfl,hR⟩
   rw [e]
   simp [Instr.loadAt,Instr.sureAddr,a01 (B2 hE hc) hR]
  ·cases hl
 ·rename_i l hx
  rw [hx] at hv
  split at hl
  ·rename_i ht
   cases hl
   obtain ⟨val,k1,k2⟩:=b6e (hE:=hE) ht hv
   exact x6.value (J8 he k1) h k2
  ·cases hl
 ·rename_i i p hx
  rw [hx] at hv
  obtain ⟨e,b,off,h1,h2,h3,h4⟩:=hv
  have h4:a.eval x=.pointer (some ⟨b,off,none⟩):=by simpa using h4
  split at hl
  ·rename_i u y hpt
   have hg:=F6 h1 hpt
   obtain ⟨O2,k1,k2,k3,k4,k5⟩:=M9 (K1 h3) (h.hs.ob i e h1) h.hs.slt h2 hg h3
   split at hl
   ·rename_i hc
    have hr:(Instr.loadAt T (a.eval x)).run E.P w=.ok (j8 u (f8 w.heap b off u.size)) w:=by
     rw [h4]; simp [Instr.loadAt,Instr.sureAddr,a01 (B2 hE hc) k3]
    split at hl
    ·rename_i hs
     cases hl
     have:=k3.M4 hs
     subst this
     exact x6.value (J8 he hr) h ⟨_,rfl,k3⟩
    ·cases hl
     have hp:=A7 h3
     exact x6.value (J8 he hr) h ⟨e,u,y,_,h1,h2,hg,⟨b,off,hp.1,(l5 (G6 hp.2) _ _).symm⟩,rfl⟩
   ·cases hl
  ·cases hl
 ·cases hl

/-! arithmetic -/
theorem a0F (k:IntKind) (n:Int):r9 k (k.wrap n):=by
 unfold r9 IntKind.wrap IntKind.min IntKind.max
 have h1:(0:Int)<2^k.bits:=by cases k<;>decide
 have h2:=Int.emod_nonneg n (b:=2^k.bits) (by omega)
 have h3:=Int.emod_lt_of_pos n h1
 cases k<;>simp [IntKind.signed,IntKind.bits] at*<;> (try split)<;>omega

theorem N9 {k:IntKind} {n:Int} (h:r9 k n):k.wrap n=n:=by
 unfold r9 IntKind.min IntKind.max at h
 unfold IntKind.wrap
 cases k<;>simp [IntKind.signed,IntKind.bits] at*<;> (try split)<;>omega

theorem VX.int {H:Array Go.Obj} {hp:List (Nat×f7)} {k:IntKind} {n:Int} (h:r9 k n):VX H S ι hp (.val (.int k) n) [.int k n]:=⟨[.int k n],rfl,rfl,rfl,h⟩
theorem VX.bool {H:Array Go.Obj} {hp:List (Nat×f7)} {b:Bool}:VX H S ι hp (.val .bool b) [.bool b]:=⟨[.bool b],rfl,rfl,rfl⟩
theorem VX.str {H:Array Go.Obj} {hp:List (Nat×f7)} {l:List UInt8} (h:l.length≤maxLen):VX H S ι hp (.val .str l) [.string ⟨l.toArray⟩]:=⟨[.string ⟨l.toArray⟩],rfl,rfl,rfl,h⟩

theorem VX.F7 {H:Array Go.Obj} {hp:List (Nat×f7)} {k:IntKind} {n:Int} {v:Value} (h:VX H S ι hp (.val (.int k) n) [v]):v=.int k n∧r9 k n:=by
 obtain ⟨cs,e,_,rfl,h2⟩:=h
 exact ⟨by simpa [j8,Ty.agg] using e,h2⟩
theorem VX.a2k {H:Array Go.Obj} {hp:List (Nat×f7)} {b:Bool} {v:Value} (h:VX H S ι hp (.val .bool b) [v]):v=.bool b:=by
 obtain ⟨cs,e,_,rfl⟩:=h
 simpa [j8,Ty.agg] using e
theorem VX.a15 {H:Array Go.Obj} {hp:List (Nat×f7)} {l:List UInt8} {v:Value} (h:VX H S ι hp (.val .str l) [v]):v=.string ⟨l.toArray⟩∧l.length≤maxLen:=by
 obtain ⟨cs,e,_,rfl,h2⟩:=h
 exact ⟨by simpa [j8,Ty.agg] using e,h2⟩

def C8 (P:Program) (B:C6) (o:Oper) (a:Act) (w:World):OR→Prop
 | .fail _=>True
 | .ok v s=>x6 P B o a w v s
 | .E0 p v s=>p→x6 P B o a w v s

theorem C8.pure {P:Program} {o:Oper} {sem:Sem Value} (he:execOp a.eval o=(do pure (.value (← sem)))) (h:RS B S ι s a w) {v:AV} {val:Value} (hr:sem.run P w=.ok val w)
  (hv:VX w.heap S ι s.hp v [val]):x6 P B o a w v s:=x6.value (J8 he hr) h hv

theorem a2w {P:Program} {o:Oper} {k:IntKind} {r:Int} (he:(execOp a.eval o).run P w=.ok (.value (.int k (k.wrap r))) w) (h:RS B S ι s a w):C8 P B o a w (arith k r s):=by
 unfold arith
 split
 ·intro hk
  exact x6.value (by rw [he,N9 hk]) h (VX.int hk)
 ·exact x6.value he h (VX.int (a0F _ _))

theorem V0 {P:Program} {o:Oper} {op:BinOp} {T T':TypeId} {x y:Operand} (ho:o.op=.binOp op T x y T') (hg:(eqGuard op T x y (a.eval x) (a.eval y)).run P w=.ok () w) {r:Result Value}
  (hr:(binOp op T (a.eval x) (a.eval y)).run P w=r):(execOp a.eval o).run P w=r.andThen fun v w'=>.ok (.value v) w':=by
 simp only [execOp,ho,Sem.run_bind,hg,Result.andThen,hr]
 cases r<;>rfl

theorem b8i (h:RS B S ι s a w) {o:Oper} {op:BinOp} {T T':TypeId} {x y:Operand} (ho:o.op=.binOp op T x y T') {P:Program} {k k':IntKind} {m n:Int}
  (hx:a.eval x=.int k m) (bx:r9 k m) (hy:a.eval y=.int k' n) (by_:r9 k' n):C8 P B o a w (a8E op k m k' n s):=by
 have hg:(eqGuard op T x y (a.eval x) (a.eval y)).run P w=.ok () w:=by rw [hx,hy]; cases op<;>rfl
 have run:∀ {r:Result Value},(binOp op T (.int k m) (.int k' n)).run P w=r→(execOp a.eval o).run P w=r.andThen fun v w'=>.ok (.value v) w':=by
  intro r hr
  exact V0 ho hg (by rw [hx,hy]; exact hr)
 have h0:k.min≤0:=by cases k<;>decide
 have h1:0≤k.max:=by cases k<;>decide
 unfold a8E
 split
 ·intro hn
  have:¬ n<0:=by omega
  exact x6.value (by rw [run (r:=.ok (.int k (k.wrap (m*2^(min n.toNat k.bits)))) w)]; rfl; simp [binOp,Op.shift,this]) h (VX.int (a0F _ _))
 ·intro hn
  have:¬ n<0:=by omega
  generalize hc:min n.toNat k.bits=c
  have hp:(0:Int)<2^c:=Int.pow_pos (by decide)
  have hb:r9 k (m / 2^c):=by
   unfold r9 at *
   refine ⟨?_,?_⟩
   ·apply (Int.le_ediv_iff_mul_le hp).2
    by_cases hm:m<0
    ·have:k.min*2^c≤k.min*1:=Int.mul_le_mul_of_nonpos_left h0 (by omega)
     omega
    ·have:k.min*2^c≤0:=Int.mul_nonpos_of_nonpos_of_nonneg h0 (Int.le_of_lt hp)
     omega
   ·by_cases hm:m<0
    ·have:=Int.ediv_neg_of_neg_of_pos hm hp
     omega
    ·have:=Int.ediv_le_self (2^c) (a:=m) (by omega)
     omega
  refine x6.value (by rw [run (r:=.ok (.int k (m / 2^c)) w)]; rfl; simp [binOp,Op.shift,this,hc,Int.fdiv_eq_ediv_of_nonneg _ (Int.le_of_lt hp)]) h (VX.int hb)
 ·rename_i hne1 hne2
  split
  ·rename_i hk; subst hk
   split
   ·exact a2w (by rw [run (r:=.ok (.int k (k.wrap (m+n))) w)]; rfl; simp [binOp,Op.intArith]) h
   ·exact a2w (by rw [run (r:=.ok (.int k (k.wrap (m - n))) w)]; rfl; simp [binOp,Op.intArith]) h
   ·exact a2w (by rw [run (r:=.ok (.int k (k.wrap (m*n))) w)]; rfl; simp [binOp,Op.intArith]) h
   ·intro hn
    have hq:r9 k (m.tdiv n):=by
     unfold r9 at *
     by_cases hm:m<0
     ·have e:m.tdiv n=-((-m) / n):=by rw [← Int.neg_neg m,Int.neg_tdiv,Int.tdiv_eq_ediv_of_nonneg (by omega)]; simp
      have:=Int.ediv_nonneg (a:=-m) (b:=n) (by omega) (by omega)
      have:=Int.ediv_le_self n (a:=-m) (by omega)
      omega
     ·rw [Int.tdiv_eq_ediv_of_nonneg (by omega)]
      have:=Int.ediv_nonneg (a:=m) (b:=n) (by omega) (by omega)
      have:=Int.ediv_le_self n (a:=m) (by omega)
      omega
    exact x6.value (by rw [run (r:=.ok (.int k (m.tdiv n)) w)]; rfl; simp [binOp,Op.intDiv,show n≠0 by omega,N9 hq]) h (VX.int hq)
   ·intro hn
    have hq:r9 k (m.tmod n):=by
     unfold r9 at *
     by_cases hm:m<0
     ·have e:m.tmod n=-((-m) % n):=by rw [← Int.neg_neg m,Int.neg_tmod,Int.tmod_eq_emod_of_nonneg (by omega)]; simp
      have:=Int.emod_nonneg (-m) (b:=n) (by omega)
      have:(-m) % n≤-m:=by
       have:=Int.emod_add_mul_ediv (-m) n
       have:=Int.mul_nonneg (Int.le_of_lt hn) (Int.ediv_nonneg (a:=-m) (b:=n) (by omega) (by omega))
       omega
      omega
     ·rw [Int.tmod_eq_emod_of_nonneg (by omega)]
      have:=Int.emod_nonneg m (b:=n) (by omega)
      have:m % n≤m:=by
       have:=Int.emod_add_mul_ediv m n
       have:=Int.mul_nonneg (Int.le_of_lt hn) (Int.ediv_nonneg (a:=m) (b:=n) (by omega) (by omega))
       omega
      omega
    exact x6.value (by rw [run (r:=.ok (.int k (m.tmod n)) w)]; rfl; simp [binOp,Op.intDiv,show n≠0 by omega]) h (VX.int hq)
   ·exact x6.value (by rw [run (r:=.ok (.int k (Z4 k m n)) w)]; rfl; simp [binOp,Op.intBits,Z4]) h (VX.int (a0F _ _))
   ·exact x6.value (by rw [run (r:=.ok (.int k (bOr k m n)) w)]; rfl; simp [binOp,Op.intBits,bOr]) h (VX.int (a0F _ _))
   ·exact x6.value (by rw [run (r:=.ok (.int k (b4b k m n)) w)]; rfl; simp [binOp,Op.intBits,b4b]) h (VX.int (a0F _ _))
   ·exact x6.value (by rw [run (r:=.ok (.int k (b0P k m n)) w)]; rfl; simp [binOp,Op.intBits,b0P]) h (VX.int (a0F _ _))
   ·exact x6.value (by rw [run (r:=.ok (.bool (decide (m=n))) w)]; rfl; simp [binOp,Op.intCmp]; rfl) h VX.bool
   ·exact x6.value (by rw [run (r:=.ok (.bool (decide (m≠n))) w)]; rfl; simp [binOp,Op.intCmp]; rfl) h VX.bool
   ·exact x6.value (by rw [run (r:=.ok (.bool (decide (m<n))) w)]; rfl; simp [binOp,Op.intCmp]) h VX.bool
   ·exact x6.value (by rw [run (r:=.ok (.bool (decide (m≤n))) w)]; rfl; simp [binOp,Op.intCmp]) h VX.bool
   ·exact x6.value (by rw [run (r:=.ok (.bool (decide (n<m))) w)]; rfl; simp [binOp,Op.intCmp]) h VX.bool
   ·exact x6.value (by rw [run (r:=.ok (.bool (decide (n≤m))) w)]; rfl; simp [binOp,Op.intCmp]) h VX.bool
   ·trivial
  ·trivial

theorem b4Y {P:Program} {T:TypeId} {m n:List UInt8} (hn:m.length+n.length≤maxLen):(binOp .add T (.string ⟨m.toArray⟩) (.string ⟨n.toArray⟩)).run P w=.ok (.string ⟨(m++n).toArray⟩) w:=by
 have h2:¬ ((((ByteArray.mk m.toArray).size+(ByteArray.mk n.toArray).size:Nat):Int) > IntKind.i64.max):=by
  have e1:(ByteArray.mk m.toArray).size=m.length:=by simp [ByteArray.size]
  have e2:(ByteArray.mk n.toArray).size=n.length:=by simp [ByteArray.size]
  rw [e1,e2]
  have:IntKind.i64.max=((maxLen:Nat):Int):=by decide
  omega
 have e:(ByteArray.mk m.toArray)++(ByteArray.mk n.toArray)=ByteArray.mk (m++n).toArray:=by
  apply ByteArray.ext; simp
 simp only [binOp,Op.stringOp,h2,if_false,e]
 rfl

theorem b8h (h:RS B S ι s a w) {o:Oper} {op:BinOp} {T T':TypeId} {x y:Operand} (ho:o.op=.binOp op T x y T') {P:Program} {m n:List UInt8}
  (hx:a.eval x=.string ⟨m.toArray⟩) (hy:a.eval y=.string ⟨n.toArray⟩):C8 P B o a w (a8D op m n s):=by
 have hg:(eqGuard op T x y (a.eval x) (a.eval y)).run P w=.ok () w:=by rw [hx,hy]; cases op<;>rfl
 have run:∀ {r:Result Value},(binOp op T (.string ⟨m.toArray⟩) (.string ⟨n.toArray⟩)).run P w=r→(execOp a.eval o).run P w=r.andThen fun v w'=>.ok (.value v) w':=by
  intro r hr
  exact V0 ho hg (by rw [hx,hy]; exact hr)
 unfold a8D
 split
 ·exact x6.value (by rw [run (r:=.ok (.bool (decide (m=n))) w)]; rfl; simp [binOp,Op.stringOp,ByteArray.toList_mk,Bool.beq_eq_decide_eq]) h VX.bool
 ·exact x6.value (by rw [run (r:=.ok (.bool (decide (m≠n))) w)]; rfl; simp [binOp,Op.stringOp,ByteArray.toList_mk,Bool.beq_eq_decide_eq]) h VX.bool
 ·intro hn
  refine x6.value (by rw [run (r:=.ok (.string ⟨(m++n).toArray⟩) w)]; rfl; exact b4Y hn) h (VX.str (by simpa using hn))
 ·trivial

theorem a1n {P:Program} {n:Nat} {T:TypeId} (hT:o9 P n T .bool=true):P.underlying T=some .bool:=by
 obtain ⟨d,h1,h2⟩:=M3 hT
 cases n with
 | zero=>simp [o9] at hT
 | succ n =>
  simp only [o9,Bool.and_eq_true,h1] at hT
  obtain ⟨_,hT⟩:=hT
  cases d<;>first|exact h1|(exact (Bool.false_ne_true hT).elim)|skip
  rename_i fs
  have hT:l4 (o9 P n) fs.toList 0 .bool=true:=hT
  cases hf:fs.toList with
  | nil=>rw [hf] at hT; simp [l4] at hT
  | cons f l=>rw [hf] at hT; simp [l4] at hT

theorem run_equalIn_bool {P:Program} {T:TypeId} (h1:P.underlying T=some .bool) (d:Nat) (m n:Bool):(Op.equalIn (d+1) T (.bool m) (.bool n)).run P w=.ok (m == n) w:=by
 simp [Op.equalIn,p9 h1]

theorem a9j {P:Program} {n:Nat} {T:TypeId} (hT:o9 P n T .bool=true) (m n:Bool):(Op.equal T (.bool m) (.bool n)).run P w=.ok (m == n) w :=
 run_equalIn_bool (a1n hT) 9999 m n

theorem b8g (h:RS B S ι s a w) {W:Bool} {o:Oper} {op:BinOp} {T T':TypeId} {x y:Operand} (ho:o.op=.binOp op T x y T') {P:Program} {k k':IntKind} {m n:Int}
  (hx:a.eval x=.int k m) (bx:r9 k m) (hy:a.eval y=.int k' n) (by_:r9 k' n):C8 P B o a w (a8C W op k m k' n s):=by
 unfold a8C
 split
 ·split
  ·rename_i hk; subst hk
   have hg:(eqGuard .add T x y (a.eval x) (a.eval y)).run P w=.ok () w:=by rw [hx,hy]; rfl
   exact x6.value (by rw [V0 ho hg (r:=.ok (.int k (k.wrap (m+n))) w)]; rfl; rw [hx,hy]; simp [binOp,Op.intArith]) h (VX.int (a0F _ _))
  ·trivial
 ·exact b8i h ho hx bx hy by_

theorem b8k (hE:A6 E B) (h:RS B S ι s a w) {o:Oper} {op:BinOp} {T T':TypeId} {x y:Operand} (ho:o.op=.binOp op T x y T'):C8 E.P B o a w (a8F E T op (s.ev x) (s.ev y) s):=by
 have hx:=h.ev x
 have hy:=h.ev y
 unfold a8F
 split
 ·rename_i k m k' n e1 e2
  rw [e1] at hx; rw [e2] at hy
  obtain ⟨hx,bx⟩:=VX.F7 hx
  obtain ⟨hy,by_⟩:=VX.F7 hy
  exact b8g h ho hx bx hy by_
 ·rename_i m n e1 e2
  rw [e1] at hx; rw [e2] at hy
  have hx:=VX.a2k hx
  have hy:=VX.a2k hy
  have hg:(eqGuard op T x y (a.eval x) (a.eval y)).run E.P w=.ok () w:=by rw [hx,hy]; cases op<;>rfl
  split
  ·rename_i hc
   exact x6.value (by rw [V0 ho hg (r:=.ok (.bool (m == n)) w)]; rfl; rw [hx,hy]; simp [binOp,a9j (B2 hE hc)]) h VX.bool
  ·rename_i hc
   exact x6.value (by rw [V0 ho hg (r:=.ok (.bool (m != n)) w)]; rfl; rw [hx,hy]; simp [binOp,a9j (B2 hE hc)]; cases (m:Bool)<;>cases (n:Bool)<;>rfl) h VX.bool
  ·trivial
 ·rename_i m n e1 e2
  rw [e1] at hx; rw [e2] at hy
  exact b8h h ho (VX.a15 hx).1 (VX.a15 hy).1
 ·trivial

end
end Go.Ex

namespace Go.Ex

section
variable {E:Env} {B:C6} {S S':Nat→Prop} {ι:Ix} {s:St} {a:Act} {w:World} {hp:List (Nat×f7)}

def Ix.P4 (ι:Ix) (d:Nat) (r:Nat×Nat) (o:List Nat):Ix:={ ι with root:=fun i=>if i=d then r else ι.root i,own:=fun i=>if i=d then o else ι.own i }
def Ix.Q5 (ι:Ix) (d:Nat) (cs:List Value) (o:List Nat):Ix:={ ι with cells:=fun i=>if i=d then cs else ι.cells i,own:=fun i=>if i=d then o else ι.own i }
def Ix.B1 (ι:Ix) (d:Nat) (o:List Nat):Ix:={ ι with own:=fun i=>if i=d then o else ι.own i }

def C7 (ι ι':Ix) (i:Nat):Prop:=ι'.root i=ι.root i∧ι'.cells i=ι.cells i∧ι'.own i=ι.own i

theorem C7.ob {ι':Ix} {i:Nat} (h:C7 ι ι' i) {H:Array Go.Obj} {e:f7}:OB H S ι' i e↔OB H S ι i e:=by
 obtain ⟨h1,h2,h3⟩:=h
 cases e<;>simp only [OB,h1,h2,h3]
theorem C7.l6 {ι':Ix} {i:Nat} (h:C7 ι ι' i) {e:f7}:l6 ι' i e=l6 ι i e:=by
 obtain ⟨h1,h2,h3⟩:=h
 cases e<;>simp only [Ex.l6,h1,h3]
theorem C7.vh {ι':Ix} {i:Nat} (h:C7 ι ι' i) {H:Array Go.Obj} {e:f7}:VH H ι' i e=VH H ι i e:=by
 obtain ⟨h1,h2,h3⟩:=h
 cases e<;>simp only [VH,h2]
theorem C7.place {ι':Ix} {i:Nat} (h:C7 ι ι' i) {H:Array Go.Obj} {e:f7} {p:List Step}:Place H ι' i e p=Place H ι i e p:=by
 have hv:=h.vh (H:=H) (e:=e)
 obtain ⟨h1,h2,h3⟩:=h
 cases e<;>simp only [Place,VR,h1,hv]
theorem C7.loc {ι':Ix} {i:Nat} (h:C7 ι ι' i) {H:Array Go.Obj} {e:f7} {p:List Step}:Loc H ι' i e p=Loc H ι i e p:=by
 simp only [Loc,h.place]
theorem C7.a6M {ι':Ix} {i:Nat} (h:C7 ι ι' i) {H:Array Go.Obj} {e:f7} {p:List Step} {u:Ty} {cs:List Value}:Cells H ι' i e p u cs↔Cells H ι i e p u cs:=by
 simp only [Cells,h.place,h.vh]

theorem C7.refl (ι:Ix) (i:Nat):C7 ι ι i:=⟨rfl,rfl,rfl⟩
theorem a4n {i d:Nat} (h:i≠d) (r:Nat×Nat) (o:List Nat):C7 ι (ι.P4 d r o) i:=by simp [C7,Ix.P4,h]
theorem a2n {i d:Nat} (h:i≠d) (cs:List Value) (o:List Nat):C7 ι (ι.Q5 d cs o) i:=by simp [C7,Ix.Q5,h]
theorem a0d {i d:Nat} (h:i≠d) (o:List Nat):C7 ι (ι.B1 d o) i:=by simp [C7,Ix.B1,h]

theorem VX.other {ι':Ix} {hp':List (Nat×f7)} {H:Array Go.Obj} {v:AV} (hl:∀ i,v.g8 i=true→look i hp'=look i hp) (hs:∀ i,v.g8 i=true→C7 ι ι' i) {vs:List Value} (h:VX H S ι hp v vs):VX H S ι' hp' v vs:=by
 have:=VX.map (H':=H) (S':=S) (ι':=ι') (hp':=hp') (f:=fun u=>u) (fun _ _=>rfl) (fun _ h=>h) ?_ h
 ·rwa [AV.map_id] at this
 ·intro u vs hu hm h
  cases u<;>simp only [AV.ref] at hu<;>try cases hu
  ·rename_i i p
   have hi:=hm i (by simp [AV.g8])
   obtain ⟨e,b,off,h1,h2,h3,h4⟩:=h
   exact ⟨e,b,off,(hl i hi).trans h1,h2,(hs i hi).loc.trans h3,h4⟩
  ·rename_i i p
   have hi:=hm i (by simp [AV.g8])
   obtain ⟨e,u,y,cs,h1,h2,h3,h4,h5⟩:=h
   exact ⟨e,u,y,cs,(hl i hi).trans h1,h2,h3,(hs i hi).a6M.2 h4,h5⟩
  ·rename_i i p lo hi'
   have hi:=hm i (by simp [AV.g8])
   obtain ⟨e,v,h1,h2,h3,h4,h5,h6⟩:=h
   refine ⟨e,v,(hl i hi).trans h1,h2,h3,h4,h5,?_⟩
   rcases h6 with ⟨t,l,a,cap,k1,k2,k3,k4⟩|⟨n,t,l,b,off,k1,k2,k3,k4⟩
   ·exact .inl ⟨t,l,a,cap,k1,k2,(hs i hi).a6M.2 k3,k4⟩
   ·exact .inr ⟨n,t,l,b,off,k1,k2,(hs i hi).loc.trans k3,k4⟩

theorem a3v {H:Array Go.Obj} {o:Go.Obj} {b:Nat} (h:b<H.size):(H.push o)[b]?=H[b]?:=by
 rw [Array.getElem?_push,if_neg (by omega)]
theorem a3w {H:Array Go.Obj} {o:Go.Obj}:(H.push o)[H.size]?=some o:=by simp

def C2 (w:World) (o:Go.Obj):World:={ w with heap:=w.heap.push o }

theorem HS.c3h (h:HS B S ι hp w) {b:Nat} (hb:(∃ i e,look i hp=some e∧b∈l6 ι i e)∨S b):b<w.heap.size:=by
 rcases hb with ⟨i,e,h1,h2⟩|hb
 ·exact (h.bl i e h1 b h2).2.2
 ·exact h.slt b hb

def C5 (B:C6) (S:Nat→Prop) (ι:Ix) (hp:List (Nat×f7)) (w:World) (O:List Nat):Prop :=
 O.Nodup∧∀ b∈O,¬ S b∧(B.w0.heap.size≤b∨B.M b)∧b<w.heap.size∧∀ i e,look i hp=some e→b∉l6 ι i e

theorem C5.nil:C5 B S ι hp w []:=⟨List.nodup_nil,by simp⟩
theorem C5.sub {O O':List Nat} (h:C5 B S ι hp w O) (hn:O'.Nodup) (hs:∀ b∈O',b∈O):C5 B S ι hp w O':=⟨hn,fun b hb=>h.2 b (hs b hb)⟩
theorem C5.append {O O':List Nat} (h:C5 B S ι hp w O) (h':C5 B S ι hp w O') (hd:∀ b∈O,b∉O'):C5 B S ι hp w (O++O') :=
 ⟨List.nodup_append.2 ⟨h.1,h'.1,fun a ha _b hb e=>hd a ha (e▸hb)⟩,fun b hb=>(List.mem_append.1 hb).elim (h.2 b) (h'.2 b)⟩

theorem HS.R6 (h:HS B S ι hp w) {O:List Nat} (hF:C5 B S ι hp w O) {w':World} (k:C0 O w w'):HS B S ι hp w':=by
 have hlt:∀ {b},((∃ i e,look i hp=some e∧b∈l6 ι i e)∨S b)→w'.heap[b]?=w.heap[b]?:=by
  intro _ hb
  refine k.frame _ (h.c3h hb) (fun hO=>?_)
  rcases hb with ⟨i,e,h1,h2⟩|hb
  ·exact (hF.2 _ hO).2.2.2 i e h1 h2
  ·exact (hF.2 _ hO).1 hb
 refine ⟨k.os.trans h.os,k.tape.trans h.tape,k.out.trans h.out,Nat.le_trans h.size k.size,?_,fun b hb=>Nat.lt_of_lt_of_le (h.slt b hb) k.size,h.s0,h.s1,?_,?_,h.dj,h.pin⟩
 ·intro c hc hm
  rw [k.frame c (Nat.lt_of_lt_of_le hc h.size) (fun hO=>by rcases (hF.2 c hO).2.1 with h1|h1; omega; exact hm h1)]
  exact h.frame c hc hm
 ·intro i e hi
  exact (h.ob i e hi).s7 (fun b hb=>hlt (hb.imp (fun hb=>⟨i,e,hi,hb⟩) id)) (fun _ h=>h)
 ·intro i e hi b hb
  obtain ⟨h1,h2,h3⟩:=h.bl i e hi b hb
  exact ⟨h1,h2,Nat.lt_of_lt_of_le h3 k.size⟩

theorem VX.R6 (h:HS B S ι hp w) {O:List Nat} (hF:C5 B S ι hp w O) {w':World} (k:C0 O w w') {v:AV} {vs:List Value} (hv:VX w.heap S ι hp v vs):VX w'.heap S ι hp v vs:=by
 refine VX.grow (fun b hb=>k.frame b (h.c3h hb) (fun hO=>?_)) (fun _ h=>h) h.slt h.ob hv
 rcases hb with ⟨i,e,h1,h2⟩|hb
 ·exact (hF.2 b hO).2.2.2 i e h1 h2
 ·exact (hF.2 b hO).1 hb

theorem RS.R6 (h:RS B S ι s a w) {O:List Nat} (hF:C5 B S ι s.hp w O) {w':World} (k:C0 O w w'):RS B S ι s a w' :=
 ⟨h.hs.R6 hF k,h.dfr,h.sz,fun t v hv=>VX.R6 h.hs hF k (h.fr t v hv)⟩

theorem C5.R6 {O O':List Nat} (h:C5 B S ι hp w O') {w':World} (k:C0 O w w'):C5 B S ι hp w' O' :=
 ⟨h.1,fun b hb=>⟨(h.2 b hb).1,(h.2 b hb).2.1,Nat.lt_of_lt_of_le (h.2 b hb).2.2.1 k.size,(h.2 b hb).2.2.2⟩⟩

theorem C0.push (o:Go.Obj):C0 [] w (C2 w o):=⟨rfl,.refl w,rfl,by simp [C2],fun c hc _=>a3v hc⟩
theorem C0.drew:C0 [] w w.drew:=⟨rfl,⟨rfl,Nat.le_succ _⟩,rfl,Nat.le_refl _,fun _ _ _=>rfl⟩
theorem C0.mono {O O':List Nat} {w':World} (h:C0 O w w') (ho:∀ b∈O,b∈O'):C0 O' w w':=⟨h.os,h.tape,h.out,h.size,fun c hc hn=>h.frame c hc (fun hO=>hn (ho c hO))⟩
theorem C0.trans {O O':List Nat} {w' w'':World} (h:C0 O w w') (h':C0 O' w' w'') (ho:∀ b∈O',b∈O∨w.heap.size≤b):C0 O w w'' :=
 ⟨h'.os.trans h.os,h'.tape.trans h.tape,h'.out.trans h.out,Nat.le_trans h.size h'.size,fun c hc hn=>(h'.frame c (Nat.lt_of_lt_of_le hc h.size) (fun hO=>by rcases ho c hO with h1|h1; exact hn h1; omega)).trans (h.frame c hc hn)⟩

theorem HS.add (h:HS B S ι hp w) {d:Nat} {e:f7} {ι':Ix} {O:List Nat} (hd:look d hp=none) (hs:∀ i,i≠d→C7 ι ι' i) (hob:OB w.heap S ι' d e) (hb:∀ b∈l6 ι' d e,b∈O) (hF:C5 B S ι hp w O) :
  HS B S ι' (Ex.put d e hp) w:=by
 refine ⟨h.os,h.tape,h.out,h.size,h.frame,h.slt,h.s0,h.s1,?_,?_,?_,?_⟩
 ·intro i e' h1
  rw [p7] at h1
  by_cases e1:i=d
  ·subst e1; rw [if_pos rfl] at h1; cases h1; exact hob
  ·rw [if_neg e1] at h1; exact (hs i e1).ob.2 (h.ob i e' h1)
 ·intro i e' h1 b hb'
  rw [p7] at h1
  by_cases e1:i=d
  ·subst e1; rw [if_pos rfl] at h1; cases h1
   obtain ⟨k1,k2,k3,_⟩:=hF.2 b (hb b hb')
   exact ⟨k1,k2,k3⟩
  ·rw [if_neg e1] at h1
   rw [(hs i e1).l6] at hb'
   exact h.bl i e' h1 b hb'
 ·intro i j ei ej h1 h2 hij b hb'
  rw [p7] at h1 h2
  by_cases e1:i=d
  ·subst e1
   rw [if_neg (Ne.symm hij)] at h2
   rw [if_pos rfl] at h1; cases h1
   rw [(hs j (Ne.symm hij)).l6]
   exact (hF.2 b (hb b hb')).2.2.2 j ej h2
  ·rw [if_neg e1] at h1
   rw [(hs i e1).l6] at hb'
   by_cases e2:j=d
   ·subst e2
    rw [if_pos rfl] at h2; cases h2
    exact fun hbb=>(hF.2 b (hb b hbb)).2.2.2 i ei h1 hb'
   ·rw [if_neg e2] at h2
    rw [(hs j e2).l6]
    exact h.dj i j ei ej h1 h2 hij b hb'
 ·intro q hq
  obtain ⟨k0,⟨e',k1⟩,k2,k3⟩:=h.pin q hq
  have hne:q.1≠d:=by rintro e1; rw [e1,hd] at k1; cases k1
  exact ⟨k0,⟨e',by rw [p7,if_neg hne]; exact k1⟩,by rw [(hs _ hne).1]; exact k2,by rw [(hs _ hne).2.1]; exact k3⟩

theorem a4a {d:Nat} (h:s.fresh d=true):look d s.hp=none∧∀ m v,look m s.fr=some v→v.g8 d=false:=by
 simp only [St.fresh,Bool.and_eq_true,Option.isNone_iff_eq_none] at h
 exact ⟨h.1,fun m v hv=>a05 h.2 hv⟩

theorem VX.add {d:Nat} {e:f7} {ι':Ix} {H:Array Go.Obj} (hs:∀ i,i≠d→C7 ι ι' i) {v:AV} (hm:v.g8 d=false) {vs:List Value} (h:VX H S ι hp v vs):VX H S ι' (Ex.put d e hp) v vs:=by
 have hne:∀ i,v.g8 i=true→i≠d:=by rintro i hi rfl; rw [hm] at hi; cases hi
 exact VX.other (fun i hi=>by rw [p7,if_neg (hne i hi)]) (fun i hi=>hs i (hne i hi)) h

theorem RS.add (h:RS B S ι s a w) {d:Nat} {e:f7} {ι':Ix} {O:List Nat} (hd:s.fresh d=true) (hs:∀ i,i≠d→C7 ι ι' i) (hob:OB w.heap S ι' d e) (hb:∀ b∈l6 ι' d e,b∈O) (hF:C5 B S ι s.hp w O) :
  RS B S ι' (s.s6 d e) a w:=by
 obtain ⟨k1,k2⟩:=a4a hd
 exact ⟨h.hs.add k1 hs hob hb hF,h.dfr,h.sz,fun t v hv=>VX.add hs (k2 t v hv) (h.fr t v hv)⟩

/-! ### objects that go -/
theorem VX.dropped {i:Nat} {H:Array Go.Obj} {v:AV} {vs:List Value} (h:VX H S ι hp v vs):VX H S ι (del i hp) (v.drop i) vs:=by
 refine VX.map (fun _ _=>rfl) (fun _ h=>h) (fun u vs hu _ hv=>?_) h
 cases hm:u.g8 i with
 | true=>obtain ⟨x,rfl⟩:=VX.one hu hv; exact ⟨x,rfl⟩
 | false =>
  have hne:∀ j,u.g8 j=true→j≠i:=by rintro j hj rfl; rw [hm] at hj; cases hj
  exact VX.other (fun j hj=>by rw [I6,if_neg (hne j hj)]) (fun j _=>C7.refl ι j) hv

theorem HS.drop (h:HS B S ι hp w) {i:Nat} (hi:pinned i=false):HS B S ι (del i hp) w:=by
 have hl:∀ {j:Nat} {e:f7},look j (del i hp)=some e→look j hp=some e:=by
  intro j e hj
  rw [I6] at hj
  split at hj
  ·cases hj
  ·exact hj
 refine ⟨h.os,h.tape,h.out,h.size,h.frame,h.slt,h.s0,h.s1,fun j e hj=>h.ob j e (hl hj),fun j e hj=>h.bl j e (hl hj),fun j k ej ek hj hk=>h.dj j k ej ek (hl hj) (hl hk),fun q hq=>?_⟩
 obtain ⟨k0,⟨e',k1⟩,k2⟩:=h.pin q hq
 exact ⟨k0,⟨e',by rw [I6,if_neg (by rintro e1; rw [e1,hi] at k0; cases k0)]; exact k1⟩,k2⟩

theorem RS.drop (h:RS B S ι s a w) {i:Nat} (hi:pinned i=false):RS B S ι (s.drop i) a w:=by
 refine ⟨h.hs.drop hi,h.dfr,h.sz,?_⟩
 intro t v hv
 simp only [St.drop,H6,Option.map_eq_some_iff] at hv
 obtain ⟨v0,hv0,rfl⟩:=hv
 exact VX.dropped (h.fr t v0 hv0)

theorem RS.t6 {B:C6} {S:Nat→Prop} {ι:Ix} {a:Act} {w:World}:∀ {g:List Nat} {s:St},RS B S ι s a w→(g.all fun i=>!pinned i)=true→RS B S ι (St.t6 g s) a w
 | [],_,h,_=>h
 | i::g,s,h,hg=>by
  simp only [List.all_cons,Bool.and_eq_true,Bool.not_eq_true'] at hg
  exact RS.t6 (g:=g) (s:=s.drop i) (h.drop hg.1) hg.2

theorem H8:∀ {g:List Nat} {s:St} {j:Nat},look j (St.t6 g s).hp=if j∈g then none else look j s.hp
 | [],s,j=>by simp [St.t6]
 | i::g,s,j=>by
  simp only [St.t6,H8 (g:=g),St.drop,I6]
  by_cases e:j=i
  ·subst e; simp
  ·by_cases e2:j∈g<;>simp [e,e2]

theorem C5.t6 (h:HS B S ι s.hp w) {g:List Nat} {O:List Nat} (hn:O.Nodup) (hO:∀ b∈O,∃ i e,i∈g∧look i s.hp=some e∧b∈l6 ι i e):C5 B S ι (St.t6 g s).hp w O:=by
 refine ⟨hn,fun b hb=>?_⟩
 obtain ⟨i,e,hi,h1,h2⟩:=hO b hb
 obtain ⟨k1,k2,k3⟩:=h.bl i e h1 b h2
 refine ⟨k1,k2,k3,fun j ej hj hbj=>?_⟩
 rw [H8] at hj
 split at hj
 ·cases hj
 ·rename_i hjg
  exact h.dj i j e ej h1 hj (by rintro rfl; exact hjg hi) b h2 hbj

theorem C5.a5v {O:List Nat} (h:C5 B S ι s.hp w O) (g:List Nat):C5 B S ι (St.t6 g s).hp w O :=
 ⟨h.1,fun b hb=>⟨(h.2 b hb).1,(h.2 b hb).2.1,(h.2 b hb).2.2.1,fun i e hi=>by rw [H8] at hi; split at hi; cases hi; exact (h.2 b hb).2.2.2 i e hi⟩⟩

/-! ### new objects -/
theorem RS.alloc (h:RS B S ι s a w) {d:Nat} (hd:s.fresh d=true) {t:Ty} {x:t.den} {cs:List Value} {O:List Nat} (hR:f9 w.heap S t O cs x) (hF:C5 B S ι s.hp w O) (T:TypeId) :
  RS B S (ι.P4 d (w.heap.size,0) O) (s.s6 d (.var t x)) a (C2 w (.cells cs.toArray T)):=by
 have h1:=h.R6 C5.nil (C0.push (.cells cs.toArray T))
 have hF1:=hF.R6 (C0.push (w:=w) (.cells cs.toArray T))
 have hnew:(C2 w (.cells cs.toArray T)).heap[w.heap.size]?=some (.cells cs.toArray T):=a3w
 have hold:∀ {b},b<w.heap.size→(C2 w (.cells cs.toArray T)).heap[b]?=w.heap[b]?:=fun hb=>a3v hb
 refine h1.add hd (fun i hi=>a4n hi _ _) ?_ (O:=w.heap.size::O) ?_ ⟨List.nodup_cons.2 ⟨fun hm=>Nat.lt_irrefl _ (hF.2 _ hm).2.2.1,hF.1⟩,?_⟩
 ·refine ⟨⟨O,by simp [Ix.P4],?_⟩,⟨cs.toArray,T,⟨_,by simpa [Ix.P4] using hnew,.inl rfl⟩,by simp [Ix.P4,hR.length]⟩,?_⟩
  ·have e:f8 (C2 w (.cells cs.toArray T)).heap w.heap.size 0 t.size=cs:=by
    have hb:w7 (C2 w (.cells cs.toArray T)).heap w.heap.size=cs:=by simp only [w7,hnew]
    simp only [f8,hb,List.drop_zero]
    exact List.take_of_length_le (by rw [hR.length]; exact Nat.le_refl _)
   simp only [Ix.P4,if_pos]
   rw [e]
   exact hR.s7 (fun b hb=>hold (hb.elim (fun hb=>(hF.2 b hb).2.2.1) (h.hs.slt b))) (fun _ h=>h)
  ·simp only [Ix.P4,if_pos]
   exact List.nodup_cons.2 ⟨fun hm=>Nat.lt_irrefl _ (hF.2 _ hm).2.2.1,hF.1⟩
 ·intro b hb
  simpa [l6,Ix.P4] using hb
 ·intro b hb
  rcases List.mem_cons.1 hb with rfl|hb
  ·refine ⟨fun hS=>Nat.lt_irrefl _ (h.hs.slt _ hS),.inl h.hs.size,by simp [C2],fun i e hi hbi=>?_⟩
   exact Nat.lt_irrefl _ (h.hs.bl i e hi _ hbi).2.2
  ·exact hF1.2 b hb

theorem b0s {d:Nat} {t:Ty} {x:t.den} {w':World} {r:Nat×Nat} {o:List Nat} (hr:r.1<w'.heap.size):VX w'.heap S (ι.P4 d r o) (s.s6 d (.var t x)).hp (.ptr d []) [.pointer (some ⟨r.1,r.2,none⟩)]:=by
 refine ⟨.var t x,r.1,r.2,by simp [St.s6,p7],by cases t<;>trivial,a0b ?_ hr,rfl⟩
 simp only [Place,VR,VH,Ix.P4,if_pos,f7.ty]
 cases t<;>first|rfl|(rename_i o _; cases o<;>rfl)

theorem RS.hold (h:RS B S ι s a w) {d:Nat} (hd:s.fresh d=true) {t:Ty} {x:t.den} {O:List Nat} {cs:List Value} (hR:f9 w.heap S t O cs x) (hF:C5 B S ι s.hp w O):RS B S (ι.Q5 d cs O) (s.s6 d (.own t x)) a w:=by
 refine h.add hd (fun i hi=>a2n hi _ _) ⟨⟨O,by simp [Ix.Q5],by simpa [Ix.Q5] using hR⟩,by simpa [Ix.Q5] using hF.1⟩ (O:=O) ?_ hF
 intro b hb
 simpa [l6,Ix.Q5] using hb

theorem x9 {t:Ty} {x:t.den}:i6 t x []=some ⟨t,x⟩:=by
 cases t<;>first|rfl|(rename_i o _; cases o<;>rfl)
theorem L7 {t:Ty} {x:t.den}:w6 t x []:=by
 cases t<;>first|trivial|(rename_i o _; cases o<;>trivial)
theorem x8 {H:Array Go.Obj} {t:Ty} {b off:Nat}:x5 H t [] b off=some (b,off):=by
 cases t<;>first|rfl|(rename_i o _; cases o<;>rfl)

theorem a1t {H:Array Go.Obj} {d:Nat} {t:Ty} {x:t.den} {cs:List Value} (h:ι.cells d=cs) (hl:cs.length=t.size):Cells H ι d (.own t x) [] t cs:=by
 refine ⟨H.size,0,by simp only [Place,x8]; rfl,?_⟩
 simp only [VH,h,f8,Z9,List.drop_zero]
 exact (List.take_of_length_le (by omega)).symm

theorem O5 {H:Array Go.Obj} {d:Nat} {t:Ty} {x:t.den} {u:Ty} {cs:List Value} (h:Cells H ι d (.own t x) [] u cs) (hl:(ι.cells d).length=u.size):cs=ι.cells d:=by
 obtain ⟨b,off,h1,h2⟩:=h
 simp only [Place,x8,VR,Option.some.injEq,Prod.mk.injEq] at h1
 obtain ⟨rfl,rfl⟩:=h1
 rw [h2]
 simp only [VH,f8,Z9,List.drop_zero]
 exact List.take_of_length_le (by omega)

theorem a6P {H:Array Go.Obj} {d:Nat} {t:Ty} {x:t.den} {cs:List Value} {O:List Nat} (hl:cs.length=t.size):VX H S (ι.Q5 d cs O) (Ex.put d (.own t x) hp) (.at_ d []) [j8 t cs] :=
 ⟨.own t x,t,x,cs,by simp [p7],L7,x9,a1t (by simp [Ix.Q5]) hl,rfl⟩

theorem b5B (hE:A6 E B) (h:RS B S ι s a w) {o:Oper} {T:TypeId} (ho:o.op=.alloc T):C8 E.P B o a w (j9 E o s):=by
 unfold j9
 rw [ho]
 simp only
 split
 ·rename_i t d ht hd
  split
  ·rename_i hf
   have hz:=w5 hE ht
   have hR:f9 w.heap S t.ty [] (zc t.ty) t.ty.p8:=f9.p8 _
   intro next Q hn
   unfold Oper.wp
   have:(execOp a.eval o).run E.P w=.ok (.value (.pointer (some ⟨w.heap.size,0,none⟩))) (C2 w (.cells (zc t.ty).toArray T)):=by
    simp [execOp,ho,Instr.alloc,a1e hz,newVar,newRow,newObj,Sem.run,C2,hR.cells]
   rw [this]
   exact hn S _ _ _ (h.alloc hf hR C5.nil T) (b0s (by simp [C2]))
  ·trivial
 ·trivial

end
end Go.Ex

namespace Go.Ex

section
variable {E:Env} {B:C6} {S:Nat→Prop} {ι:Ix} {s:St} {a:Act} {w:World} {hp:List (Nat×f7)} {H H':Array Go.Obj}

def K3 (cur:List Value) (off:Nat) (cs:List Value):List Value:=cur.take off++cs++cur.drop (off+cs.length)

theorem a7M {cur cs:List Value} {off:Nat} (h:off+cs.length≤cur.length):(K3 cur off cs).length=cur.length:=by
 simp only [K3,List.length_append,List.length_take,List.length_drop]; omega

theorem b56 {cur cs:List Value} {off:Nat} (h:off+cs.length≤cur.length):((K3 cur off cs).drop off).take cs.length=cs:=by
 have e:(cur.take off).length=off:=by rw [List.length_take]; omega
 rw [K3,List.append_assoc,List.drop_left' e,List.take_left]

theorem b3e {cur cs:List Value} {off:Nat} (h:off+cs.length≤cur.length) {j:Nat} (hj:j<off∨off+cs.length≤j):(K3 cur off cs)[j]?=cur[j]?:=by
 have e:(cur.take off).length=off:=by rw [List.length_take]; omega
 rw [K3]
 rcases hj with hj|hj
 ·rw [List.append_assoc,List.getElem?_append_left (by omega),List.getElem?_take,if_pos hj]
 ·rw [List.getElem?_append_right (by simp only [List.length_append,e]; omega)]
  simp only [List.length_append,e,List.getElem?_drop]
  congr 1; omega

theorem setRow_other {g c:Nat} {cs:Array Value} (h:c≠g):(w.setRow g cs).heap[c]?=w.heap[c]?:=by
 simp only [World.setRow,Array.getElem?_modify,if_neg (Ne.symm h)]

theorem setRow_size {g:Nat} {cs:Array Value}:(w.setRow g cs).heap.size=w.heap.size:=by simp [World.setRow]

theorem a6g {b off:Nat} {cs:List Value} (hf:N1 w.heap b (off+cs.length)) :
  S5 w.heap (w.setRow b (K3 (w7 w.heap b) off cs).toArray).heap b off cs.length∧f8 (w.setRow b (K3 (w7 w.heap b) off cs).toArray).heap b off cs.length=cs:=by
 obtain ⟨arr,T,⟨fz,e,ef⟩,hn⟩:=hf
 have hb:w7 w.heap b=arr.toList:=by simp only [w7,e]
 have hl:off+cs.length≤arr.toList.length:=by simpa using hn
 have hnew:=setRow_heap w b arr (K3 (w7 w.heap b) off cs).toArray T fz e
 rw [hb] at hnew ⊢
 refine ⟨⟨⟨arr,_,T,⟨fz,⟨e,ef⟩,hnew⟩,?_,?_⟩,fun c hc _=>setRow_other hc⟩,?_⟩
 ·simp [a7M hl]
 ·intro j hj; exact b3e hl hj
 ·simp only [f8,w7,hnew]; exact b56 hl

theorem W7 {P:Program} (g o:Nat) (t:TypeId) (fz:Nat×Nat):∀ (vs:List Value) (i:Nat) (cur:Array Value) (w:World),Lie w.heap g cur t fz→o+i+vs.length≤cur.size→(∀ v∈vs,v.oneCell'=true) →
  (storeCells ⟨g,o,none⟩ vs i).run P w=.ok () (w.setRow g (cur.toList.take (o+i)++vs++cur.toList.drop (o+i+vs.length)).toArray)
 | [],i,cur,w,hg,_,_=>by
  simp only [storeCells,List.append_nil,List.length_nil,Nat.add_zero,List.take_append_drop,Array.toArray_toList]
  rw [setRow_self w g cur t fz hg.1]
  rfl
 | v::rest,i,cur,w,⟨hg,hz⟩,hl,h1=>by
  have hi:o+i<cur.size:=by simp at hl; omega
  have hadd:(⟨g,o,none⟩:Addr).add i=⟨g,o+i,none⟩:=by unfold Addr.add; split<;>simp_all
  have hcell:w.cell? ⟨g,o+i,none⟩=some cur[o+i]:=by simp [World.cell?,hg,hi]
  have hfro:w.frozen? ⟨g,o+i,none⟩=false:=by
   rcases hz with rfl|hz
   ·simp [World.frozen?,hg]
   ·obtain ⟨lo,hi'⟩:=fz
    have:¬ lo≤o+i:=by simp only at hz; omega
    simp [World.frozen?,hg,this]
  have hst:(store ((⟨g,o,none⟩:Addr).add i) v).run P w=.ok () (w.setRow g (cur.setIfInBounds (o+i) v)):=by
   rw [hadd,run_store P w _ v _ (h1 v (by simp)),hcell]
   simp [hfro,setCell_eq_setRow w g (o+i) cur t fz v hg]
  have ih:=W7 (P:=P) g o t fz rest (i+1) (cur.setIfInBounds (o+i) v) (w.setRow g (cur.setIfInBounds (o+i) v)) ⟨setRow_heap w g cur _ t _ hg,by simpa using hz⟩ (by simp at hl ⊢; omega) (fun x hx=>h1 x (by simp [hx]))
  simp only [storeCells,Sem.run_bind,hst,Result.andThen_ok,ih,setRow_setRow]
  congr 3
  have e:=list_seg_step cur.toList (o+i) v rest (by simp at hl ⊢; omega)
  simpa [Array.toList_setIfInBounds,Nat.add_assoc] using e

theorem a6m {P:Program} {n:Nat} {T:TypeId} {t u:Ty} (ht:o9 P n T t=true) (hu:u.sh=t.sh) {b off:Nat} (hf:N1 w.heap b (off+t.size)) {O:List Nat} {cs:List Value} {x:u.den} (hR:f9 H S u O cs x) :
  (storeVar T ⟨b,off,none⟩ (j8 u cs)).run P w=.ok () (w.setRow b (K3 (w7 w.heap b) off cs).toArray):=by
 obtain ⟨arr,T',⟨fz,e,ef⟩,hn⟩:=hf
 have hl:=hR.length
 have hs:=E4 hu
 have h1:(j8 u cs).cells=cs.toArray:=hR.cells
 have:=W7 (P:=P) b off T' fz cs 0 arr w ⟨e,ef⟩ (by omega) (fun v hv=>(hR.plain v hv).1)
 simp only [storeVar,Sem.run_bind,run_sizeOf ht,Result.andThen,h1]
 have hsz:cs.toArray.size=t.size:=by simp [hl,hs]
 simp only [hsz,ne_eq,not_true_eq_false,if_false]
 simp only [Nat.add_zero] at this
 have hb:w7 w.heap b=arr.toList:=by simp only [w7,e]
 rw [hb,K3]
 simpa [Sem.run] using this

theorem c4D {cs:List Value} {b off n:Nat} (hc:S5 H H' b off n) (hsz:H'.size=H.size):S5 (gh H cs) (gh H' cs) b off n:=by
 obtain ⟨a1,a2,T,⟨fz,⟨k1,kf⟩,k2⟩,k3,k4⟩:=hc.at_
 have hlt:b<H.size:=(Array.getElem?_eq_some_iff.1 k1).1
 refine ⟨⟨a1,a2,T,⟨fz,⟨(a4O hlt).trans k1,kf⟩,(a4O (by omega)).trans k2⟩,k3,k4⟩,fun c hcb hcl=>?_⟩
 rw [a4N] at hcl
 by_cases h:c<H.size
 ·rw [a4O h,a4O (by omega)]; exact hc.rest c hcb h
 ·have:c=H.size:=by omega
  subst this
  rw [a9K,← hsz,a9K]

theorem a6V {i:Nat} {e:f7} {b off n:Nat} (hc:S5 H H' b off n) (hsz:H'.size=H.size):S5 (VH H ι i e) (VH H' ι i e) b off n:=by
 cases e<;>first|exact hc|exact c4D hc hsz

theorem b6z {i:Nat} {e:f7} (hsz:H'.size=H.size):VR H' ι i e=VR H ι i e:=by cases e<;>simp [VR,hsz]
theorem a2x {i:Nat} {e:f7}:H.size≤(VH H ι i e).size:=by cases e<;>simp [VH,a4N]

theorem b81 {e:f7} {r:Sigma Ty.den} (he:e≠.J0):(e.B0 r).ty=r.1:=by cases e<;>first|rfl|exact absurd rfl he
theorem b5M {e:f7} {r:Sigma Ty.den} (he:e≠.J0):e.B0 r≠.J0:=by cases e<;>first|exact absurd rfl he|(intro h; cases h)
theorem b4h {i:Nat} {e:f7} {r:Sigma Ty.den} {ι':Ix} (h:ι'.cells i=ι.cells i):VH H ι' i (e.B0 r)=VH H ι i e:=by cases e<;>simp [VH,f7.B0,h]
theorem c0l {i:Nat} {e:f7} {r:Sigma Ty.den} {ι':Ix} (h:ι'.root i=ι.root i):VR H ι' i (e.B0 r)=VR H ι i e:=by cases e<;>simp [VR,f7.B0,h]

theorem OB.B0 {i:Nat} {e:f7} (he:e≠.J0) (ho:OB H S ι i e) (hbl:∀ c∈l6 ι i e,¬ S c∧c<H.size) (hS:∀ c,S c→c<H.size) {p:List Step} (hok:w6 e.ty e.x p) {u:Ty} {y:u.den} (hg:i6 e.ty e.x p=some ⟨u,y⟩)
  {b off:Nat} (hl:Loc H ι i e p=some (b,off)) {u':Ty} {z:u'.den} {O2:List Nat} (hc:S5 H H' b off u.size) (hsz:H'.size=H.size) (hz:f9 H' S u' O2 (f8 H' b off u'.size) z)
  (hO2:∀ c∈O2,c<H.size∧(c∈l6 ι i e→∃ Op,f9 H S u Op (f8 H b off u.size) y∧c∈Op)) (hnd2:O2.Nodup) {r:Sigma Ty.den} (hset:l8 e.ty e.x p u' z=some r) :
  ∃ O,(∀ c∈O,c∈ι.own i∨c∈O2)∧OB H' S (ι.B1 i O) i (e.B0 r)∧r.1.sh=e.ty.sh∧∀ c∈O,c∈O2∨∀ Op,f9 H S u Op (f8 H b off u.size) y→c∉Op:=by
 obtain ⟨O,hO,hR,hb,hnd,hlt,hns,hfr⟩:=ho.see he hS
 obtain ⟨O1,O3,b',off',e1,e2,e3,e4,e5,e6⟩:=focus hR hb hok hg
 obtain ⟨hpl,hbl2⟩:=A7 hl
 rw [G0 he] at hpl
 rw [e3] at hpl; cases hpl
 have hndO:(O1++O3).Nodup:=(e1.nodup_iff).1 ((hO.nodup_iff).2 (List.nodup_cons.1 hnd).2)
 have hmem:∀ c∈O1,c∈ι.own i:=fun c hc=>hO.mem_iff.1 (e1.mem_iff.2 (by simp [hc]))
 have hmem3:∀ c∈O3,c∈ι.own i:=fun c hc=>hO.mem_iff.1 (e1.mem_iff.2 (by simp [hc]))
 have hroot:=(List.nodup_cons.1 hnd).1
 have hown:∀ c∈ι.own i,c∈l6 ι i e:=by intro c hc; cases e<;>simp [l6,hc]
 have hrootS:¬ S (VR H ι i e).1:=by
  rcases hns with h|⟨t,x,rfl⟩
  ·exact h
  ·exact (hbl _ (by simp [l6,VR])).1
 have hz':f9 (VH H' ι i e) S u' O2 (f8 (VH H' ι i e) b off u'.size) z:=by
  rw [l5 (G6 (by omega))]
  exact (Y3 (fun c hc=>by have:=(hO2 c hc).1; omega) (fun c hc=>by have:=hS c hc; omega)).2 hz
 -- what is new is not in what stays
 have hO3:∀ c∈O2,c∈l6 ι i e→c∈O3:=by
  intro c hc hcb
  obtain ⟨Op,h1,h2⟩:=(hO2 c hc).2 hcb
  have e4':f9 H S u O3 (f8 H b off u.size) y:=by
   rw [l5 (G6 hbl2)] at e4
   exact (Y3 (fun c hc=>ho.O8 he (hmem3 c hc)) hS).1 e4
  rwa [h1.det e4'] at h2
 obtain ⟨O4,f1,f2,f3⟩:=a7f e2 hg e3 hb hlt (List.nodup_append.1 hndO).1 (fun h=>hroot (hmem _ h)) (fun c hc=>⟨(hbl c (hown c (hmem c hc))).1,Nat.lt_of_lt_of_le (hbl c (hown c (hmem c hc))).2 a2x⟩) hrootS
  (fun c hc=>Nat.lt_of_lt_of_le (hS c hc) a2x) (fun _ h=>h) (a6V hc hsz) hz' hset
 have hnd4:O4.Nodup:=(f1.nodup_iff).2 (List.nodup_append.2 ⟨(List.nodup_append.1 hndO).1,hnd2,by
  rintro c h1 d h2 rfl
  exact (List.nodup_append.1 hndO).2.2 c h1 c (hO3 c h2 (hown c (hmem c h1))) rfl⟩)
 have hsub:∀ c∈O4,c∈ι.own i∨c∈O2:=by
  intro c hc
  rcases List.mem_append.1 (f1.mem_iff.1 hc) with h|h
  ·exact .inl (hmem c h)
  ·exact .inr h
 have hlt4:∀ c∈O4,c<H'.size:=by
  intro c hc
  rw [hsz]
  rcases hsub c hc with h|h
  ·exact ho.O8 he h
  ·exact (hO2 c h).1
 have f2':=(Y3 hlt4 (fun c hc=>by have:=hS c hc; omega)).1 f2
 have hnot:∀ c∈O4,c∈O2∨∀ Op,f9 H S u Op (f8 H b off u.size) y→c∉Op:=by
  intro c hc
  rcases List.mem_append.1 (f1.mem_iff.1 hc) with h|h
  ·refine .inr (fun Op hOp hcO=>?_)
   have e4':f9 H S u O3 (f8 H b off u.size) y:=by
    rw [l5 (G6 hbl2)] at e4
    exact (Y3 (fun c hc=>ho.O8 he (hmem3 c hc)) hS).1 e4
   obtain rfl:Op=O3:=hOp.det e4'
   exact (List.nodup_append.1 hndO).2.2 c h c hcO rfl
  ·exact .inl h
 refine ⟨O4,hsub,?_,f3,hnot⟩
 cases e with
 | var t x =>
  simp only [f7.B0,OB,Ix.B1,if_true]
  obtain ⟨_,hf,_⟩:=ho
  refine ⟨⟨O4,List.Perm.refl _,f2'⟩,?_,?_⟩
  ·rw [E4 f3]; exact hc.free hf
  ·refine List.nodup_cons.2 ⟨fun h=>?_,hnd4⟩
   rcases hsub _ h with h1|h1
   ·exact hroot h1
   ·exact hroot (hmem3 _ (hO3 _ h1 (List.mem_cons_self ..)))
 | own t x =>
  simp only [f7.B0,OB,Ix.B1,if_true]
  refine ⟨⟨O4,List.Perm.refl _,?_⟩,hnd4⟩
  obtain ⟨⟨O',_,hR'⟩,_⟩:=ho
  have hsz1:r.1.size=t.size:=E4 f3
  have:f8 (VH H' ι i (.own t x)) (VR H ι i (.own t x)).1 (VR H ι i (.own t x)).2 r.1.size=ι.cells i:=by
   simp only [VH,VR]
   rw [← hsz]
   simp only [f8,Z9,List.drop_zero]
   exact List.take_of_length_le (by rw [hR'.length,hsz1]; exact Nat.le_refl _)
  rw [this] at f2'
  exact f2'
 | J0=>exact absurd rfl he

theorem c2b {i:Nat} {e:f7} (he:e≠.J0) (ho:OB H S ι i e) (hbl:∀ c∈l6 ι i e,¬ S c∧c<H.size) (hS:∀ c,S c→c<H.size) {p:List Step} (hok:w6 e.ty e.x p) {u:Ty} {y:u.den} (hg:i6 e.ty e.x p=some ⟨u,y⟩)
  {b off:Nat} (hl:Loc H ι i e p=some (b,off)) {u':Ty} {z:u'.den} (hc:S5 H H' b off u.size) (hsz:H'.size=H.size) {r:Sigma Ty.den} (hset:l8 e.ty e.x p u' z=some r)
  {q:List Step} (hk:kp p q=true) (hq:w6 e.ty e.x q) (O:List Nat) {rr:Nat×Nat} (hr:Loc H ι i e q=some rr):Loc H' (ι.B1 i O) i (e.B0 r) q=some rr∧w6 (e.B0 r).ty (e.B0 r).x q:=by
 obtain ⟨O',hO,hR,hb,hnd,hlt,hns,hfr⟩:=ho.see he hS
 obtain ⟨O1,O3,b',off',e1,e2,e3,e4,e5,e6⟩:=focus hR hb hok hg
 obtain ⟨hpl,hbl2⟩:=A7 hl
 rw [G0 he] at hpl
 rw [e3] at hpl; cases hpl
 have hndO:(O1++O3).Nodup:=(e1.nodup_iff).1 ((hO.nodup_iff).2 (List.nodup_cons.1 hnd).2)
 have hmem:∀ c∈O1,c∈ι.own i:=fun c hc=>hO.mem_iff.1 (e1.mem_iff.2 (by simp [hc]))
 have key:=b3l e2 hg e3 hb hlt (List.nodup_append.1 hndO).1 (fun h=>(List.nodup_cons.1 hnd).1 (hmem _ h)) (fun c hc=>Nat.lt_of_lt_of_le (ho.O8 he (hmem c hc)) a2x) (a6V hc hsz) hset hk hq
 obtain ⟨hr1,hr2⟩:=A7 (b:=rr.1) (off:=rr.2) hr
 rw [G0 he] at hr1
 have hu:w6 (e.B0 r).ty (e.B0 r).x q:=by
  cases e<;>first|exact key.2|exact absurd rfl he
 refine ⟨a0b (b:=rr.1) (off:=rr.2) ?_ (by omega),hu⟩
 rw [G0 (b5M he),b4h (ι:=ι) (ι':=ι.B1 i O) rfl,c0l (ι:=ι) (ι':=ι.B1 i O) rfl,b6z hsz,b81 he,key.1]
 exact hr1

theorem b8T {i:Nat} {e:f7} (he:e≠.J0) (ho:OB H S ι i e) (hbl:∀ c∈l6 ι i e,¬ S c∧c<H.size) (hS:∀ c,S c→c<H.size) {p:List Step} (hok:w6 e.ty e.x p) {u:Ty} {y:u.den} (hg:i6 e.ty e.x p=some ⟨u,y⟩)
  {b off:Nat} (hl:Loc H ι i e p=some (b,off)) {u':Ty} {z:u'.den} (hc:S5 H H' b off u.size) (hsz:H'.size=H.size) {r:Sigma Ty.den} (hset:l8 e.ty e.x p u' z=some r)
  {q:List Step} (hk:kc e.ty p q=true) (hk2:kp p q=true) (hq:w6 e.ty e.x q) (O:List Nat) {u1:Ty} {y1:u1.den} (hg1:i6 e.ty e.x q=some ⟨u1,y1⟩) {cs:List Value} (hcs:Cells H ι i e q u1 cs) :
  w6 (e.B0 r).ty (e.B0 r).x q∧(∃ y2:u1.den,i6 (e.B0 r).ty (e.B0 r).x q=some ⟨u1,y2⟩)∧Cells H' (ι.B1 i O) i (e.B0 r) q u1 cs:=by
 obtain ⟨O',hO,hR,hb,hnd,hlt,hns,hfr⟩:=ho.see he hS
 obtain ⟨O1,O3,b',off',e1,e2,e3,e4,e5,e6⟩:=focus hR hb hok hg
 obtain ⟨hpl,hbl2⟩:=A7 hl
 rw [G0 he] at hpl
 rw [e3] at hpl; cases hpl
 have hndO:(O1++O3).Nodup:=(e1.nodup_iff).1 ((hO.nodup_iff).2 (List.nodup_cons.1 hnd).2)
 have hmem:∀ c∈O1,c∈ι.own i:=fun c hc=>hO.mem_iff.1 (e1.mem_iff.2 (by simp [hc]))
 have hnb:=fun h=>(List.nodup_cons.1 hnd).1 (hmem _ h)
 have hlo:∀ c∈O1,c<(VH H ι i e).size:=fun c hc=>Nat.lt_of_lt_of_le (ho.O8 he (hmem c hc)) a2x
 have key:=b3l e2 hg e3 hb hlt (List.nodup_append.1 hndO).1 hnb hlo (a6V hc hsz) hset hk2 hq
 obtain ⟨⟨y2,hy2⟩,key2⟩:=b76 e2 hg e3 hb hlt (List.nodup_append.1 hndO).1 hnb hlo (a6V hc hsz) hset hk hq hg1
 obtain ⟨b1,o1,hp1,hc1⟩:=hcs
 rw [G0 he] at hp1
 have hc2:=key2 b1 o1 hp1
 refine ⟨?_,⟨y2,?_⟩,b1,o1,?_,?_⟩
 ·cases e<;>first|exact key.2|exact absurd rfl he
 ·cases e<;>first|exact hy2|exact absurd rfl he
 ·rw [G0 (b5M he),b4h (ι:=ι) (ι':=ι.B1 i O) rfl,c0l (ι:=ι) (ι':=ι.B1 i O) rfl,b6z hsz,b81 he,key.1]
  exact hp1
 ·rw [b4h (ι:=ι) (ι':=ι.B1 i O) rfl,hc2]
  exact hc1

end
end Go.Ex

namespace Go.Ex

section
variable {E:Env} {B:C6} {S:Nat→Prop} {ι:Ix} {s:St} {a:Act} {w:World} {hp:List (Nat×f7)} {H H':Array Go.Obj}

theorem a38:∀ {t:Ty} {x:t.den} {p:List Step} {u:Ty} {y:u.den} {u':Ty} {z:u'.den} {r:Sigma Ty.den},i6 t x p=some ⟨u,y⟩→l8 t x p u' z=some r→u'.sh=u.sh:=by
 intro t
 induction t with
 | pair a c iha ihc =>
  intro x p u y u' z r hg hs
  match p,hg,hs with
  | [],hg,hs =>
   simp only [i6,Option.some.injEq] at hg; cases hg
   simp only [l8] at hs
   split at hs
   ·rename_i e; exact e
   ·cases hs
  | .j6 0::p,hg,hs =>
   simp only [l8] at hs
   split at hs
   ·rename_i t' w hw; exact iha hg hw
   ·cases hs
  | .j6 (n+1)::p,hg,hs =>
   simp only [l8] at hs
   split at hs
   ·rename_i t' w hw; exact ihc hg hw
   ·cases hs
  | .idx i::p,_,hs=>simp [l8] at hs
 | arr n t ih =>
  intro x p u y u' z r hg hs
  match p,hg,hs with
  | [],hg,hs =>
   simp only [i6,Option.some.injEq] at hg; cases hg
   simp only [l8] at hs
   split at hs
   ·rename_i e; exact e
   ·cases hs
  | .idx i::p,hg,hs =>
   simp only [l8] at hs
   split at hs
   ·rename_i t' w hw; exact ih hg hw
   ·cases hs
  | .j6 i::p,_,hs=>simp [l8] at hs
 | d0 o t ih =>
  intro x p u y u' z r hg hs
  match p,hg,hs with
  | [],hg,hs =>
   have hg:some (⟨.d0 o t,x⟩:Sigma Ty.den)=some ⟨u,y⟩:=by cases o<;>exact hg
   cases hg
   have hs:(if u'.sh=(Ty.d0 o t).sh then some (⟨u',z⟩:Sigma Ty.den) else none)=some r:=by cases o<;>exact hs
   split at hs
   ·rename_i e; exact e
   ·cases hs
  | .idx i::p,hg,hs =>
   cases o with
   | false=>simp [l8] at hs
   | true =>
    simp only [l8] at hs
    split at hs
    ·rename_i t' w hw; exact ih hg hw
    ·cases hs
  | .j6 i::p,_,hs=>cases o<;>simp [l8] at hs
 | _ =>
  intro x p u y u' z r hg hs
  match p,hg,hs with
  | [],hg,hs =>
   simp only [i6,Option.some.injEq] at hg; cases hg
   simp only [l8] at hs
   split at hs
   ·rename_i e; exact e
   ·cases hs
  | .idx i::p,_,hs=>simp [l8] at hs
  | .j6 i::p,_,hs=>simp [l8] at hs


theorem RS.b9e (h:RS B S ι s a w) {i:Nat} {e:f7} (he:look i s.hp=some e) {p:List Step} (hok:w6 e.ty e.x p) {u:Ty} {y:u.den} (hg:i6 e.ty e.x p=some ⟨u,y⟩) {b off:Nat} (hl:Loc w.heap ι i e p=some (b,off))
  {u':Ty} {z:u'.den} {cs:List Value} {O2:List Nat} (hz:∀ H',H'.size=w.heap.size→S5 w.heap H' b off u.size→f9 H' S u' O2 cs z) (hcs:cs.length=u.size) (hnd2:O2.Nodup)
  (hO2:∀ c∈O2,(¬ S c∧(B.w0.heap.size≤c∨B.M c)∧c<w.heap.size)∧(∀ j ej,j≠i→look j s.hp=some ej→c∉l6 ι j ej)∧(c∈l6 ι i e→∃ Op,f9 w.heap S u Op (f8 w.heap b off u.size) y∧c∈Op))
  {r:Sigma Ty.den} (hset:l8 e.ty e.x p u' z=some r) (hty:e.Z1=true→p≠[]→r.1=e.ty) :
  ∃ ι',(∃ O,ι'=ι.B1 i O∧∀ c∈O,(c∈ι.own i∨c∈O2)∧(c∈O2∨∀ Op,f9 w.heap S u Op (f8 w.heap b off u.size) y→c∉Op))∧RS B S ι' ((s.kill i e.kd p).s6 i (e.B0 r)) a (w.setRow b (K3 (w7 w.heap b) off cs).toArray):=by
 have hnb:=K1 hl
 obtain ⟨Op,m1,mn,m2,m3,m4,m5⟩:=M9 hnb (h.hs.ob i e he) h.hs.slt hok hg hl
 have hf:N1 w.heap b (off+cs.length):=by rw [hcs]; exact m5
 obtain ⟨hc,hcell⟩:=a6g hf
 rw [hcs] at hc hcell
 have hsz:(w.setRow b (K3 (w7 w.heap b) off cs).toArray).heap.size=w.heap.size:=setRow_size
 generalize hw':w.setRow b (K3 (w7 w.heap b) off cs).toArray=w' at *
 have hbl:=h.hs.bl i e he
 have hbl':∀ c∈l6 ι i e,¬ S c∧c<w.heap.size:=fun c hc=>⟨(hbl c hc).1,(hbl c hc).2.2⟩
 have hnS:¬ S b:=(hbl b m4).1
 have hold:∀ c,c≠b→w'.heap[c]?=w.heap[c]?:=by intro c hcb; rw [← hw']; exact setRow_other hcb
 have husz:u'.size=u.size:=E4 (a38 hg hset)
 have hz':f9 w'.heap S u' O2 (f8 w'.heap b off u'.size) z:=by
  rw [husz,hcell]
  exact hz w'.heap hsz hc
 obtain ⟨O,n1,n2,n3,n4⟩:=OB.B0 hnb (h.hs.ob i e he) hbl' h.hs.slt hok hg hl hc hsz hz' (fun c hc=>⟨(hO2 c hc).1.2.2,(hO2 c hc).2.2⟩) hnd2 hset
 have hown:∀ c∈ι.own i,c∈l6 ι i e:=by intro c hc; cases e<;>simp [l6,hc]
 -- blocks of the object now
 have hblks:∀ c∈l6 (ι.B1 i O) i (e.B0 r),c∈l6 ι i e∨c∈O2:=by
  intro c hc
  cases e with
  | var t x =>
   simp only [l6,f7.B0,Ix.B1,if_true,List.mem_cons] at hc ⊢
   rcases hc with hc|hc
   ·exact .inl (.inl hc)
   ·exact (n1 c hc).imp .inr id
  | own t x =>
   simp only [l6,f7.B0,Ix.B1,if_true] at hc ⊢
   exact n1 c hc
  | J0=>exact absurd rfl hnb
 have hfact:∀ c∈l6 (ι.B1 i O) i (e.B0 r),(¬ S c∧(B.w0.heap.size≤c∨B.M c)∧c<w.heap.size)∧∀ j ej,j≠i→look j s.hp=some ej→c∉l6 ι j ej:=by
  intro c hc
  rcases hblks c hc with h1|h1
  ·exact ⟨hbl c h1,fun j ej hj hlj=>h.hs.dj i j e ej he hlj (Ne.symm hj) c h1⟩
  ·exact ⟨(hO2 c h1).1,(hO2 c h1).2.1⟩
 have hsame:∀ j,j≠i→C7 ι (ι.B1 i O) j:=fun j hj=>a0d hj _
 refine ⟨ι.B1 i O,⟨O,rfl,fun c hc=>⟨n1 c hc,n4 c hc⟩⟩,⟨?_,?_,?_,?_,?_,?_,h.hs.s0,h.hs.s1,?_,?_,?_,?_⟩,h.dfr,h.sz,?_⟩
 ·rw [← hw']; exact h.hs.os
 ·exact T9.trans (.of (by rw [← hw']; rfl) (by rw [← hw']; rfl)) h.hs.tape
 ·rw [← hw']; exact h.hs.out
 ·rw [hsz]; exact h.hs.size
 ·intro c hc1 hm
  rw [hold c (by rintro rfl; rcases (hbl c m4).2.1 with h|h; omega; exact hm h)]
  exact h.hs.frame c hc1 hm
 ·intro c hc1; rw [hsz]; exact h.hs.slt c hc1
 ·intro j ej hj
  simp only [St.s6,p7] at hj
  by_cases e1:j=i
  ·subst e1; rw [if_pos rfl] at hj; cases hj; exact n2
  ·rw [if_neg e1] at hj
   have hj:look j s.hp=some ej:=hj
   refine (hsame j e1).ob.2 ((h.hs.ob j ej hj).s7 (fun c hcm=>hold c ?_) (fun _ h=>h))
   rintro rfl
   rcases hcm with hcm|hcm
   ·exact h.hs.dj j i ej e hj he e1 c hcm m4
   ·exact hnS hcm
 ·intro j ej hj c hc
  simp only [St.s6,p7] at hj
  rw [hsz]
  by_cases e1:j=i
  ·subst e1; rw [if_pos rfl] at hj; cases hj; exact (hfact c hc).1
  ·rw [if_neg e1] at hj
   rw [(hsame j e1).l6] at hc
   exact h.hs.bl j ej hj c hc
 ·intro j k ej ek hj hk hjk c hc
  simp only [St.s6,p7] at hj hk
  by_cases e1:j=i
  ·subst e1
   rw [if_pos rfl] at hj; cases hj
   rw [if_neg (Ne.symm hjk)] at hk
   rw [(hsame k (Ne.symm hjk)).l6]
   exact (hfact c hc).2 k ek (Ne.symm hjk) hk
  ·rw [if_neg e1] at hj
   rw [(hsame j e1).l6] at hc
   by_cases e2:k=i
   ·subst e2
    rw [if_pos rfl] at hk; cases hk
    exact fun hcc=>(hfact c hcc).2 j ej e1 hj hc
   ·rw [if_neg e2] at hk
    rw [(hsame k e2).l6]
    exact h.hs.dj j k ej ek hj hk hjk c hc
 ·intro q hq
  obtain ⟨k0,⟨e',k1⟩,k2,k3⟩:=h.hs.pin q hq
  refine ⟨k0,?_,k2,k3⟩
  simp only [St.s6,p7]
  by_cases e1:q.1=i
  ·exact ⟨_,by rw [if_pos e1]⟩
  ·exact ⟨e',by rw [if_neg e1]; exact k1⟩
 ·intro t v hv
  simp only [St.s6,St.kill,H6,Option.map_eq_some_iff] at hv
  obtain ⟨v0,hv0,rfl⟩:=hv
  refine VX.map (fun c hc=>hold c (fun e=>hnS (e▸hc))) (fun _ h=>h) (fun v vs hr hm hvx=>?_) (h.fr t v0 hv0)
  unfold AV.a0O
  cases hmi:v.g8 i with
  | false =>
   -- speaks of others
   have hne:∀ j,v.g8 j=true→j≠i:=by rintro j hj rfl; rw [hmi] at hj; cases hj
   have hst:VX w'.heap S ι (del i s.hp) v vs:=by
    refine VX.grow (fun c hcm=>hold c ?_) (fun _ h=>h) h.hs.slt (fun j ej hj=>?_) (VX.other (hp':=del i s.hp) (fun j hj=>by rw [I6,if_neg (hne j hj)]) (fun j _=>C7.refl ι j) hvx)
    ·rintro rfl
     rcases hcm with ⟨j,ej,hj,hcj⟩|hcm
     ·rw [I6] at hj
      split at hj
      ·cases hj
      ·rename_i hji
       exact h.hs.dj j i ej e hj he hji c hcj m4
     ·exact hnS hcm
    ·rw [I6] at hj
     split at hj
     ·cases hj
     ·exact h.hs.ob j ej hj
   exact VX.other (fun j hj=>by simp only [St.s6,p7,I6,if_neg (hne j hj)]; rfl) (fun j hj=>hsame j (hne j hj)) hst
  | true =>
   have hany:∀ {vs:List Value},(∃ x,vs=[x])→VX w'.heap S (ι.B1 i O) ((s.kill i e.kd p).s6 i (e.B0 r)).hp .any vs:=fun h=>h
   have honex:=VX.one hr hvx
   simp only
   cases v<;>simp only [AV.ref] at hr<;>try cases hr
   ·rename_i j q
    have hji:i=j:=Nat.eq_of_beq_eq_true hmi
    subst hji
    cases hkp:kp p q with
    | false=>simp only [hkp]; exact honex
    | true =>
     simp only [hkp]
     obtain ⟨ej,b2,off2,k1,k2,k3,k4⟩:=hvx
     rw [he] at k1; cases k1
     obtain ⟨l1,l2⟩:=c2b hnb (h.hs.ob i e he) hbl' h.hs.slt hok hg hl hc hsz hset hkp k2 O k3
     exact ⟨e.B0 r,b2,off2,by simp [St.s6,p7],l2,l1,k4⟩
   ·rename_i j q
    have hji:i=j:=Nat.eq_of_beq_eq_true hmi
    subst hji
    have hkeep:kc e.ty p q=true→kp p q=true→VX w'.heap S (ι.B1 i O) ((s.kill i e.kd p).s6 i (e.B0 r)).hp (.at_ i q) vs:=by
     intro hk1 hk2
     obtain ⟨ej,u2,y2,cs2,k1,k2,k3,k4,k5⟩:=hvx
     rw [he] at k1; cases k1
     obtain ⟨l1,⟨y3,l2⟩,l3⟩:=b8T hnb (h.hs.ob i e he) hbl' h.hs.slt hok hg hl hc hsz hset hk1 hk2 k2 O k3 k4
     exact ⟨e.B0 r,u2,y3,cs2,by simp [St.s6,p7],l1,l2,l3,k5⟩
    cases q with
    | cons st q =>
     cases hkc:kc e.kd.2 p (st::q) && kp p (st::q) with
     | false=>simp only [hkc]; exact honex
     | true =>
      simp only [hkc]
      rw [Bool.and_eq_true] at hkc
      exact hkeep hkc.1 hkc.2
    | nil =>
     have hdef:VX w'.heap S (ι.B1 i O) ((s.kill i e.kd p).s6 i (e.B0 r)).hp (match kc e.kd.2 p [] with|true=>AV.at_ i []|false=>AV.any) vs:=by
      cases hkc:kc e.kd.2 p [] with
      | false=>exact honex
      | true=>exact hkeep hkc (by cases p<;>rfl)
     rcases hpq:p with _|⟨_|jx,pq⟩<;>cases how:e.Z1<;>simp only [f7.kd,how]<;>first|(rw [hpq] at hdef; exact hdef)|skip
     ·obtain ⟨ej,u2,y2,cs2,k1,k2,k3,k4,k5⟩:=hvx
      rw [he] at k1; cases k1
      have hrt:=hty how (by rw [hpq]; simp)
      rw [x9] at k3; cases k3
      obtain ⟨t0,x0,rfl⟩:∃ t0 x0,e=.own t0 x0:=by cases e<;>first|exact ⟨_,_,rfl⟩|(simp [f7.Z1] at how)
      obtain ⟨⟨O',_,hR'⟩,_⟩:=h.hs.ob i _ he
      have hcs2:=O5 k4 hR'.length
      have hrt:r.1=t0:=hrt
      refine ⟨.own r.1 r.2,r.1,r.2,cs2,by simp [St.s6,p7,f7.B0],L7,x9,a1t (by rw [hcs2]; rfl) (by rw [hcs2,hR'.length,hrt]),?_⟩
      rw [k5]
      simp only [f7.ty,hrt]
   ·rename_i j q lo hi
    have hji:i=j:=Nat.eq_of_beq_eq_true hmi
    subst hji
    cases q with
    | cons st q=>exact honex
    | nil =>
     rcases hpq:p with _|⟨_|jx,pq⟩<;>cases how:e.Z1<;>simp only [f7.kd,how]<;>first|exact honex|skip
     ·obtain ⟨ej,v2,k1,k2,k3,k4,k5,k6⟩:=hvx
      rw [he] at k1; cases k1
      have hrt:=hty how (by rw [hpq]; simp)
      obtain ⟨t0,x0,rfl⟩:∃ t0 x0,e=.own t0 x0:=by cases e<;>first|exact ⟨_,_,rfl⟩|(simp [f7.Z1] at how)
      obtain ⟨⟨O',_,hR'⟩,_⟩:=h.hs.ob i _ he
      have hrt:r.1=t0:=hrt
      rcases k6 with ⟨t',l,a',cap,g1,g2,g3,g4⟩|⟨n,t',l,b2,off2,g1,g2,g3,g4⟩
      ·rw [x9] at g1; cases g1
       obtain ⟨rt,rx⟩:=r
       have hrt:rt=.d0 true t':=hrt
       subst hrt
       have hcs2:=O5 g3 hR'.length
       -- the length stands, as the header does
       have hlen:List.length (rx:(Ty.d0 true t').den)=List.length (x0:(Ty.d0 true t').den):=by
        obtain ⟨⟨O'',_,hR''⟩,_⟩:=n2
        have hcc:(ι.B1 i O).cells i=[.slice a' (List.length (x0:(Ty.d0 true t').den)) cap]:=(show ι.cells i=_ from hcs2.symm)
        rw [hcc] at hR''
        rcases hR'' with ⟨_,⟨a2,c2,h1,_⟩,h3⟩|⟨b3,o3,cap3,O3,c1,_⟩
        ·simp only [List.cons.injEq,Value.slice.injEq,and_true] at h1
         subst h3
         simp [h1.2.1]
        ·simp only [List.cons.injEq,Value.slice.injEq,and_true] at c1
         exact c1.2.1.symm
       refine ⟨.own (.d0 true t') rx,v2,by simp [St.s6,p7,f7.B0],L7,k3,k4,k5,.inl ⟨t',rx,a',cap,x9,by rw [hlen]; exact g2,?_,g4⟩⟩
       rw [hlen]
       exact a1t (show ι.cells i=_ from hcs2.symm) rfl
      ·exfalso
       simp only [Loc,Place,x8,VR] at g3
       simp at g3

theorem RS.store (h:RS B S ι s a w) {i:Nat} {e:f7} (he:look i s.hp=some e) {p:List Step} (hok:w6 e.ty e.x p) {u:Ty} {y:u.den} (hg:i6 e.ty e.x p=some ⟨u,y⟩) {b off:Nat} (hl:Loc w.heap ι i e p=some (b,off))
  {u':Ty} {z:u'.den} {cs:List Value} {O2:List Nat} (hz:∀ H',H'.size=w.heap.size→S5 w.heap H' b off u.size→f9 H' S u' O2 cs z) (hcs:cs.length=u.size) (hnd2:O2.Nodup)
  (hO2:∀ c∈O2,(¬ S c∧(B.w0.heap.size≤c∨B.M c)∧c<w.heap.size)∧(∀ j ej,j≠i→look j s.hp=some ej→c∉l6 ι j ej)∧(c∈l6 ι i e→∃ Op,f9 w.heap S u Op (f8 w.heap b off u.size) y∧c∈Op))
  {r:Sigma Ty.den} (hset:l8 e.ty e.x p u' z=some r) (hty:e.Z1=true→p≠[]→r.1=e.ty) :
  ∃ ι',RS B S ι' ((s.kill i e.kd p).s6 i (e.B0 r)) a (w.setRow b (K3 (w7 w.heap b) off cs).toArray):=by
 obtain ⟨ι',_,h1⟩:=h.b9e he hok hg hl hz hcs hnd2 hO2 hset hty
 exact ⟨ι',h1⟩

end
end Go.Ex

namespace Go.Ex

section
variable {E:Env} {B:C6} {S:Nat→Prop} {ι:Ix} {s:St} {a:Act} {w:World} {hp:List (Nat×f7)} {H H':Array Go.Obj}

/-! ways that go on -/
theorem b8t:∀ {t:Ty} {x:t.den} {p q:List Step} {b off:Nat} {u:Ty} {y:u.den},i6 t x p=some ⟨u,y⟩→x5 H t (p++q) b off=(x5 H t p b off).bind fun r=>x5 H u q r.1 r.2:=by
 intro t
 induction t with
 | pair a c iha ihc =>
  intro x p q b off u y h
  match p,h with
  | [],h=>simp only [i6,Option.some.injEq] at h; cases h; rfl
  | .j6 0::p,h=>exact iha h
  | .j6 (n+1)::p,h=>exact ihc h
  | .idx i::p,h=>simp [i6] at h
 | arr n t ih =>
  intro x p q b off u y h
  match p,h with
  | [],h=>simp only [i6,Option.some.injEq] at h; cases h; rfl
  | .idx i::p,h=>exact ih h
  | .j6 i::p,h=>simp [i6] at h
 | d0 o t ih =>
  intro x p q b off u y h
  match p,h with
  | [],h =>
   have h:some (⟨.d0 o t,x⟩:Sigma Ty.den)=some ⟨u,y⟩:=by cases o<;>exact h
   cases h
   have:x5 H (.d0 o t) [] b off=some (b,off):=by cases o<;>rfl
   rw [this]; rfl
  | .idx i::p,h =>
   cases o with
   | false=>simp [i6] at h
   | true =>
    simp only [List.cons_append,x5]
    split
    ·exact ih h
    ·rfl
  | .j6 i::p,h=>cases o<;>simp [i6] at h
 | _ =>
  intro x p q b off u y h
  match p,h with
  | [],h=>simp only [i6,Option.some.injEq] at h; cases h; rfl
  | .idx i::p,h=>simp [i6] at h
  | .j6 i::p,h=>simp [i6] at h

theorem R9:∀ {t:Ty} {x:t.den} {p q:List Step} {u:Ty} {y:u.den},i6 t x p=some ⟨u,y⟩→w6 t x p→w6 u y q→w6 t x (p++q):=by
 intro t
 induction t with
 | pair a c iha ihc =>
  intro x p q u y h h1 h2
  match p,h,h1 with
  | [],h,_=>simp only [i6,Option.some.injEq] at h; cases h; exact h2
  | .j6 0::p,h,h1=>exact iha h h1 h2
  | .j6 (n+1)::p,h,h1=>exact ihc h h1 h2
  | .idx i::p,h,_=>simp [i6] at h
 | arr n t ih =>
  intro x p q u y h h1 h2
  match p,h,h1 with
  | [],h,_=>simp only [i6,Option.some.injEq] at h; cases h; exact h2
  | .idx i::p,h,h1=>exact ⟨h1.1,ih h h1.2 h2⟩
  | .j6 i::p,h,_=>simp [i6] at h
 | d0 o t ih =>
  intro x p q u y h h1 h2
  match p,h,h1 with
  | [],h,_ =>
   have h:some (⟨.d0 o t,x⟩:Sigma Ty.den)=some ⟨u,y⟩:=by cases o<;>exact h
   cases h; exact h2
  | .idx i::p,h,h1 =>
   cases o with
   | false=>simp [i6] at h
   | true=>exact ⟨h1.1,ih h h1.2 h2⟩
  | .j6 i::p,h,_=>cases o<;>simp [i6] at h
 | _ =>
  intro x p q u y h h1 h2
  match p,h,h1 with
  | [],h,_=>simp only [i6,Option.some.injEq] at h; cases h; exact h2
  | .idx i::p,h,_=>simp [i6] at h
  | .j6 i::p,h,_=>simp [i6] at h

theorem Y4 {i:Nat} {e:f7} {p q:List Step} {u:Ty} {y:u.den} (hg:i6 e.ty e.x p=some ⟨u,y⟩) {b off:Nat} (hl:Place H ι i e p=some (b,off)) {r:Nat×Nat} (hn:x5 (VH H ι i e) u q b off=some r) :
  Place H ι i e (p++q)=some r:=by
 have he:=a6X hl
 rw [G0 he] at hl ⊢
 rw [b8t hg,hl]; exact hn

theorem a1Y {i:Nat} {e:f7} {p q:List Step} {u:Ty} {y:u.den} (hg:i6 e.ty e.x p=some ⟨u,y⟩) {b off:Nat} (hl:Loc H ι i e p=some (b,off)) {off':Nat} (hn:∀ G:Array Go.Obj,x5 G u q b off=some (b,off')) :
  Loc H ι i e (p++q)=some (b,off'):=by
 obtain ⟨h1,h2⟩:=A7 hl
 exact a0b (Y4 hg h1 (hn _)) h2

/-! fields -/
def N0:Ty→Nat→Nat
 | .pair _ _,0=>0
 | .pair a b,n+1=>a.size+N0 b n
 | _,_=>0

theorem a1y:∀ {t:Ty} {x:t.den} {n:Nat} {u:Ty} {z:u.den} {b off:Nat},i6 t x [.j6 n]=some ⟨u,z⟩→x5 H t [.j6 n] b off=some (b,off+N0 t n):=by
 intro t
 induction t with
 | pair a c _ ihc =>
  intro x n u z b off h
  match n,h with
  | 0,h=>cases a<;>rfl
  | n+1,h =>
   have:=ihc (x:=x.2) (b:=b) (off:=off+a.size) h
   simp only [x5,N0] at this ⊢
   rw [this,Nat.add_assoc]
 | d0 o t _=>intro x n u z b off h; cases o<;>simp [i6] at h
 | _=>intro x n u z b off h; simp [i6] at h

theorem a2H:∀ {t:Ty} {x:t.den} {n:Nat} {u:Ty} {z:u.den},i6 t x [.j6 n]=some ⟨u,z⟩→w6 t x [.j6 n]:=by
 intro t
 induction t with
 | pair a c _ ihc =>
  intro x n u z h
  match n,h with
  | 0,h=>cases a<;>trivial
  | n+1,h=>exact ihc (x:=x.2) h
 | d0 o t _=>intro x n u z h; cases o<;>simp [i6] at h
 | _=>intro x n u z h; simp [i6] at h

theorem c1F {P:Program} {k:Nat}:∀ {t:Ty} {x:t.den} {n:Nat} {u:Ty} {z:u.den} {fs:List Field} {o:Nat},l4 (o9 P k) fs o t=true→i6 t x [.j6 n]=some ⟨u,z⟩ →
  ∃ f,fs[n]?=some f∧f.offset=o+N0 t n∧1≤u.size∧o9 P k f.type u=true:=by
 intro t
 induction t with
 | pair a c _ ihc =>
  intro x n u z fs o h hg
  cases fs with
  | nil=>simp [l4] at h
  | cons f fs =>
   simp only [l4,Bool.and_eq_true] at h
   obtain ⟨⟨⟨⟨h1,h2⟩,h3⟩,_⟩,h4⟩:=h
   match n,hg with
   | 0,hg =>
    have hg:some (⟨a,x.1⟩:Sigma Ty.den)=some ⟨u,z⟩:=by
     rw [← hg]; simp only [i6]
    cases hg
    exact ⟨f,rfl,Nat.eq_of_beq_eq_true h1,Nat.le_of_ble_eq_true h2,h3⟩
   | n+1,hg =>
    obtain ⟨g,e1,e2,e3,e4⟩:=ihc (x:=x.2) h4 hg
    exact ⟨g,by simpa using e1,by rw [e2]; simp only [N0]; omega,e3,e4⟩
 | d0 o t _=>intro x n u z fs o' h hg; cases o<;>simp [i6] at hg
 | _=>intro x n u z fs o h hg; simp [i6] at hg

theorem a4j {P:Program} {k:Nat} {T:TypeId} {t:Ty} {x:t.den} {n:Nat} {u:Ty} {z:u.den} (h:o9 P k T t=true) (hg:i6 t x [.j6 n]=some ⟨u,z⟩) :
  ∃ fs f k',P.underlying T=some (.struct fs)∧fs[n]?=some f∧f.offset=N0 t n∧1≤u.size∧o9 P k' f.type u=true:=by
 cases k with
 | zero=>simp [o9] at h
 | succ k =>
  obtain ⟨d,h1,h2⟩:=M3 h
  simp only [o9,Bool.and_eq_true,h1] at h
  obtain ⟨_,h⟩:=h
  cases t with
  | pair a c =>
   cases d<;>first|(exact (Bool.false_ne_true h).elim)|skip
   rename_i fs
   have h:l4 (o9 P k) fs.toList 0 (.pair a c)=true:=h
   obtain ⟨f,e1,e2,e3,e4⟩:=c1F h hg
   exact ⟨fs,f,k,h1,by simpa using e1,by simpa using e2,e3,e4⟩
  | d0 o t=>cases o<;>simp [i6] at hg
  | _=>simp [i6] at hg

theorem a0e {P:Program} {k:Nat} {T:TypeId} {t:Ty} {x:t.den} {n:Nat} {u:Ty} {z:u.den} (h:o9 P k T t=true) (hg:i6 t x [.j6 n]=some ⟨u,z⟩) (b off:Nat) :
  (Instr.fieldAt T (.pointer (some ⟨b,off,none⟩)) n).run P w=.ok (.pointer (some ⟨b,off+N0 t n,none⟩)) w:=by
 obtain ⟨fs,f,k',h1,h2,h3,h4,h5⟩:=a4j h hg
 have:¬ u.size=0:=by omega
 simp [Instr.fieldAt,p9 h1,h2,Instr.sureAddr,fieldPlace,run_sizeOf h5,this,h3,Addr.F3]

/-! elements -/
theorem S8 {P:Program} {k:Nat} {T:TypeId} {m:Nat} {t:Ty} (h:o9 P k T (.arr m t)=true):∃ e k',P.underlying T=some (.array m e)∧1≤t.size∧o9 P k' e t=true:=by
 cases k with
 | zero=>simp [o9] at h
 | succ k =>
  obtain ⟨d,h1,h2⟩:=M3 h
  simp only [o9,Bool.and_eq_true,h1] at h
  obtain ⟨_,h⟩:=h
  cases d<;>first|(exact (Bool.false_ne_true h).elim)|skip
  ·simp only [Bool.and_eq_true] at h
   rw [Nat.eq_of_beq_eq_true h.1.1] at h1
   exact ⟨_,k,h1,Nat.le_of_ble_eq_true h.1.2,h.2⟩
  ·rename_i fs
   have h:l4 (o9 P k) fs.toList 0 (.arr m t)=true:=h
   cases hf:fs.toList<;>(rw [hf] at h; simp [l4] at h)

theorem E1 {P:Program} {k:Nat} {T:TypeId} {o:Bool} {t:Ty} (h:o9 P k T (.d0 o t)=true):∃ e k',P.underlying T=some (.slice e)∧1≤t.size∧o9 P k' e t=true:=by
 cases k with
 | zero=>simp [o9] at h
 | succ k =>
  obtain ⟨d,h1,h2⟩:=M3 h
  simp only [o9,Bool.and_eq_true,h1] at h
  obtain ⟨_,h⟩:=h
  cases d<;>first|(exact (Bool.false_ne_true h).elim)|skip
  ·simp only [Bool.and_eq_true] at h
   exact ⟨_,k,h1,Nat.le_of_ble_eq_true h.1,h.2⟩
  ·rename_i fs
   have h:l4 (o9 P k) fs.toList 0 (.d0 o t)=true:=h
   cases hf:fs.toList<;>(rw [hf] at h; simp [l4] at h)

theorem P0 {P:Program} {k:Nat} {T:TypeId} (h:o9 P k T .str=true):P.underlying T=some .string:=by
 cases k with
 | zero=>simp [o9] at h
 | succ k =>
  obtain ⟨d,h1,h2⟩:=M3 h
  simp only [o9,Bool.and_eq_true,h1] at h
  obtain ⟨_,h⟩:=h
  cases d<;>first|exact h1|(exact (Bool.false_ne_true h).elim)|skip
  ·rename_i fs
   have h:l4 (o9 P k) fs.toList 0 .str=true:=h
   cases hf:fs.toList<;>(rw [hf] at h; simp [l4] at h)

theorem b5N {P:Program} {k f:Nat} {T:TypeId} (h:o9 P k T (.fn f)=true):∃ a b c,P.underlying T=some (.func a b c):=by
 cases k with
 | zero=>simp [o9] at h
 | succ k =>
  obtain ⟨d,h1,h2⟩:=M3 h
  simp only [o9,Bool.and_eq_true,h1] at h
  obtain ⟨_,h⟩:=h
  cases d<;>first|exact ⟨_,_,_,h1⟩|(exact (Bool.false_ne_true h).elim)|skip
  ·rename_i fs
   have h:l4 (o9 P k) fs.toList 0 (.fn f)=true:=h
   cases hf:fs.toList<;>(rw [hf] at h; simp [l4] at h)

theorem a44 {P:Program} {k:Nat} {T:TypeId} {o:Bool} {a b:Ty} (h:o9 P k T (.map o a b)=true):∃ K V k',P.underlying T=some (.map K V)∧a.shared=true∧b.shared=true∧o9 P k' K a=true∧o9 P k' V b=true:=by
 cases k with
 | zero=>simp [o9] at h
 | succ k =>
  obtain ⟨d,h1,h2⟩:=M3 h
  simp only [o9,Bool.and_eq_true,h1] at h
  obtain ⟨_,h⟩:=h
  cases d<;>first|(exact (Bool.false_ne_true h).elim)|skip
  ·simp only [Bool.and_eq_true] at h
   exact ⟨_,_,k,h1,h.1.1.1,h.1.1.2,h.1.2,h.2⟩
  ·rename_i fs
   have h:l4 (o9 P k) fs.toList 0 (.map o a b)=true:=h
   cases hf:fs.toList<;>(rw [hf] at h; simp [l4] at h)

theorem b2R {P:Program} {k:Nat} {T:TypeId} {o:Bool} {a:Ty} (h:o9 P k T (.box o none a)=true):∃ e k',P.underlying T=some (.pointer e)∧o9 P k' e a=true:=by
 cases k with
 | zero=>simp [o9] at h
 | succ k =>
  obtain ⟨d,h1,h2⟩:=M3 h
  simp only [o9,Bool.and_eq_true,h1] at h
  obtain ⟨_,h⟩:=h
  cases d<;>first|(exact (Bool.false_ne_true h).elim)|skip
  ·exact ⟨_,k,h1,h⟩
  ·rename_i fs
   have h:l4 (o9 P k) fs.toList 0 (.box o none a)=true:=h
   cases hf:fs.toList<;>(rw [hf] at h; simp [l4] at h)

theorem b02 {P:Program} {k:Nat} {T:TypeId} {o:Bool} {g:Nat} {a:Ty} (h:o9 P k T (.box o (some g) a)=true):∃ p q v,P.underlying T=some (.func p q v):=by
 cases k with
 | zero=>simp [o9] at h
 | succ k =>
  obtain ⟨d,h1,h2⟩:=M3 h
  simp only [o9,Bool.and_eq_true,h1] at h
  obtain ⟨_,h⟩:=h
  cases d<;>first|(exact (Bool.false_ne_true h).elim)|skip
  ·rename_i fs
   have h:l4 (o9 P k) fs.toList 0 (.box o (some g) a)=true:=h
   cases hf:fs.toList<;>(rw [hf] at h; simp [l4] at h)
  ·exact ⟨_,_,_,h1⟩

theorem V9 {P:Program} {k:Nat} {T:TypeId} {kd:IntKind} (h:o9 P k T (.int kd)=true):P.underlying T=some (.int kd):=by
 cases k with
 | zero=>simp [o9] at h
 | succ k =>
  obtain ⟨d,h1,h2⟩:=M3 h
  simp only [o9,Bool.and_eq_true,h1] at h
  obtain ⟨_,h⟩:=h
  cases d<;>first|(exact (Bool.false_ne_true h).elim)|skip
  ·rw [of_decide_eq_true h] at h1; exact h1
  ·rename_i fs
   have h:l4 (o9 P k) fs.toList 0 (.int kd)=true:=h
   cases hf:fs.toList<;>(rw [hf] at h; simp [l4] at h)

theorem a0k {P:Program} {k:Nat} {T:TypeId} {m:Nat} {t:Ty} (h:o9 P k T (.arr m t)=true) (b off:Nat) {kd:IntKind} {n:Int} (hn:0≤n∧n<m) :
  (Instr.indexAt T (.pointer (some ⟨b,off,none⟩)) (.int kd n)).run P w=.ok (.pointer (some ⟨b,off+n.toNat*t.size,none⟩)) w:=by
 obtain ⟨e,k',h1,h2,h3⟩:=S8 h
 simp [Instr.indexAt,asIntOf,p9 h1,Instr.sureAddr,hn,run_sizeOf h3,Addr.F3]

theorem R0 {P:Program} {k:Nat} {T:TypeId} {o:Bool} {t:Ty} (h:o9 P k T (.d0 o t)=true) (b off len cap:Nat) {kd:IntKind} {n:Int} (hn:0≤n∧n<len) :
  (Instr.indexAt T (.slice (some ⟨b,off,none⟩) len cap) (.int kd n)).run P w=.ok (.pointer (some ⟨b,off+n.toNat*t.size,none⟩)) w:=by
 obtain ⟨e,k',h1,h2,h3⟩:=E1 h
 simp [Instr.indexAt,asIntOf,p9 h1,hn,run_sizeOf h3,Addr.F3]

end
end Go.Ex

namespace Go.Ex

section
variable {E:Env} {B:C6} {S:Nat→Prop} {ι:Ix} {s:St} {a:Act} {w:World} {hp:List (Nat×f7)} {H H':Array Go.Obj}

theorem a9w {α:Type} {n:Int} (h:0≤n∧n<(([]:List α).length:Int)):False:=by
 simp at h; omega

theorem y9 {x:Operand} (h:RS B S ι s a w) {v:AV} (e:s.ev x=v):VX w.heap S ι s.hp v [a.eval x]:=e▸h.ev x

theorem F9 {P:Program} {o:Oper} {sem:Sem Value} (he:execOp a.eval o=(do pure (.value (← sem)))) (h:RS B S ι s a w) {v:AV} {val:Value} (hr:sem.run P w=.ok val w)
  (hv:VX w.heap S ι s.hp v [val]):x6 P B o a w v s:=x6.value (J8 he hr) h hv

theorem a0a {i:Nat} {e e':f7} (h1:look i s.hp=some e) (h:s.obj i=some e'):e'=e:=by
 rw [St.obj,h1] at h; cases h; rfl


theorem G2 (h:HS B S ι hp w) {i:Nat} {e:f7} (hi:look i hp=some e) {p:List Step} (hok:w6 e.ty e.x p) {u:Ty} {y:u.den} (hg:i6 e.ty e.x p=some ⟨u,y⟩) {cs:List Value} (hc:Cells w.heap ι i e p u cs) :
  ∃ O2,(∀ c∈O2,c∈ι.own i)∧O2.Nodup∧f9 w.heap S u O2 cs y:=by
 obtain ⟨b,off,O2,k1,k2,k3,k4,_⟩:=(h.ob i e hi).part (a2P hc) h.slt hok hg
 obtain ⟨b',off',h1,rfl⟩:=hc
 rw [k1] at h1; cases h1
 exact ⟨O2,k2,k3,k4⟩

theorem G9 {i:Nat} {e:f7} {c:Nat} (h:c∈ι.own i):c∈l6 ι i e:=by cases e<;>simp [l6,h]

theorem i8.take {α:Type} {R:List Nat→List Value→α→Prop} {sz:Nat}:∀ {l:List α} {O:List Nat} {cs:List Value} (k:Nat),i8 R sz O cs l→∃ O1 O2,O=O1++O2∧i8 R sz O1 (cs.take (k*sz)) (l.take k)∧i8 R sz O2 (cs.drop (k*sz)) (l.drop k)
 | l,O,cs,0,h=>⟨[],O,rfl,by simp [i8],by simpa using h⟩
 | [],O,cs,k+1,⟨h1,h2⟩=>⟨[],[],by simp [h1],by simp [i8,h2],by simp [i8,h2]⟩
 | x::l,O,cs,k+1,⟨O1,O2,e,h1,h2⟩=>by
  obtain ⟨P1,P2,e',g1,g2⟩:=i8.take k h2
  refine ⟨O1++P1,P2,by rw [e,e',List.append_assoc],⟨O1,P1,rfl,?_,?_⟩,?_⟩
  ·rw [List.take_take,Nat.min_eq_left (by rw [Nat.succ_mul]; omega)]; exact h1
  ·rw [List.drop_take,show (k+1)*sz - sz=k*sz from by rw [Nat.succ_mul]; omega]; exact g1
  ·rw [List.drop_drop,show sz+k*sz=(k+1)*sz from by rw [Nat.succ_mul]; omega] at g2
   exact g2

theorem i8.cut {α:Type} {R:List Nat→List Value→α→Prop} {sz:Nat} {l:List α} {O:List Nat} {cs:List Value} (a n:Nat) (h:i8 R sz O cs l):∃ O1 O2 O3,O=O1++(O2++O3)∧i8 R sz O2 ((cs.drop (a*sz)).take (n*sz)) ((l.drop a).take n):=by
 obtain ⟨O1,O2,e,_,h2⟩:=h.take a
 obtain ⟨P1,P2,e',g1,_⟩:=h2.take n
 exact ⟨O1,P1,P2,by rw [e,e'],g1⟩

theorem W4 {α:Type} {lo hi:Int} {l:List α} (h0:0≤lo) (h2:hi≤(l.length:Int)):(B5 lo hi l).length=(hi - lo).toNat:=by
 simp only [B5,List.length_take,List.length_drop]
 omega

def LB (S:Nat→Prop) (ι:Ix) (hp:List (Nat×f7)) (b:Nat):Prop:=S b∨∃ i e,look i hp=some e∧b∈l6 ι i e

def b8G (H:Array Go.Obj) (S:Nat→Prop) (t:Ty) (l:List t.den) (A:Option Addr) (L:Nat→Prop):Prop :=
 l=[]∨∃ b off O,A=some ⟨b,off,none⟩∧L b∧off+l.length*t.size≤(w7 H b).length∧i8 (f9 H S t) t.size O (f8 H b off (l.length*t.size)) l∧∀ c∈O,L c

theorem a7i (h:HS B S ι s.hp w) {i:Nat} {p:List Step} {lo hi:Int} {v:Value} (hv:VX w.heap S ι s.hp (.sub i p lo hi) [v]) {t:Ty} {l:List t.den} (hw:s.view i p lo hi=some ⟨t,l⟩) :
  ∃ A c,v=.slice A l.length c∧b8G w.heap S t l A (LB S ι s.hp)∧(l.length:Int)=hi - lo∧0≤lo∧lo≤hi∧∃ e,look i s.hp=some e∧w6 e.ty e.x p ∧
   (l≠[]→∃ b off,A=some ⟨b,off,none⟩∧∀ n:Int,0≤n→n<l.length→∃ off2,Loc w.heap ι i e (p++[.idx (lo+n)])=some (b,off2)∧off2=off+n.toNat*t.size∧w6 e.ty e.x (p++[.idx (lo+n)])):=by
 obtain ⟨e,v',h1,h2,h3,h4,h5,h6⟩:=hv
 cases h3
 have hob:=h.ob i e h1
 unfold St.view at hw
 rcases h6 with ⟨t',l',a,cap,k1,k2,k3,c,A,k4,kA,k5,k6⟩|⟨n,t',l',b,off,k1,⟨k2,k2'⟩,k3,c,A,k4,kA,k5,k6⟩
 ·have hp:s.part i p=some ⟨.d0 true t',l'⟩:=by unfold St.part St.obj; rw [h1]; exact k1
  rw [hp] at hw
  simp only [Option.some.injEq,Sigma.mk.injEq] at hw
  obtain ⟨rfl,hw⟩:=hw
  have hw:=eq_of_heq hw
  subst hw
  have hlen:(B5 lo hi l').length=(hi - lo).toNat:=W4 h4 k2
  refine ⟨_,c,by rw [hlen]; exact k4,?_,by omega,h4,h5,e,h1,h2,?_⟩
  ·by_cases hz:B5 lo hi l'=[]
   ·exact .inl hz
   ·obtain ⟨O2,m1,m2,m3⟩:=G2 h h1 h2 k1 k3
    rcases m3 with ⟨_,_,hn⟩|⟨b1,o1,cap',O',c1,c2,c3,c4,c5,rfl,c7⟩
    ·exfalso; apply hz; rw [hn]; simp [B5]
    ·simp only [List.cons.injEq,Value.slice.injEq,and_true] at c1
     obtain ⟨rfl,_,rfl⟩:=c1
     have hpos:0<(hi - lo).toNat:=by rw [← hlen]; exact List.length_pos_iff.2 hz
     obtain ⟨P1,P2,P3,e1,g⟩:=c5.cut lo.toNat (hi - lo).toNat
     have hle:lo.toNat*t'.size+(hi - lo).toNat*t'.size≤List.length l'*t'.size:=by rw [← Nat.add_mul]; exact Nat.mul_le_mul_right _ (by omega)
     rw [n9,n8 _ _ _ _ (by omega)] at g
     refine .inr ⟨b1,o1+lo.toNat*t'.size,P2,?_,.inr ⟨i,e,h1,G9 (m1 b1 (by simp))⟩,?_,by rw [hlen]; exact g,fun c hc=>.inr ⟨i,e,h1,G9 (m1 c (by rw [e1]; simp [hc]))⟩⟩
     ·rw [kA (by omega),Option.map_some,Addr.F3]
     ·rw [hlen]; omega
  ·intro hz
   obtain ⟨O2,m1,m2,m3⟩:=G2 h h1 h2 k1 k3
   rcases m3 with ⟨_,_,hn⟩|⟨b1,o1,cap',O',c1,c2,c3,c4,c5,rfl,c7⟩
   ·exfalso; apply hz; rw [hn]; simp [B5]
   ·simp only [List.cons.injEq,Value.slice.injEq,and_true] at c1
    obtain ⟨rfl,_,rfl⟩:=c1
    have hpos:0<(hi - lo).toNat:=by rw [← hlen]; exact List.length_pos_iff.2 hz
    refine ⟨b1,o1+lo.toNat*t'.size,by rw [kA (by omega),Option.map_some,Addr.F3],fun n hn0 hn=>?_⟩
    obtain ⟨b0,off0,q1,q2⟩:=k3
    have hh:=(M1 b0 off0 _).1 q2.symm
    refine ⟨o1+(lo+n).toNat*t'.size,a0b (Y4 k1 q1 ?_) c7.free.lt,by rw [show (lo+n).toNat=lo.toNat+n.toNat from by omega,Nat.add_mul]; omega,R9 k1 h2 ⟨⟨by omega,by omega⟩,L7⟩⟩
    simp only [x5,hh,x8]
 ·have hp:s.part i p=some ⟨.arr n t',l'⟩:=by unfold St.part St.obj; rw [h1]; exact k1
  rw [hp] at hw
  simp only [Option.some.injEq,Sigma.mk.injEq] at hw
  obtain ⟨rfl,hw⟩:=hw
  have hw:=eq_of_heq hw
  subst hw
  obtain ⟨O2,m1,m2,m3,m4,m5,m6⟩:=M9 (K1 k3) hob h.slt h2 k1 k3
  obtain ⟨hl,m3⟩:=m3
  have hlen:(B5 lo hi l').length=(hi - lo).toNat:=W4 h4 (by rw [hl]; exact k2)
  refine ⟨_,c,by rw [hlen]; exact k4,?_,by omega,h4,h5,e,h1,h2,?_⟩
  ·by_cases hz:B5 lo hi l'=[]
   ·exact .inl hz
   ·have hpos:0<(hi - lo).toNat:=by rw [← hlen]; exact List.length_pos_iff.2 hz
    obtain ⟨P1,P2,P3,e1,g⟩:=m3.cut lo.toNat (hi - lo).toNat
    have hle:lo.toNat*t'.size+(hi - lo).toNat*t'.size≤n*t'.size:=by rw [← Nat.add_mul]; exact Nat.mul_le_mul_right _ (by omega)
    simp only [Ty.size] at g m4
    rw [n9,n8 _ _ _ _ (by omega)] at g
    refine .inr ⟨b,off+lo.toNat*t'.size,P2,?_,.inr ⟨i,e,h1,m5⟩,?_,by rw [hlen]; exact g,fun c hc=>.inr ⟨i,e,h1,G9 (m1 c (by rw [e1]; simp [hc]))⟩⟩
    ·rw [kA (by omega),Option.map_some,Addr.F3]
    ·rw [hlen]; omega
  ·intro hz
   have hpos:0<(hi - lo).toNat:=by rw [← hlen]; exact List.length_pos_iff.2 hz
   refine ⟨b,off+lo.toNat*t'.size,by rw [kA (by omega),Option.map_some,Addr.F3],fun m hm0 hm=>?_⟩
   refine ⟨off+(lo+m).toNat*t'.size,a1Y k1 k3 (fun G=>by simp only [x5,x8]),by rw [show (lo+m).toNat=lo.toNat+m.toNat from by omega,Nat.add_mul]; omega,R9 k1 h2 ⟨⟨by omega,by omega⟩,L7⟩⟩

theorem b5W {H:Array Go.Obj} {o:Bool} {t:Ty} {O:List Nat} {cs:List Value} {l:(Ty.d0 o t).den} (hR:f9 H S (.d0 o t) O cs l) {L:Nat→Prop} (hO:∀ c∈O,L c) (hS:∀ c,S c→L c) :
  ∃ A c,j8 (.d0 o t) cs=.slice A (List.length l) c∧b8G H S t l A L:=by
 rcases hR with ⟨_,⟨a,c,rfl,_⟩,hn⟩|⟨b1,o1,cap',O',rfl,c2,c3,c4,c5,c6⟩
 ·have:List.length l=0:=by rw [hn]; rfl
  exact ⟨a,c,by rw [this]; rfl,.inl hn⟩
 ·refine ⟨_,_,rfl,.inr ⟨b1,o1,O',rfl,?_,c4,c5,?_⟩⟩
  ·cases o with
   | true=>exact hO b1 (by rw [c6.1]; simp)
   | false=>exact hS b1 c6.2.2
  ·cases o with
   | true=>intro c hc; exact hO c (by rw [c6.1]; simp [hc])
   | false=>intro c hc; rw [c6.2.1] at hc; cases hc

theorem a7t (h:HS B S ι s.hp w) {v:AV} {val:Value} (hv:VX w.heap S ι s.hp v [val]) {t:Ty} {l:List t.den} (hw:v.els s=some ⟨t,l⟩):∃ A c,val=.slice A l.length c∧b8G w.heap S t l A (LB S ι s.hp):=by
 unfold AV.els at hw
 split at hw
 ·rename_i o t' l'
  simp only [Option.some.injEq,Sigma.mk.injEq] at hw
  obtain ⟨rfl,hw⟩:=hw
  have hw:=eq_of_heq hw
  subst hw
  obtain ⟨cs,e,hR⟩:=hv
  have e:val=j8 (.d0 o t') cs:=by simpa using e
  obtain ⟨A,c,k1,k2⟩:=b5W hR (L:=LB S ι s.hp) (by simp) (fun c hc=>.inl hc)
  exact ⟨A,c,e.trans k1,k2⟩
 ·rename_i i p
  split at hw
  ·rename_i o t' l' hp
   simp only [Option.some.injEq,Sigma.mk.injEq] at hw
   obtain ⟨rfl,hw⟩:=hw
   have hw:=eq_of_heq hw
   subst hw
   obtain ⟨e,u,y,cs,h1,h2,h3,h4,h5⟩:=hv
   have hg:=F6 h1 hp
   rw [h3] at hg; cases hg
   have h5:val=j8 (.d0 o t') cs:=by simpa using h5
   obtain ⟨O2,m1,m2,m3⟩:=G2 h h1 h2 h3 h4
   obtain ⟨A,c,k1,k2⟩:=b5W m3 (L:=LB S ι s.hp) (fun c hc=>.inr ⟨i,e,h1,G9 (m1 c hc)⟩) (fun c hc=>.inl hc)
   exact ⟨A,c,h5.trans k1,k2⟩
  ·cases hw
 ·obtain ⟨A,c,k1,k2,_⟩:=a7i h hv hw
  exact ⟨A,c,k1,k2⟩
 ·cases hw

theorem a7e {t:Ty} {y:Option t.den} {val:Value} (hv:VX w.heap S ι s.hp (.val (.box false none t) y) [val]) (hy:y.isSome=true):VX w.heap S ι s.hp (.u5 t (y.getD t.p8)) [val]:=by
 obtain ⟨cs,e,hR⟩:=hv
 rcases hR with ⟨rfl,_⟩|⟨z,b,off,O',rfl,rfl,h2,h3,_,rfl,h4⟩
 ·cases hy
 ·exact ⟨b,off,by simpa [j8,Ty.agg,a4u] using e,h4,h2,h3⟩

theorem a8e {f:Nat} {t:Ty} {y:Option t.den} {val:Value} (hv:VX w.heap S ι s.hp (.val (.box false (some f) t) y) [val]) (hy:y.isSome=true):∃ p,val=.func (.func f) #[] #[p]∧VX w.heap S ι s.hp (.u5 t (y.getD t.p8)) [p]:=by
 obtain ⟨cs,e,hR⟩:=hv
 rcases hR with ⟨rfl,_⟩|⟨z,b,off,O',rfl,rfl,h2,h3,_,rfl,h4⟩
 ·cases hy
 ·exact ⟨_,by simpa [j8,Ty.agg,a4u] using e,b,off,rfl,h4,h2,h3⟩

theorem a9O (hE:A6 E B) (h:RS B S ι s a w) {o:Oper} {T:TypeId} {x:Operand} {n:Nat} (ho:o.op=.fieldAddr T x n):C8 E.P B o a w (j9 E o s):=by
 have he:execOp a.eval o=(do pure (.value (← Instr.fieldAt T (a.eval x) n))):=by simp [execOp,ho]
 unfold j9
 rw [ho]
 simp only
 split
 ·rename_i i p hx
  split
  ·rename_i u z hpt
   split
   ·rename_i r hc hg2
    obtain ⟨e,b,off,h1,h2,h3,h4⟩:=y9 h hx
    have hg:=F6 h1 hpt
    have h4:a.eval x=.pointer (some ⟨b,off,none⟩):=by simpa using h4
    obtain ⟨u2,z2⟩:=r
    exact F9 he h (by rw [h4]; exact a0e (B2 hE hc) hg2 b off) ⟨e,b,off+N0 u n,h1,R9 hg h2 (a2H hg2),a1Y hg h3 (fun G=>a1y hg2),rfl⟩
   ·trivial
  ·trivial
 ·rename_i t y hx
  split
  ·rename_i u z hc hg
   obtain ⟨b,off,e,h1,h2,h3⟩:=y9 h hx
   have e:a.eval x=.pointer (some ⟨b,off,none⟩):=by simpa using e
   have hok:=a2H hg
   obtain ⟨O1,O2,b',off',e1,e2,e3,e4,e5,e6⟩:=focus h3 h2 hok hg
   have hO:O1=[]∧O2=[]:=by have:=e1.nil_eq; simpa using this.symm
   rw [a1y hg] at e3; cases e3
   refine F9 he h (by rw [e]; exact a0e (B2 hE hc) hg b off) ⟨b,off+N0 t n,rfl,h1,e5,?_⟩
   rw [hO.2] at e4; exact e4
  ·trivial
 ·rename_i t y hx
  split
  ·rename_i u z hc hg
   intro hy
   obtain ⟨b,off,e,h1,h2,h3⟩:=a7e (y9 h hx) hy
   have e:a.eval x=.pointer (some ⟨b,off,none⟩):=by simpa using e
   have hok:=a2H hg
   obtain ⟨O1,O2,b',off',e1,e2,e3,e4,e5,e6⟩:=focus h3 h2 hok hg
   have hO:O1=[]∧O2=[]:=by have:=e1.nil_eq; simpa using this.symm
   rw [a1y hg] at e3; cases e3
   refine F9 he h (by rw [e]; exact a0e (B2 hE hc) hg b off) ⟨b,off+N0 t n,rfl,h1,e5,?_⟩
   rw [hO.2] at e4; exact e4
  ·trivial
 ·trivial

theorem a9I (hE:A6 E B) (h:RS B S ι s a w) {o:Oper} {T:TypeId} {x y:Operand} (ho:o.op=.indexAddr T x y):C8 E.P B o a w (j9 E o s):=by
 have he:execOp a.eval o=(do pure (.value (← Instr.indexAt T (a.eval x) (a.eval y)))):=by simp [execOp,ho]
 unfold j9
 rw [ho]
 simp only
 split
 ·rename_i d p k n hx hy
  split
  ·rename_i m u z hpt
   split
   ·rename_i hc
    intro hn
    obtain ⟨e,b,off,h1,h2,h3,h4⟩:=y9 h hx
    have hg:=F6 h1 hpt
    have h4:a.eval x=.pointer (some ⟨b,off,none⟩):=by simpa using h4
    obtain ⟨hyv,_⟩:=VX.F7 (y9 h hy)
    exact F9 he h (by rw [h4,hyv]; exact a0k (B2 hE hc) b off hn) ⟨e,b,off+n.toNat*u.size,h1,R9 hg h2 ⟨hn,L7⟩,a1Y hg h3 (fun G=>by simp only [x5,x8]),rfl⟩
   ·trivial
  ·trivial
 ·rename_i m t z k n hx hy
  split
  ·rename_i hc
   intro hn
   obtain ⟨b,off,e,h1,h2,h3⟩:=y9 h hx
   have e:a.eval x=.pointer (some ⟨b,off,none⟩):=by simpa using e
   obtain ⟨hyv,_⟩:=VX.F7 (y9 h hy)
   have hok:w6 (.arr m t) z [.idx n]:=⟨hn,by cases t<;>trivial⟩
   have hg:i6 (.arr m t) z [.idx n]=some ⟨t,List.getD z (Int.toNat n) t.p8⟩:=by simp only [i6]
   obtain ⟨O1,O2,b',off',e1,e2,e3,e4,e5,e6⟩:=focus h3 h2 hok hg
   have hO:O1=[]∧O2=[]:=by have:=e1.nil_eq; simpa using this.symm
   have e3':x5 w.heap (.arr m t) [.idx n] b off=some (b,off+Int.toNat n*t.size):=by simp only [x5]
   rw [e3'] at e3; cases e3
   refine F9 he h (by rw [e,hyv]; exact a0k (B2 hE hc) b off hn) ⟨b,off+Int.toNat n*t.size,rfl,h1,e5,?_⟩
   rw [hO.2] at e4; exact e4
  ·trivial
 ·rename_i t z k n hx hy
  split
  ·rename_i hc
   intro hn
   obtain ⟨cs,e,hR⟩:=y9 h hx
   have e:a.eval x=j8 (.d0 false t) cs:=by simpa using e
   obtain ⟨hyv,_⟩:=VX.F7 (y9 h hy)
   rcases hR with ⟨_,_,hz⟩|⟨b1,o1,cap,O',c1,c2,c3,c4,c5,c6,c7,c8⟩
   ·subst hz; exact (a9w hn).elim
   ·have hxv:a.eval x=.slice (some ⟨b1,o1,none⟩) (List.length z) cap:=by rw [e,c1]; rfl
    obtain ⟨b1',b2,b3,b4⟩:=B9 (sz:=t.size) hn
    obtain ⟨P1,P2,P3,e1,g1,g2,g3⟩:=i8.split (d:=t.p8) (i:=Int.toNat n) b1' c5
    have hle:t.size≤List.length z*t.size - Int.toNat n*t.size:=by omega
    rw [n9,n8 _ _ _ _ hle] at g2
    have hP:P2=[]:=by rw [c7] at e1; have:=List.append_eq_nil_iff.1 e1.symm; exact (List.append_eq_nil_iff.1 this.2).1
    refine F9 he h (by rw [hxv,hyv]; exact R0 (B2 hE hc) b1 o1 _ cap hn) ⟨b1,o1+Int.toNat n*t.size,rfl,c8,by omega,?_⟩
    rw [hP] at g2; exact g2
  ·trivial
 ·rename_i d p k n hx hy
  split
  ·rename_i u z hpt
   split
   ·rename_i hc
    intro hn
    obtain ⟨e,u',y',cs,h1,h2,h3,h4,h5⟩:=y9 h hx
    have hg:=F6 h1 hpt
    rw [h3] at hg; cases hg
    obtain ⟨hyv,_⟩:=VX.F7 (y9 h hy)
    have h5:a.eval x=j8 (.d0 true u) cs:=by simpa using h5
    obtain ⟨O2,m1,m2,m3⟩:=G2 h.hs h1 h2 h3 h4
    rcases m3 with ⟨_,_,hz⟩|⟨b1,o1,cap,O',rfl,c2,c3,c4,c5,c6,c7⟩
    ·subst hz; exact (a9w hn).elim
    ·have hxv:a.eval x=.slice (some ⟨b1,o1,none⟩) (List.length z) cap:=h5
     obtain ⟨b0,off0,q1,q2⟩:=h4
     have hh:=(M1 b0 off0 _).1 q2.symm
     refine F9 he h (by rw [hxv,hyv]; exact R0 (B2 hE hc) b1 o1 _ cap hn) ⟨e,b1,o1+n.toNat*u.size,h1,R9 h3 h2 ⟨hn,L7⟩,a0b (Y4 h3 q1 ?_) c7.free.lt,rfl⟩
     simp only [x5,hh,x8]
   ·trivial
  ·trivial
 ·rename_i d p lo hi k n hx hy
  split
  ·rename_i u l hvw
   split
   ·rename_i hc
    intro hn
    have hn1:@LE.le Int Int.instLEInt 0 n:=hn.1
    have hn2:@LT.lt Int Int.instLTInt n (hi - lo):=hn.2
    obtain ⟨A,c,k1,k2,k3,k4,k5,e,k6,k7,k8⟩:=a7i h.hs (y9 h hx) hvw
    obtain ⟨hyv,_⟩:=VX.F7 (y9 h hy)
    have hz:l≠[]:=by rintro rfl; have k3:((0:Nat):Int)=hi - lo:=k3; omega
    obtain ⟨b,off,rfl,k9⟩:=k8 hz
    obtain ⟨off2,q1,rfl,q3⟩:=k9 n hn.1 (by omega)
    exact F9 he h (by rw [k1,hyv]; exact R0 (B2 hE hc) b off _ c (by omega)) ⟨e,b,_,k6,q3,q1,rfl⟩
   ·trivial
  ·trivial
 ·trivial

theorem c3u:∀ {t:Ty} {x:t.den} {n:Nat} {u:Ty} {z:u.den} {cs:List Value},f9 H S t [] cs x→i6 t x [.j6 n]=some ⟨u,z⟩→f9 H S u [] ((cs.drop (N0 t n)).take u.size) z∧t.agg=true:=by
 intro t
 induction t with
 | pair a c _ ihc =>
  intro x n u z cs hR h
  obtain ⟨O1,O2,e,h1,h2⟩:=hR
  have e1:O1=[]∧O2=[]:=by simpa using e.symm
  rw [e1.1] at h1; rw [e1.2] at h2
  refine ⟨?_,rfl⟩
  match n,h with
  | 0,h =>
   have h:some (⟨a,x.1⟩:Sigma Ty.den)=some ⟨u,z⟩:=by rw [← h]; simp only [i6]
   cases h
   simpa [N0] using h1
  | n+1,h =>
   have:=(ihc (x:=x.2) h2 h).1
   simpa [N0,List.drop_drop,Nat.add_comm] using this
 | d0 o t _=>intro x n u z cs _ h; cases o<;>simp [i6] at h
 | _=>intro x n u z cs _ h; simp [i6] at h

theorem c02:∀ {t:Ty} {x:t.den} {n:Nat} {u:Ty} {z:u.den} {O:List Nat} {cs:List Value},f9 H S t O cs x→i6 t x [.j6 n]=some ⟨u,z⟩→∃ O2,(∀ c∈O2,c∈O)∧f9 H S u O2 ((cs.drop (N0 t n)).take u.size) z∧t.agg=true:=by
 intro t
 induction t with
 | pair a c _ ihc =>
  intro x n u z O cs hR h
  obtain ⟨O1,O2,rfl,h1,h2⟩:=hR
  match n,h with
  | 0,h =>
   have h:some (⟨a,x.1⟩:Sigma Ty.den)=some ⟨u,z⟩:=by rw [← h]; simp only [i6]
   cases h
   exact ⟨O1,fun c hc=>by simp [hc],by simpa [N0] using h1,rfl⟩
  | n+1,h =>
   obtain ⟨O3,k1,k2,_⟩:=ihc (x:=x.2) h2 h
   exact ⟨O3,fun c hc=>by simp [k1 c hc],by simpa [N0,List.drop_drop,Nat.add_comm] using k2,rfl⟩
 | d0 o t _=>intro x n u z O cs _ h; cases o<;>simp [i6] at h
 | _=>intro x n u z O cs _ h; simp [i6] at h

theorem c3D:∀ {t:Ty} {x:t.den} {n:Nat} {u:Ty} {z:u.den},i6 t x [.j6 n]=some ⟨u,z⟩→N0 t n+u.size≤t.size:=by
 intro t
 induction t with
 | pair a c _ ihc =>
  intro x n u z h
  match n,h with
  | 0,h =>
   have h:some (⟨a,x.1⟩:Sigma Ty.den)=some ⟨u,z⟩:=by rw [← h]; simp only [i6]
   cases h
   simp [N0,Ty.size]
  | n+1,h =>
   have:=ihc (x:=x.2) h
   simp only [N0,Ty.size]; omega
 | d0 o t _=>intro x n u z h; cases o<;>simp [i6] at h
 | _=>intro x n u z h; simp [i6] at h

theorem a7R:∀ {t:Ty} {x:t.den} {p q:List Step} {u:Ty} {y:u.den} {r:Sigma Ty.den},i6 t x p=some ⟨u,y⟩→i6 u y q=some r→i6 t x (p++q)=some r:=by
 intro t
 induction t with
 | pair a c iha ihc =>
  intro x p q u y r h1 h2
  match p,h1 with
  | [],h1=>simp only [i6,Option.some.injEq] at h1; cases h1; exact h2
  | .j6 0::p,h1=>exact iha h1 h2
  | .j6 (n+1)::p,h1=>exact ihc (p:=.j6 n::p) h1 h2
  | .idx i::p,h1=>simp [i6] at h1
 | arr n t ih =>
  intro x p q u y r h1 h2
  match p,h1 with
  | [],h1=>simp only [i6,Option.some.injEq] at h1; cases h1; exact h2
  | .idx i::p,h1=>exact ih h1 h2
  | .j6 i::p,h1=>simp [i6] at h1
 | d0 o t ih =>
  intro x p q u y r h1 h2
  match p,h1 with
  | [],h1=>rw [x9] at h1; cases h1; exact h2
  | .idx i::p,h1=>cases o with
   | true=>exact ih h1 h2
   | false=>simp [i6] at h1
  | .j6 i::p,h1=>cases o<;>simp [i6] at h1
 | _ =>
  intro x p q u y r h1 h2
  match p,h1 with
  | [],h1=>simp only [i6,Option.some.injEq] at h1; cases h1; exact h2
  | .idx i::p,h1=>simp [i6] at h1
  | .j6 i::p,h1=>simp [i6] at h1

theorem Z0 {P:Program} {k:Nat} {T:TypeId} {u:Ty} {cs:List Value} {off:Nat} {z:u.den} {O:List Nat} (h:o9 P k T u=true) (hR:f9 H S u O ((cs.drop off).take u.size) z) :
  (part T cs.toArray off).run P w=.ok (j8 u ((cs.drop off).take u.size)) w:=by
 have hl:=hR.length
 simp only [part,Sem.run_bind,a6o h,Result.andThen]
 cases hg:u.agg with
 | true =>
  simp only [if_true,Sem.run_bind,run_sizeOf h,Result.andThen]
  simp [j8,hg]
 | false =>
  have h1:u.size=1:=by cases u<;>simp_all [Ty.agg,Ty.size]
  rw [h1] at hl ⊢
  match hc:(cs.drop off).take 1,hl with
  | [c],_ =>
   have:cs[off]?=some c:=by
    have:((cs.drop off).take 1)[0]?=some c:=by rw [hc]; rfl
    simpa using this
   simp [this,j8,hg]

theorem b6O (h:RS B S ι s a w) {o:Oper} {op:UnOp} {T:TypeId} {x:Operand} {P:Program} (ho:o.op=.unOp op T x):C8 P B o a w (unA op (s.ev x) s):=by
 have he:execOp a.eval o=(do pure (.value (← Op.unary op (a.eval x)))):=by simp [execOp,ho]
 unfold unA
 split
 ·rename_i b hx
  have:=VX.a2k (y9 h hx)
  exact F9 he h (by rw [this]; rfl) VX.bool
 ·rename_i k n hx
  obtain ⟨hv,_⟩:=VX.F7 (y9 h hx)
  exact a2w (by rw [J8 he (w':=w) (val:=.int k (k.wrap (0 - n)))]; rw [hv]; rfl) h
 ·rename_i k n hx
  obtain ⟨hv,_⟩:=VX.F7 (y9 h hx)
  refine F9 he h (val:=.int k (b4b k (if k.signed then -1 else k.max) n)) (by rw [hv]; rfl) (VX.int (a0F _ _))
 ·trivial

theorem b5c (hE:A6 E B) (h:RS B S ι s a w) {o:Oper} {T:TypeId} {x:Operand} {n:Nat} (ho:o.op=.field T x n):C8 E.P B o a w (j9 E o s):=by
 have he:execOp a.eval o=(do pure (.value (← Instr.field T (a.eval x) n))):=by simp [execOp,ho]
 unfold j9
 rw [ho]
 simp only
 split
 ·rename_i t y hx
  split
  ·rename_i u z hc hg
   obtain ⟨cs,e,hR⟩:=y9 h hx
   have e:a.eval x=j8 t cs:=by simpa using e
   obtain ⟨fs,f,k',h1,h2,h3,h4,h5⟩:=a4j (B2 hE hc) hg
   obtain ⟨hR2,hag⟩:=c3u hR hg
   have:a.eval x=.agg cs.toArray:=by rw [e,j8,hag]; rfl
   refine F9 he h (val:=j8 u ((cs.drop (N0 t n)).take u.size)) ?_ ⟨_,rfl,hR2⟩
   rw [this]
   have:=Z0 (w:=w) h5 hR2
   simp [Instr.field,p9 h1,h2,asAgg,h3,this]
  ·trivial
 ·rename_i i p hx
  split
  ·rename_i t y hpt
   split
   ·rename_i u z hc hg
    obtain ⟨e,t',y',cs,h1,h2,h3,h4,h5⟩:=y9 h hx
    have hgp:=F6 h1 hpt
    rw [h3] at hgp; cases hgp
    have h5:a.eval x=j8 t cs:=by simpa using h5
    obtain ⟨fs,f,k',q1,q2,q3,q4,q5⟩:=a4j (B2 hE hc) hg
    obtain ⟨O2,m1,m2,m3⟩:=G2 h.hs h1 h2 h3 h4
    obtain ⟨O3,m4,hR2,hag⟩:=c02 m3 hg
    have hxv:a.eval x=.agg cs.toArray:=by rw [h5,j8,hag]; rfl
    have hrun:=Z0 (w:=w) q5 hR2
    have hr:(Instr.field T (a.eval x) n).run E.P w=.ok (j8 u ((cs.drop (N0 t n)).take u.size)) w:=by
     rw [hxv]
     simp [Instr.field,p9 q1,q2,asAgg,q3,hrun]
    split
    ·rename_i hs
     have:=hR2.M4 hs
     subst this
     exact F9 he h hr ⟨_,rfl,hR2⟩
    ·refine F9 he h hr ⟨e,u,z,_,h1,R9 h3 h2 (a2H hg),a7R h3 hg,?_,rfl⟩
     obtain ⟨b0,off0,g1,rfl⟩:=h4
     refine ⟨b0,off0+N0 t n,Y4 h3 g1 (a1y hg),?_⟩
     have:=m3.length
     have hle:=c3D hg
     rw [n9,n8 _ _ _ _ (by omega)]
   ·trivial
  ·trivial
 ·trivial

end
end Go.Ex

namespace Go.Ex

section
variable {E:Env} {B:C6} {S S':Nat→Prop} {ι:Ix} {s:St} {a:Act} {w:World} {hp:List (Nat×f7)} {H H':Array Go.Obj}

theorem Ty.a7j (t:Ty):t.sh.sh=t.sh:=by
 induction t with
 | pair a b iha ihb=>simp only [Ty.sh,iha,ihb]
 | arr n t ih=>simp only [Ty.sh,ih]
 | d0 o t ih=>simp only [Ty.sh,ih]
 | hole t ih=>simp only [Ty.sh,ih]
 | y7 t ih=>simp only [Ty.sh,ih]
 | box o g t ih=>simp only [Ty.sh,ih]
 | _=>rfl

theorem b1z {A A' C C':Type} (ha:A=A') (hc:C=C') (h:(A×C)=(A'×C')) (x:A×C):cast h x=(cast ha x.1,cast hc x.2):=by subst ha; subst hc; rfl
theorem a0A {A A':Type} (ha:A=A') (h:List A=List A') (l:List A):cast h l=l.map (cast ha):=by
 subst ha
 show l=List.map (fun x=>x) l
 simp

theorem c1S {A A':Type} (ha:A=A') (h:Option A=Option A') (x:Option A):cast h x=x.map (cast ha):=by
 subst ha
 show x=Option.map (fun x=>x) x
 simp

theorem i8.map {α β:Type} {R:List Nat→List Value→α→Prop} {R':List Nat→List Value→β→Prop} {sz:Nat} {f:α→β} {L:List Nat} (hr:∀ O cs x,(∀ b∈O,b∈L)→R O cs x→R' [] cs (f x)) :
  ∀ {l:List α} {O:List Nat} {cs:List Value},(∀ b∈O,b∈L)→i8 R sz O cs l→i8 R' sz [] cs (l.map f)
 | [],_,_,_,⟨_,h⟩=>⟨rfl,h⟩
 | _::_,_,_,hO,⟨O1,O2,e,h1,h2⟩=>by
  subst e
  exact ⟨[],[],rfl,hr _ _ _ (fun b hb=>hO b (by simp [hb])) h1,i8.map hr (fun b hb=>hO b (by simp [hb])) h2⟩

theorem f9.a1d:∀ {u:Ty} {O:List Nat} {cs:List Value} {y:u.den},f9 H S u O cs y→(∀ b∈O,S' b)→(∀ b,S b→S' b)→u.Q7=true→f9 H S' u.sh [] cs (cast (B4 u).symm y):=by
 intro u
 induction u with
 | int k=>intro O cs y h _ _ _; exact ⟨rfl,h.2⟩
 | bool=>intro O cs y h _ _ _; exact ⟨rfl,h.2⟩
 | str=>intro O cs y h _ _ _; exact ⟨rfl,h.2⟩
 | unit=>intro O cs y h _ _ _; exact ⟨rfl,h.2⟩
 | fn f=>intro O cs y h _ _ _; exact ⟨rfl,h.2⟩
 | map o k v =>
  rintro O cs y h hO hS hn
  show f9 H S' (.map false k v) [] cs y
  rcases h with h|⟨l,b,es,ck,h0,h2,h3,h4,h5⟩
  ·exact .inl ⟨h.1,rfl,h.2.2⟩
  have hb:S' b:=by
   cases o with
   | true=>exact hO b (by rw [h5]; simp)
   | false=>exact hS b h5.2
  exact .inr ⟨l,b,es,ck,h0,h2,h3,h4.mono (fun _ _ h=>h.s7 (fun _ _=>rfl) hS) (fun _ _ h=>h.s7 (fun _ _=>rfl) hS),rfl,hb⟩
 | box o g t ih =>
  rintro O cs y h hO hS hn
  have e:=c1S (B4 t).symm (B4 (.box o g t)).symm y
  refine Eq.subst (motive:=fun z=>f9 H S' (.box false g t.sh) [] cs z) e.symm ?_
  rcases h with ⟨rfl,_,h⟩|⟨z,b,off,O',rfl,h1,h2,h3,h4⟩
  ·exact .inl ⟨rfl,rfl,h⟩
  have hb:S' b:=by
   cases o with
   | true=>exact hO b (by rw [h4.1]; simp)
   | false=>exact hS b h4.2.2
  have hO':∀ c∈O',S' c:=by
   intro c hc
   cases o with
   | true=>exact hO c (by rw [h4.1]; simp [hc])
   | false=>rw [h4.2.1] at hc; cases hc
  exact .inr ⟨_,b,off,[],rfl,h1,by rw [M6]; exact h2,by rw [M6]; exact ih h3 hO' hS hn,rfl,rfl,hb⟩
 | pair a c iha ihc =>
  rintro O cs y ⟨O1,O2,rfl,h1,h2⟩ hO hS hn
  simp only [Ty.Q7,Bool.and_eq_true] at hn
  have e:=b1z (B4 a).symm (B4 c).symm (B4 (.pair a c)).symm y
  refine Eq.subst (motive:=fun z=>f9 H S' (.pair a.sh c.sh) [] cs z) e.symm ?_
  exact ⟨[],[],rfl,by rw [M6]; exact iha h1 (fun b hb=>hO b (by simp [hb])) hS hn.1,by rw [M6]; exact ihc h2 (fun b hb=>hO b (by simp [hb])) hS hn.2⟩
 | arr n t ih =>
  rintro O cs y ⟨h1,h2⟩ hO hS hn
  have e:=a0A (B4 t).symm (B4 (.arr n t)).symm y
  refine Eq.subst (motive:=fun z=>f9 H S' (.arr n t.sh) [] cs z) e.symm ?_
  refine ⟨by rw [List.length_map]; exact h1,?_⟩
  rw [M6]
  exact i8.map (L:=O) (fun O1 cs x hL hr=>ih hr (fun b hb=>hO b (hL b hb)) hS hn) (fun _ h=>h) h2
 | d0 o t ih =>
  rintro O cs y h hO hS hn
  have e:=a0A (B4 t).symm (B4 (.d0 o t)).symm y
  refine Eq.subst (motive:=fun z=>f9 H S' (.d0 false t.sh) [] cs z) e.symm ?_
  rcases h with ⟨_,⟨a,c,h2,h2'⟩,h3⟩|⟨b,off,cap,O',c1,c2,c3,c4,c5,c6⟩
  ·subst h3; exact .inl ⟨rfl,⟨a,c,h2,fun h=>by cases h⟩,rfl⟩
  ·have hb:S' b:=by
    cases o with
    | true=>exact hO b (by rw [c6.1]; simp)
    | false=>exact hS b c6.2.2
   have hO':∀ c∈O',c∈O:=by
    intro c hc
    cases o with
    | true=>rw [c6.1]; simp [hc]
    | false=>rw [c6.2.1] at hc; cases hc
   refine .inr ⟨b,off,cap,[],by rw [List.length_map]; exact c1,by rw [List.length_map]; exact c2,⟨c3.1,fun h=>by cases h⟩,by rw [List.length_map,M6]; exact c4,?_,rfl,rfl,hb⟩
   rw [List.length_map,M6]
   exact i8.map (L:=O) (fun O1 cs x hL hr=>ih hr (fun b hb=>hO b (hL b hb)) hS hn) hO' c5
 | hole t ih=>intro O cs y _ _ _ hn; cases hn
 | y7 t ih=>intro O cs y _ _ _ hn; cases hn

theorem Ty.b9i (t:Ty):t.shH.sh=t.sh:=by
 induction t with
 | pair a b iha ihb=>simp only [Ty.shH,Ty.sh,iha,ihb]
 | arr n t ih=>simp only [Ty.shH,Ty.sh,Ty.a7j]
 | d0 o t ih=>simp only [Ty.shH,Ty.sh,Ty.a7j]
 | y7 t ih=>simp only [Ty.shH,Ty.sh,Ty.a7j]
 | box o g t ih=>simp only [Ty.shH,Ty.sh,Ty.a7j]
 | _=>rfl

theorem a8h (t:Ty):t.shH.size=t.size:=E4 (Ty.b9i t)

theorem f9.c49:∀ {u:Ty} {O:List Nat} {cs:List Value} {y:u.den},f9 H S u O cs y→(∀ b∈O,S' b)→(∀ b,S b→S' b)→u.okH=true→f9 H S' u.shH [] cs (cast (a4S u).symm y):=by
 intro u
 induction u with
 | pair a c iha ihc =>
  rintro O cs y ⟨O1,O2,rfl,h1,h2⟩ hO hS hn
  simp only [Ty.okH,Bool.and_eq_true] at hn
  have e:=b1z (a4S a).symm (a4S c).symm (a4S (.pair a c)).symm y
  refine Eq.subst (motive:=fun z=>f9 H S' (.pair a.shH c.shH) [] cs z) e.symm ?_
  exact ⟨[],[],rfl,by rw [a8h]; exact iha h1 (fun b hb=>hO b (by simp [hb])) hS hn.1,by rw [a8h]; exact ihc h2 (fun b hb=>hO b (by simp [hb])) hS hn.2⟩
 | hole t ih=>intro O cs y h _ _ _; exact ⟨rfl,h.2⟩
 | y7 t ih=>intro O cs y h _ _ hn; cases hn
 | arr n t ih=>intro O cs y h hO hS hn; exact f9.a1d (u:=.arr n t) h hO hS hn
 | d0 o t ih=>intro O cs y h hO hS hn; exact f9.a1d (u:=.d0 o t) h hO hS hn
 | box o g t ih=>intro O cs y h hO hS hn; exact f9.a1d (u:=.box o g t) h hO hS hn
 | map o k v=>intro O cs y h hO hS hn; exact f9.a1d (u:=.map o k v) h hO hS hn
 | int k=>intro O cs y h _ _ _; exact ⟨rfl,h.2⟩
 | bool=>intro O cs y h _ _ _; exact ⟨rfl,h.2⟩
 | str=>intro O cs y h _ _ _; exact ⟨rfl,h.2⟩
 | unit=>intro O cs y h _ _ _; exact ⟨rfl,h.2⟩
 | fn f=>intro O cs y h _ _ _; exact ⟨rfl,h.2⟩

theorem i8.c1o {α β:Type} {R:List Nat→List Value→α→Prop} {R':List Nat→List Value→β→Prop} {sz:Nat} {f:α→β} (hr:∀ O cs x,R O cs x→R' O cs (f x)) :
  ∀ {l:List α} {O:List Nat} {cs:List Value},i8 R sz O cs l→i8 R' sz O cs (l.map f)
 | [],_,_,⟨h0,h⟩=>⟨h0,h⟩
 | _::_,_,_,⟨O1,O2,e,h1,h2⟩=>⟨O1,O2,e,hr _ _ _ h1,i8.c1o hr h2⟩

theorem Y7:∀ {u t:Ty},a1h u t=true→t.size=u.size∧u.isB=t.isB:=by
 have base:∀ {u t:Ty},decide (u=t)=true→t.size=u.size∧u.isB=t.isB:=by
  intro u t h
  have e:=of_decide_eq_true h
  subst e
  exact ⟨rfl,rfl⟩
 intro u
 induction u with
 | pair a b iha ihb =>
  intro t h
  cases t with
  | pair c d =>
   have h:(a1h a c && a1h b d)=true:=h
   rw [Bool.and_eq_true] at h
   exact ⟨by simp only [Ty.size,(iha h.1).1,(ihb h.2).1],rfl⟩
  | _=>exact base h
 | arr n a ih =>
  intro t h
  cases t with
  | arr m b =>
   have h:(Nat.beq n m && a1h a b)=true:=h
   rw [Bool.and_eq_true] at h
   have e:=Nat.eq_of_beq_eq_true h.1
   subst e
   exact ⟨by simp only [Ty.size,(ih h.2).1],rfl⟩
  | _=>exact base h
 | d0 o a ih =>
  intro t h
  cases t with
  | d0 o2 b=>exact ⟨rfl,rfl⟩
  | y7 b=>exact ⟨rfl,rfl⟩
  | _=>cases o<;>exact base h
 | _=>intro t h; cases t<;>exact base h

theorem c3H:∀ {u t:Ty} {y:u.den} {O:List Nat} {cs:List Value},a1h u t=true→f9 H S u O cs y→f9 H S t O cs (msV u t y):=by
 have base:∀ {u t:Ty} {y:u.den} {O:List Nat} {cs:List Value},decide (u=t)=true→f9 H S u O cs y→f9 H S t O cs (if h:u=t then h▸y else t.p8):=by
  intro u t y O cs h hR
  have e:=of_decide_eq_true h
  subst e
  rw [dif_pos rfl]
  exact hR
 intro u
 induction u with
 | pair a b iha ihb =>
  intro t y O cs h hR
  cases t with
  | pair c d =>
   have h:(a1h a c && a1h b d)=true:=h
   rw [Bool.and_eq_true] at h
   obtain ⟨P1,P2,rfl,r1,r2⟩:=hR
   exact ⟨P1,P2,rfl,by rw [(Y7 h.1).1]; exact iha h.1 r1,by rw [(Y7 h.1).1]; exact ihb h.2 r2⟩
  | _=>exact base h hR
 | arr n a ih =>
  intro t y O cs h hR
  cases t with
  | arr m b =>
   have h:(Nat.beq n m && a1h a b)=true:=h
   rw [Bool.and_eq_true] at h
   have e:=Nat.eq_of_beq_eq_true h.1
   subst e
   show f9 H S (.arr n b) O cs (if h:a=b then h▸y else List.map (msV a b) y)
   split
   ·rename_i e; subst e; exact hR
   ·obtain ⟨h1,h2⟩:=hR
    refine ⟨by rw [List.length_map]; exact h1,?_⟩
    rw [(Y7 h.2).1]
    exact i8.c1o (fun _ _ _ q=>ih h.2 q) h2
  | _=>exact base h hR
 | d0 o a ih =>
  intro t y O cs h hR
  cases t with
  | d0 o2 b =>
   cases o with
   | false=>exact base h hR
   | true=>cases o2 with
    | false=>exact base h hR
    | true =>
     have h:a1h a b=true:=h
     show f9 H S (.d0 true b) O cs (if h:a=b then h▸y else List.map (msV a b) y)
     split
     ·rename_i e; subst e; exact hR
     ·have hR:f9 H S (.d0 true a) O cs y:=hR
      rcases hR with ⟨h1,h2,h3⟩|⟨c,off,cap,O',c1,c2,c3,c4,c5,c6,c7⟩
      ·have h3:y=[]:=h3
       rw [h3]; exact .inl ⟨h1,h2,rfl⟩
      ·refine .inr ⟨c,off,cap,O',by rw [List.length_map]; exact c1,by rw [List.length_map]; exact c2,c3,by rw [List.length_map,(Y7 h).1]; exact c4,?_,c6,by rw [(Y7 h).1,← (Y7 h).2]; exact c7⟩
       rw [List.length_map,(Y7 h).1]
       exact i8.c1o (fun _ _ _ q=>ih h q) c5
  | y7 b =>
   have e:a=b:=by cases o<;>exact of_decide_eq_true h
   subst e
   cases o with
   | false=>show f9 H S (.y7 a) O cs (if h:a=a then (0,h▸y,[]) else (0,[],[])); rw [dif_pos rfl]; exact hR
   | true=>show f9 H S (.y7 a) O cs (if h:a=a then (1,h▸y,[]) else (1,[],[])); rw [dif_pos rfl]; exact hR
  | _=>cases o<;>exact base h hR
 | _=>intro t y O cs h hR; cases t<;>exact base h hR

theorem c1J:∀ {u t:Ty} {y:u.den} {z:t.den} {O:List Nat} {cs:List Value},a6J u t y=some z→f9 H S u O cs y→∃ O1 D,O.Perm (O1++D)∧t.size=u.size∧∀ S':Nat→Prop,(∀ b,S b→S' b)→(∀ b∈D,S' b)→f9 H S' t O1 cs z:=by
 have base:∀ {u t:Ty} {y:u.den} {z:t.den} {O:List Nat} {cs:List Value},(if h:u=t then some (I7 h y) else if h:u.sh=t then (match u.Q7 with
   | true=>some (cast ((B4 u).symm.trans (congrArg Ty.den h)) y)
   | false=>none) else (match a1h u t with
   | true=>some (msV u t y)
   | false=>none))=some z→f9 H S u O cs y→∃ O1 D,O.Perm (O1++D)∧t.size=u.size∧∀ S':Nat→Prop,(∀ b,S b→S' b)→(∀ b∈D,S' b)→f9 H S' t O1 cs z:=by
  intro u t y z O cs h hR
  split at h
  ·rename_i e
   subst e
   cases h
   exact ⟨O,[],by simp,rfl,fun S' hS _=>hR.s7 (fun _ _=>rfl) hS⟩
  ·split at h
   ·rename_i e
    subst e
    split at h
    ·rename_i hn
     cases h
     exact ⟨[],O,by simp,M6 u,fun S' hS hD=>hR.a1d hD hS hn⟩
    ·cases h
   ·split at h
    ·rename_i hm
     cases h
     exact ⟨O,[],by simp,(Y7 hm).1,fun S' hS _=>(c3H hm hR).s7 (fun _ _=>rfl) hS⟩
    ·cases h
 intro u
 induction u with
 | pair a b iha ihb =>
  intro t y z O cs h hR
  cases t with
  | pair c d =>
   simp only [a6J] at h
   split at h
   ·rename_i x1 x2 h1 h2
    cases h
    obtain ⟨P1,P2,rfl,r1,r2⟩:=hR
    obtain ⟨A1,D1,e1,s1,k1⟩:=iha h1 r1
    obtain ⟨A2,D2,e2,s2,k2⟩:=ihb h2 r2
    refine ⟨A1++A2,D1++D2,?_,by simp only [Ty.size,s1,s2],fun S' hS hD=>⟨A1,A2,rfl,?_,?_⟩⟩
    ·refine (e1.append e2).trans ?_
     rw [List.append_assoc,List.append_assoc]
     refine List.Perm.append_left _ ?_
     rw [← List.append_assoc,← List.append_assoc]
     exact List.Perm.append_right _ List.perm_append_comm
    ·rw [s1]; exact k1 S' hS (fun b hb=>hD b (by simp [hb]))
    ·rw [s1]; exact k2 S' hS (fun b hb=>hD b (by simp [hb]))
   ·cases h
  | _=>exact base h hR
 | _=>intro t y z O cs h hR; cases t<;>exact base h hR

def b4R (ι:Ix) (hp:List (Nat×f7)) (i b:Nat):Prop:=∃ e,look i hp=some e∧b∈l6 ι i e

theorem b5S (h:HS B S ι s.hp w) {i:Nat} {p:List Step} {lo hi:Int} {v:Value} (hv:VX w.heap S ι s.hp (.sub i p lo hi) [v]) {t:Ty} {l:List t.den} (hw:s.view i p lo hi=some ⟨t,l⟩) :
  ∃ A c,v=j8 (.d0 false t.sh) [.slice A l.length c]∧(l=[]∨∃ b off O,A=some ⟨b,off,none⟩∧b4R ι s.hp i b∧off+l.length*t.size≤(w7 w.heap b).length∧i8 (f9 w.heap S t) t.size O (f8 w.heap b off (l.length*t.size)) l∧(∀ c∈O,b4R ι s.hp i c)∧(l.length≤c∧c≤maxLen)):=by
 obtain ⟨e,v',h1,h2,h3,h4,h5,h6⟩:=hv
 cases h3
 have hob:=h.ob i e h1
 unfold St.view at hw
 rcases h6 with ⟨t',l',a,cap,k1,k2,k3,c,A,k4,kA,k5,k6⟩|⟨n,t',l',b,off,k1,⟨k2,k2'⟩,k3,c,A,k4,kA,k5,k6⟩
 ·have hp:s.part i p=some ⟨.d0 true t',l'⟩:=by unfold St.part St.obj; rw [h1]; exact k1
  rw [hp] at hw
  simp only [Option.some.injEq,Sigma.mk.injEq] at hw
  obtain ⟨rfl,hw⟩:=hw
  have hw:=eq_of_heq hw
  subst hw
  have hlen:(B5 lo hi l').length=(hi - lo).toNat:=W4 h4 k2
  refine ⟨_,c,by rw [hlen]; exact k4,?_⟩
  by_cases hz:B5 lo hi l'=[]
  ·exact .inl hz
  ·obtain ⟨O2,m1,m2,m3⟩:=G2 h h1 h2 k1 k3
   rcases m3 with ⟨_,_,hn⟩|⟨b1,o1,cap',O',c1,c2,c3,c4,c5,rfl,c7⟩
   ·exfalso; apply hz; rw [hn]; simp [B5]
   ·simp only [List.cons.injEq,Value.slice.injEq,and_true] at c1
    obtain ⟨rfl,_,rfl⟩:=c1
    have hpos:0<(hi - lo).toNat:=by rw [← hlen]; exact List.length_pos_iff.2 hz
    obtain ⟨P1,P2,P3,e1,g⟩:=c5.cut lo.toNat (hi - lo).toNat
    have hle:lo.toNat*t'.size+(hi - lo).toNat*t'.size≤List.length l'*t'.size:=by rw [← Nat.add_mul]; exact Nat.mul_le_mul_right _ (by omega)
    rw [n9,n8 _ _ _ _ (by omega)] at g
    refine .inr ⟨b1,o1+lo.toNat*t'.size,P2,by rw [kA (by omega),Option.map_some,Addr.F3],⟨e,h1,G9 (m1 b1 (by simp))⟩,by rw [hlen]; omega,by rw [hlen]; exact g,fun c hc=>⟨e,h1,G9 (m1 c (by rw [e1]; simp [hc]))⟩,by rw [hlen]; exact k5,by have:=c3.1; omega⟩
 ·have hp:s.part i p=some ⟨.arr n t',l'⟩:=by unfold St.part St.obj; rw [h1]; exact k1
  rw [hp] at hw
  simp only [Option.some.injEq,Sigma.mk.injEq] at hw
  obtain ⟨rfl,hw⟩:=hw
  have hw:=eq_of_heq hw
  subst hw
  obtain ⟨O2,m1,m2,m3,m4,m5,m6⟩:=M9 (K1 k3) hob h.slt h2 k1 k3
  obtain ⟨hl,m3⟩:=m3
  have hlen:(B5 lo hi l').length=(hi - lo).toNat:=W4 h4 (by rw [hl]; exact k2)
  refine ⟨_,c,by rw [hlen]; exact k4,?_⟩
  by_cases hz:B5 lo hi l'=[]
  ·exact .inl hz
  ·have hpos:0<(hi - lo).toNat:=by rw [← hlen]; exact List.length_pos_iff.2 hz
   obtain ⟨P1,P2,P3,e1,g⟩:=m3.cut lo.toNat (hi - lo).toNat
   have hle:lo.toNat*t'.size+(hi - lo).toNat*t'.size≤n*t'.size:=by rw [← Nat.add_mul]; exact Nat.mul_le_mul_right _ (by omega)
   simp only [Ty.size] at g m4
   rw [n9,n8 _ _ _ _ (by omega)] at g
   exact .inr ⟨b,off+lo.toNat*t'.size,P2,by rw [kA (by omega),Option.map_some,Addr.F3],⟨e,h1,m5⟩,by rw [hlen]; omega,by rw [hlen]; exact g,fun c hc=>⟨e,h1,G9 (m1 c (by rw [e1]; simp [hc]))⟩,by rw [hlen]; exact k5,by omega⟩


theorem a17:∀ t:Ty,t.rdT.size=t.size:=by
 intro t
 induction t with
 | pair a b iha ihb=>simp only [Ty.rdT,Ty.size,iha,ihb]
 | arr n t ih=>simp only [Ty.rdT,Ty.size,ih]
 | _=>rfl
theorem c3Z (t:Ty):t.rdT.agg=t.agg:=by cases t<;>rfl

theorem b0q:∀ {u:Ty} {O:List Nat} {cs:List Value} {y:u.den},f9 H S u O cs y→(∀ b∈O,S' b)→(∀ b,S b→S' b)→u.okM=true→f9 H S' u.rdT [] cs (rdV u y):=by
 have d0:∀ {o:Bool} {u v:Ty} {f:u.den→v.den} {O:List Nat} {cs:List Value} {y:List u.den},v.size=u.size→(∀ {O:List Nat} {cs:List Value} {y:u.den},f9 H S u O cs y→(∀ b∈O,S' b)→f9 H S' v [] cs (f y)) →
   f9 H S (.d0 o u) O cs y→(∀ b∈O,S' b)→(∀ b,S b→S' b)→f9 H S' (.d0 false v) [] cs (y.map f):=by
  intro o u v f O cs y hsz ih h hO hS
  rcases h with ⟨_,⟨a,c,h2,h2'⟩,h3⟩|⟨b,off,cap,O',c1,c2,c3,c4,c5,c6⟩
  ·have h3:y=[]:=h3
   subst h3; exact .inl ⟨rfl,⟨a,c,h2,fun h=>by cases h⟩,rfl⟩
  ·have hb:S' b:=by
    cases o with
    | true=>exact hO b (by rw [c6.1]; simp)
    | false=>exact hS b c6.2.2
   have hO':∀ c∈O',c∈O:=by
    intro c hc
    cases o with
    | true=>rw [c6.1]; simp [hc]
    | false=>rw [c6.2.1] at hc; cases hc
   refine .inr ⟨b,off,cap,[],by rw [List.length_map]; exact c1,by rw [List.length_map]; exact c2,⟨c3.1,fun h=>by cases h⟩,by rw [List.length_map,hsz]; exact c4,?_,rfl,rfl,hb⟩
   rw [List.length_map,hsz]
   exact i8.map (L:=O) (fun O1 cs x hL hr=>ih hr (fun b hb=>hO b (hL b hb))) hO' c5
 intro u
 induction u with
 | int k=>intro O cs y h _ _ _; exact ⟨rfl,h.2⟩
 | bool=>intro O cs y h _ _ _; exact ⟨rfl,h.2⟩
 | str=>intro O cs y h _ _ _; exact ⟨rfl,h.2⟩
 | unit=>intro O cs y h _ _ _; exact ⟨rfl,h.2⟩
 | fn f=>intro O cs y h _ _ _; exact ⟨rfl,h.2⟩
 | map o k v=>intro O cs y h hO hS hn; exact f9.a1d (u:=.map o k v) h hO hS hn
 | box o g t=>intro O cs y h hO hS hn; exact f9.a1d (u:=.box o g t) h hO hS hn
 | hole t=>intro O cs y h hO hS hn; cases hn
 | pair a c iha ihc =>
  rintro O cs y ⟨O1,O2,rfl,h1,h2⟩ hO hS hn
  simp only [Ty.okM,Bool.and_eq_true] at hn
  exact ⟨[],[],rfl,by rw [a17]; exact iha h1 (fun b hb=>hO b (by simp [hb])) hS hn.1,by rw [a17]; exact ihc h2 (fun b hb=>hO b (by simp [hb])) hS hn.2⟩
 | arr n t ih =>
  rintro O cs y h hO hS hn
  by_cases hh:t.Q7=true
  ·have:=f9.a1d (S':=S') (u:=.arr n t) h hO hS hh
   show f9 H S' (.arr n t.rdT) [] cs (if h:t.Q7=true then cast (congrArg List (a0Q h)) y else List.map (rdV t) y)
   rw [dif_pos hh]
   have e:=b0r t hh
   revert this
   generalize a0Q hh=e2
   revert e2
   rw [e]
   intro e2 this
   exact this
  ·show f9 H S' (.arr n t.rdT) [] cs (if h:t.Q7=true then cast (congrArg List (a0Q h)) y else List.map (rdV t) y)
   rw [dif_neg hh]
   refine ⟨by rw [List.length_map]; exact h.1,?_⟩
   rw [a17]
   exact i8.map (L:=O) (fun O1 cs x hL hr=>ih hr (fun b hb=>hO b (hL b hb)) hS hn) (fun _ h=>h) h.2
 | d0 o t ih =>
  rintro O cs y h hO hS hn
  by_cases hh:t.Q7=true
  ·have:=f9.a1d (S':=S') (u:=.d0 o t) h hO hS hh
   show f9 H S' (.d0 false t.rdT) [] cs (if h:t.Q7=true then cast (congrArg List (a0Q h)) y else List.map (rdV t) y)
   rw [dif_pos hh]
   have e:=b0r t hh
   revert this
   generalize a0Q hh=e2
   revert e2
   rw [e]
   intro e2 this
   exact this
  ·show f9 H S' (.d0 false t.rdT) [] cs (if h:t.Q7=true then cast (congrArg List (a0Q h)) y else List.map (rdV t) y)
   rw [dif_neg hh]
   exact d0 (a17 t) (fun hr hO=>ih hr hO hS hn) h hO hS
 | y7 t ih =>
  rintro O cs ⟨n,l,m⟩ h hO hS hn
  show f9 H S' (.d0 false t.sh) [] cs (cast (congrArg List (B4 t).symm) l)
  rw [a0A (B4 t).symm]
  have ih:∀ {O:List Nat} {cs:List Value} {y:t.den},f9 H S t O cs y→(∀ b∈O,S' b)→f9 H S' t.sh [] cs (cast (B4 t).symm y):=fun hr hO=>hr.a1d hO hS hn
  match n,h with
  | 0,h=>exact d0 (o:=false) (M6 t) ih h hO hS
  | 1,h=>exact d0 (o:=true) (M6 t) ih h hO hS
  | n+2,⟨b,off,O',c1,c2,c3,c4,c5⟩ =>
   have hb:S' b:=by
    cases n with
    | zero=>exact hO b (by rw [c5.1]; simp)
    | succ n=>exact hS b c5.2.2
   have hO':∀ c∈O',c∈O:=by
    intro c hc
    cases n with
    | zero=>rw [c5.1]; simp [hc]
    | succ n=>rw [c5.2.1] at hc; cases hc
   rw [List.length_append,Nat.add_mul] at c3 c4
   obtain ⟨P1,P2,P3,e1,g⟩:=c4.cut 0 l.length
   simp only [Nat.zero_mul,List.drop_zero,List.take_left'] at g
   refine .inr ⟨b,off,List.length l+List.length m,[],by rw [List.length_map]; exact c1,by rw [List.length_map]; omega,⟨c2.1,fun h=>by cases h⟩,by rw [List.length_map,M6]; omega,?_,rfl,rfl,hb⟩
   rw [List.length_map,M6]
   have g2:i8 (f9 H S t) t.size P2 (f8 H b off (l.length*t.size)) l:=by
    rw [n8 _ _ _ _ (by omega)] at g
    exact g
   exact i8.map (L:=O) (fun O1 cs x hL hr=>ih hr (fun b hb=>hO b (hL b hb))) (fun c hc=>hO' c (by rw [e1]; simp [hc])) g2

theorem c3w {a t:Ty} {y:(Ty.y7 a).den} {x:t.den} (h:rdS a t y=some x):t.size=1∧t.agg=false∧∀ {O:List Nat} {cs:List Value},f9 H S (.y7 a) O cs y→(∀ b∈O,S' b)→(∀ b,S b→S' b)→f9 H S' t [] cs x:=by
 unfold rdS at h
 split at h
 ·rename_i b
  split at h
  ·rename_i e
   subst e
   split at h
   ·rename_i hn
    obtain ⟨n,l,m⟩:=y
    cases h
    refine ⟨rfl,rfl,fun {O cs} hR hO hS=>?_⟩
    show f9 H S' (.y7 a.sh) [] cs (shF n,cast (congrArg List (B4 a).symm) l,cast (congrArg List (B4 a).symm) m)
    have h0:=b0q (S':=S') hR hO hS hn
    match n,hR with
    | 0,hR=>exact h0
    | 1,hR=>exact h0
    | n+2,⟨b,off,O',c1,c2,c3,c4,c5⟩ =>
     have hb:S' b:=by
      cases n with
      | zero=>exact hO b (by rw [c5.1]; simp)
      | succ n=>exact hS b c5.2.2
     have hO':∀ c∈O',c∈O:=by
      intro c hc
      cases n with
      | zero=>rw [c5.1]; simp [hc]
      | succ n=>rw [c5.2.1] at hc; cases hc
     have hlen:∀ l:List a.den,List.length (cast (congrArg List (B4 a).symm) l:List a.sh.den)=l.length:=fun l=>by rw [a0A (B4 a).symm,List.length_map]
     have happ:((cast (congrArg List (B4 a).symm) l:List a.sh.den)++(cast (congrArg List (B4 a).symm) m:List a.sh.den))=(l++m).map (cast (B4 a).symm):=by
      rw [a0A (B4 a).symm,a0A (B4 a).symm,List.map_append]
     refine ⟨b,off,[],by rw [hlen,hlen]; exact c1,by rw [hlen,hlen]; exact c2,by rw [happ,List.length_map,M6]; exact c3,?_,rfl,rfl,hb⟩
     rw [happ,List.length_map,M6]
     exact i8.map (L:=O) (fun O1 cs x hL hr=>hr.a1d (fun b hb=>hO b (hL b hb)) hS hn) hO' c4
   ·cases h
  ·cases h
 ·cases h

theorem c3x {t u:Ty} {y:u.den} {x:t.den} (h:rdM t u y=some x):t.size=u.size∧t.agg=u.agg∧∀ {O:List Nat} {cs:List Value},f9 H S u O cs y→(∀ b∈O,S' b)→(∀ b,S b→S' b)→f9 H S' t [] cs x:=by
 unfold rdM at h
 split at h
 ·rename_i hm
  split at h
  ·rename_i e
   subst e
   cases h
   exact ⟨a17 u,c3Z u,fun hR hO hS=>b0q hR hO hS hm⟩
  ·split at h
   ·exact c3w h
   ·cases h
 ·cases h

theorem a5r {t:Ty} {r:Option (Sigma Ty.den)} {x:t.den} (h:a3a t r=some x):∃ u y,r=some ⟨u,y⟩:=by
 unfold a3a at h
 split at h
 ·exact ⟨_,_,rfl⟩
 ·cases h

theorem a7g {t u:Ty} (h:t.agg=u.agg) (cs:List Value):j8 t cs=j8 u cs:=by simp only [j8,h]

theorem a5q {t u:Ty} {y:u.den} {x:t.den} (h:a3a t (some ⟨u,y⟩)=some x):t.size=u.size∧t.agg=u.agg∧∀ {O:List Nat} {cs:List Value},f9 H S u O cs y→(∀ b∈O,S' b)→(∀ b,S b→S' b)→f9 H S' t [] cs x:=by
 simp only [a3a] at h
 split at h
 ·rename_i hn
  split at h
  ·rename_i e
   subst e
   cases h
   exact ⟨a8h u,a9Z (Ty.b9i u),fun hR hO hS=>hR.c49 hO hS hn⟩
  ·cases h
 ·exact c3x h

theorem c1q {t u:Ty} {l:List u.den} {x:t.den} (h:a3a t (some ⟨.d0 true u,l⟩)=some x):∃ (t':Ty) (f:u.den→t'.den) (e:t=.d0 false t'),I7 e x=l.map f∧t'.size=u.size ∧
  ∀ {O:List Nat} {cs:List Value} {y:u.den},f9 H S u O cs y→(∀ b∈O,S' b)→(∀ b,S b→S' b)→f9 H S' t' [] cs (f y):=by
 simp only [a3a] at h
 split at h
 ·rename_i hn
  split at h
  ·rename_i e
   subst e
   cases h
   exact ⟨u.sh,cast (B4 u).symm,rfl,a0A (B4 u).symm _ l,M6 u,fun hR hO hS=>hR.a1d hO hS hn⟩
  ·cases h
 ·rename_i hn
  unfold rdM at h
  split at h
  ·rename_i hm
   split at h
   ·rename_i e
    subst e
    cases h
    refine ⟨u.rdT,rdV u,rfl,?_,a17 u,fun hR hO hS=>b0q hR hO hS hm⟩
    show (if h:u.Q7=true then cast (congrArg List (a0Q h)) l else List.map (rdV u) l)=List.map (rdV u) l
    rw [dif_neg (fun e=>by rw [show (Ty.d0 true u).okH=u.Q7 from rfl,e] at hn; cases hn)]
   ·cases h
  ·cases h

theorem b4c {v:AV} {t:Ty} {x:t.den} {val:Value} (h:v.as t=some x) (hv:VX H S ι hp v [val]):∃ cs,val=j8 t cs∧f9 H S t [] cs x:=by
 unfold AV.as at h
 split at h
 ·rename_i u y
  split at h
  ·rename_i hu; subst hu; cases h
   obtain ⟨cs,e,hR⟩:=hv
   exact ⟨cs,by simpa using e,hR⟩
  ·cases h
 ·split at h
  ·cases h
   have:[val]=[Value.slice none 0 0]:=hv
   exact ⟨[.slice none 0 0],by simpa [j8,Ty.agg] using this,.inl ⟨rfl,⟨none,0,rfl,fun _=>rfl⟩,rfl⟩⟩
  ·cases h
 ·cases h

def K2 (ι:Ix) (hp:List (Nat×f7)) (g:List Nat) (b:Nat):Prop:=∃ i e,i∈g∧look i hp=some e∧b∈l6 ι i e

theorem b6v (h:HS B S ι s.hp w) {v:AV} {t:Ty} {x:t.den} {val:Value} (hx:v.asV s t=some x) (hv:VX w.heap S ι s.hp v [val]) {S1:Nat→Prop} (hS:∀ b,S b→S1 b) (hL:∀ b,K2 ι s.hp v.E6 b→S1 b) :
  ∃ cs,val=j8 t cs∧f9 w.heap S1 t [] cs x:=by
 unfold AV.asV at hx
 split at hx
 ·rename_i i p
  obtain ⟨u,y,hp⟩:=a5r hx
  unfold St.a2f at hx
  rw [hp] at hx
  obtain ⟨e,u',y',cs,h1,h2,h3,h4,h5⟩:=hv
  have hg:=F6 h1 hp
  rw [h3] at hg; cases hg
  obtain ⟨O2,k1,_,k2⟩:=G2 h h1 h2 h3 h4
  obtain ⟨_,g2,g3⟩:=a5q (H:=w.heap) (S:=S) (S':=S1) hx
  exact ⟨cs,by rw [a7g g2]; simpa using h5,g3 k2 (fun b hb=>hL b ⟨i,e,by simp [AV.E6],h1,G9 (k1 b hb)⟩) hS⟩
 ·rename_i i p lo hi
  split at hx
  ·rename_i u l hw
   obtain ⟨t',f,e,hf,hsz,hr⟩:=c1q (H:=w.heap) (S:=S) (S':=S1) hx
   subst e
   have hf:x=l.map f:=hf
   subst hf
   have hLB:∀ b,(S b∨b4R ι s.hp i b)→S1 b:=fun b hb=>hb.elim (hS b) (fun ⟨e,h1,h2⟩=>hL b ⟨i,e,by simp [AV.E6],h1,h2⟩)
   -- the blocks are of object i or shared
   obtain ⟨A,c,k1,k2⟩:=b5S h hv hw
   refine ⟨[.slice A l.length c],k1,?_⟩
   rcases k2 with rfl|⟨b,off,O,rfl,hb,h4,h5,h6,h7⟩
   ·exact .inl ⟨rfl,⟨A,c,rfl,fun h=>by cases h⟩,rfl⟩
   ·refine .inr ⟨b,off,c,[],by rw [List.length_map],by rw [List.length_map]; exact h7.1,⟨h7.2,fun h=>by cases h⟩,by rw [List.length_map,hsz]; exact h4,?_,rfl,rfl,hLB b (.inr hb)⟩
    rw [List.length_map,hsz]
    exact i8.map (L:=O) (fun O1 cs x hLm hq=>hr hq (fun b hb=>hLB b (.inr (h6 b (hLm b hb)))) hS) (fun _ h=>h) h5
  ·cases hx
 ·rename_i u x'
  split at hx
  ·rename_i hu; subst hu; cases hx
   obtain ⟨cs,e,hR⟩:=hv
   exact ⟨cs,by simpa using e,hR.s7 (fun _ _=>rfl) hS⟩
  ·obtain ⟨cs,e,hR⟩:=hv
   obtain ⟨_,g2,g3⟩:=a5q (H:=w.heap) (S:=S) (S':=S1) hx
   exact ⟨cs,by rw [a7g g2]; simpa using e,g3 hR (by simp) hS⟩
 ·obtain ⟨cs,e,hR⟩:=b4c hx hv
  exact ⟨cs,e,hR.s7 (fun _ _=>rfl) hS⟩

theorem b0Q (h:HS B S ι s.hp w) {v:AV} {t:Ty} {x:t.den} {val:Value} (hx:v.asR s t=some x) (hv:VX w.heap S ι s.hp v [val]) {S1:Nat→Prop} (hS:∀ b,S b→S1 b) (hL:∀ b,K2 ι s.hp v.E6 b→S1 b) :
  b8s w.heap S1 t val x:=by
 unfold AV.asR at hx
 split at hx
 ·rename_i i p
  obtain ⟨u,y,hp⟩:=a5r hx
  unfold St.a2f at hx
  rw [hp] at hx
  obtain ⟨e,b,off,h1,h2,h3,h4⟩:=hv
  have hg:=F6 h1 hp
  obtain ⟨O2,m1,m2,m3,m4,m5,_⟩:=M9 (K1 h3) (h.ob i e h1) h.slt h2 hg h3
  obtain ⟨g1,g2,g3⟩:=a5q (H:=w.heap) (S:=S) (S':=S1) hx
  refine ⟨b,off,by simpa using h4,hL b ⟨i,e,by simp [AV.E6],h1,m5⟩,by rw [g1]; exact m4,?_⟩
  rw [g1]
  exact g3 m3 (fun b hb=>hL b ⟨i,e,by simp [AV.E6],h1,G9 (m1 b hb)⟩) hS
 ·rename_i u x'
  split at hx
  ·rename_i hu; subst hu; cases hx
   obtain ⟨b,off,e,h1,h2,h3⟩:=hv
   exact ⟨b,off,by simpa using e,hS b h1,h2,h3.s7 (fun _ _=>rfl) hS⟩
  ·cases hx
 ·rename_i i p
  split at hx
  ·rename_i u
   split at hx
   ·rename_i x0 hx0
    cases hx
    obtain ⟨u',y,hp⟩:=a5r hx0
    unfold St.a2f at hx0
    rw [hp] at hx0
    obtain ⟨b0,off0,v0,e0,hb0,hl0,hc0,e,b,off,h1,h2,h3,h4⟩:=hv
    have hg:=F6 h1 hp
    obtain ⟨O2,m1,m2,m3,m4,m5,_⟩:=M9 (K1 h3) (h.ob i e h1) h.slt h2 hg h3
    obtain ⟨g1,g2,g3⟩:=a5q (H:=w.heap) (S:=S) (S':=S1) hx0
    obtain rfl:v0=.pointer (some ⟨b,off,none⟩):=by simpa using h4
    have hk:=g3 m3 (fun b hb=>hL b ⟨i,e,by simp [AV.E6],h1,G9 (m1 b hb)⟩) hS
    refine ⟨b0,off0,by simpa using e0,hS _ hb0,hl0,?_⟩
    rw [show f8 w.heap b0 off0 (Ty.box false none u).size=[.pointer (some ⟨b,off,none⟩)] from hc0]
    exact .inr ⟨_,b,off,[],rfl,rfl,by rw [g1]; exact m4,by rw [g1]; exact hk,rfl,rfl,hL b ⟨i,e,by simp [AV.E6],h1,m5⟩⟩
   ·cases hx
  ·cases hx
 ·cases hx

theorem b4e (h:HS B S ι s.hp w) {S1:Nat→Prop} (hS:∀ b,S b→S1 b):∀ {ts:List Ty} {v:AV} {x:DL ts} {vs:List Value},AV.a6Q s ts v=some x→VX w.heap S ι s.hp v vs→(∀ b,K2 ι s.hp v.E6 b→S1 b)→RdL w.heap S1 ts vs x
 | [],v,x,vs,hx,hv,_=>by
  cases v<;>simp only [AV.a6Q] at hx<;>first|cases hx|skip
  exact hv
 | t::ts,v,x,vs,hx,hv,hL=>by
  cases v<;>simp only [AV.a6Q] at hx<;>first|cases hx|skip
  rename_i a b
  split at hx
  ·rename_i x1 x2 h1 h2
   cases hx
   obtain ⟨v,us,rfl,ha,hb⟩:=hv
   exact ⟨v,us,rfl,b0Q h h1 ha hS (fun c hc=>hL c (by obtain ⟨i,e,q1,q2⟩:=hc; exact ⟨i,e,by simp [AV.E6,q1],q2⟩)),b4e h hS h2 hb (fun c hc=>hL c (by obtain ⟨i,e,q1,q2⟩:=hc; exact ⟨i,e,by simp [AV.E6,q1],q2⟩))⟩
  ·cases hx

theorem b6s {H:Array Go.Obj} {t':Ty} {O2:List Nat} {A:Option Addr} {cap:Nat} {x':List t'.den} {lo hi:Int} {v:Value} (m3:f9 H S (.d0 true t') O2 [.slice A (List.length x') cap] x') (m2:O2.Nodup) (h4:0≤lo) (h5:lo≤hi) (k2:hi≤(List.length x':Int)) (hv:b4j t'.size A cap lo hi v) :
  ∃ O cs,v=j8 (.d0 true t') cs∧f9 H S (.d0 true t') O cs (B5 lo hi x')∧O.Nodup∧∀ b∈O,b∈O2:=by
 obtain ⟨c,A',k4,kA,k5,k6⟩:=hv
 have hlen:(B5 lo hi x').length=(hi - lo).toNat:=W4 h4 k2
 by_cases hc:c=0
 ·refine ⟨[],[.slice A' 0 0],?_,.inl ⟨rfl,⟨A',0,rfl,fun _=>rfl⟩,?_⟩,List.nodup_nil,by simp⟩
  ·rw [k4,hc]
   have:(hi - lo).toNat=0:=by omega
   rw [this]; rfl
  ·exact List.length_eq_zero_iff.1 (by omega)
 ·rcases m3 with ⟨_,⟨a2,c2,q1,q2⟩,hn⟩|⟨b1,o1,cap',O',c1,c2,c3,c4,c5,rfl,c7⟩
  ·exfalso
   simp only [List.cons.injEq,Value.slice.injEq,and_true] at q1
   have:=q2 rfl
   omega
  ·simp only [List.cons.injEq,Value.slice.injEq,and_true] at c1
   obtain ⟨rfl,_,rfl⟩:=c1
   obtain ⟨P1,P2,P3,e1,g1⟩:=c5.cut lo.toNat (hi - lo).toNat
   have hle:lo.toNat*t'.size+(hi - lo).toNat*t'.size≤List.length x'*t'.size:=by rw [← Nat.add_mul]; exact Nat.mul_le_mul_right _ (by omega)
   have hcap:(lo.toNat+c)*t'.size≤cap*t'.size:=Nat.mul_le_mul_right _ (Nat.le_of_eq k6)
   rw [Nat.add_mul] at hcap
   rw [n9,n8 _ _ _ _ (by omega)] at g1
   have hnd:(b1::P2).Nodup:=by
    rw [e1] at m2
    have h1:=List.nodup_cons.1 m2
    refine List.nodup_cons.2 ⟨fun hb=>h1.1 (by simp [hb]),(List.nodup_append.1 (List.nodup_append.1 h1.2).2.1).1⟩
   refine ⟨b1::P2,[.slice (some ⟨b1,o1+lo.toNat*t'.size,none⟩) (B5 lo hi x').length c],?_,.inr ⟨b1,o1+lo.toNat*t'.size,c,P2,rfl,by rw [hlen]; exact k5,⟨by have:=c3.1; omega,fun _=>by omega⟩,by rw [hlen]; omega,by rw [hlen]; exact g1,rfl,c7.mono (by omega)⟩,hnd,fun b hb=>?_⟩
   ·rw [k4,kA hc,hlen,Option.map_some,Addr.F3]; rfl
   ·rcases List.mem_cons.1 hb with rfl|hb
    ·simp
    ·rw [e1]; simp [hb]

theorem a1i (h:HS B S ι s.hp w) {v:AV} {val:Value} {t:Ty} {x:t.den} {g:List Nat} (hg:v.U5 s=some (⟨t,x⟩,g)) (hv:VX w.heap S ι s.hp v [val]) :
  ∃ O cs,val=j8 t cs∧f9 w.heap S t O cs x∧O.Nodup∧∀ b∈O,K2 ι s.hp g b:=by
 unfold AV.U5 at hg
 split at hg
 ·cases hg
  obtain ⟨cs,e,hR⟩:=hv
  exact ⟨[],cs,by simpa using e,hR,List.nodup_nil,by simp⟩
 ·rename_i i
  split at hg
  ·rename_i t' x' hob
   cases hg
   obtain ⟨e,u,y,cs,h1,h2,h3,h4,h5⟩:=hv
   obtain rfl:=a0a h1 hob
   rw [x9] at h3; cases h3
   obtain ⟨O2,m1,m2,m3⟩:=G2 h h1 h2 x9 h4
   have h5:val=j8 t cs:=by simpa [f7.ty] using h5
   exact ⟨O2,cs,h5,m3,m2,fun b hb=>⟨i,_,by simp,h1,G9 (m1 b hb)⟩⟩
  ·cases hg
 ·rename_i i lo hi
  split at hg
  ·rename_i t' x' hob
   cases hg
   obtain ⟨e,v,h1,h2,h3,h4,h5,h6⟩:=hv
   obtain rfl:=a0a h1 hob
   cases h3
   rcases h6 with ⟨t1,l,A,cap,k1,k2,k3,k4⟩|⟨n,t1,l,b,off,k1,_,k3,_⟩
   ·have k1:i6 (.d0 true t') x' []=some ⟨.d0 true t1,l⟩:=k1
    rw [x9] at k1; cases k1
    obtain ⟨O2,m1,m2,m3⟩:=G2 h h1 h2 x9 k3
    obtain ⟨O,cs,q1,q2,q3,q4⟩:=b6s m3 m2 h4 h5 k2 k4
    exact ⟨O,cs,q1,q2,q3,fun b hb=>⟨i,_,by simp,h1,G9 (m1 b (q4 b hb))⟩⟩
   ·exfalso
    simp only [Loc,Place,x8,VR] at k3
    simp at k3
  ·cases hg
 ·cases hg

theorem a37 (h:HS B S ι s.hp w) {v:AV} {val:Value} {t:Ty} {x:t.den} {g:List Nat} (hg:v.W8 s=some (⟨t,x⟩,g)) (hv:VX w.heap S ι s.hp v [val]) :
  ∃ O cs,val=j8 t cs∧f9 w.heap S t O cs x∧O.Nodup∧∀ b∈O,K2 ι s.hp g b:=by
 unfold AV.W8 at hg
 split at hg
 ·rename_i i
  split at hg
  ·rename_i t' x' hob
   cases hg
   obtain ⟨e,u,y,cs,h1,h2,h3,h4,h5⟩:=hv
   obtain rfl:=a0a h1 hob
   rw [x9] at h3; cases h3
   obtain ⟨O2,m1,m2,m3⟩:=G2 h h1 h2 x9 h4
   have h5:val=j8 t cs:=by simpa [f7.ty] using h5
   exact ⟨O2,cs,h5,m3,m2,fun b hb=>⟨i,_,by simp,h1,G9 (m1 b hb)⟩⟩
  ·exact a1i h hg hv
 ·rename_i f
  cases hg
  obtain ⟨us,e,rfl⟩:=hv
  have e:val=.func (.func f) #[] #[]:=by simpa using e
  exact ⟨[],[fnV f true],e,⟨rfl,rfl⟩,List.nodup_nil,by simp⟩
 ·exact a1i h hg hv

theorem K2.mono {g g':List Nat} {b:Nat} (h:K2 ι hp g b) (hs:∀ i∈g,i∈g'):K2 ι hp g' b:=by
 obtain ⟨i,e,h1,h2⟩:=h; exact ⟨i,e,hs i h1,h2⟩

def PK.reads:PK→Bool
 | .own _|.rw _|.mu _|.X5 _ _|.el _=>false
 | _=>true

theorem c3W (h:HS B S ι s.hp w) {S1:Nat→Prop} (hS:∀ b,S b→S1 b) {k:PK} {v:AV} {x:k.den} {val:Value} {g m:List Nat} (hx:v.M2 s k=some (x,g,m)) (hv:VX w.heap S ι s.hp v [val])
  (hL:k.reads=true→∀ b,K2 ι s.hp v.E6 b→S1 b) :
  ∃ L,c4T w.heap S1 k val x L∧L.Nodup∧(∀ b∈L,K2 ι s.hp (g++m) b)∧∀ i∈m,∀ e,look i s.hp=some e→∀ b∈l6 ι i e,b∈L:=by
 cases k with
 | v t =>
  simp only [AV.M2] at hx
  split at hx
  ·rename_i y hy; cases hx
   obtain ⟨cs,e,hR⟩:=b6v h hy hv hS (hL rfl)
   exact ⟨[],⟨rfl,cs,e,hR⟩,List.nodup_nil,by simp,by simp⟩
  ·cases hx
 | rd t =>
  simp only [AV.M2] at hx
  split at hx
  ·rename_i y hy; cases hx
   exact ⟨[],⟨rfl,b0Q h hy hv hS (hL rfl)⟩,List.nodup_nil,by simp,by simp⟩
  ·cases hx
 | s4 f ts =>
  cases v<;>simp only [AV.M2] at hx<;>first|cases hx|skip
  rename_i f' l
  cases hb:Nat.beq f f' with
  | false=>rw [hb] at hx; cases hx
  | true =>
   rw [hb] at hx
   simp only at hx
   have hff:=Nat.eq_of_beq_eq_true hb
   split at hx
   ·rename_i y hy; cases hx
    obtain ⟨us,e,hus⟩:=hv
    exact ⟨[],⟨rfl,us,by simpa [hff] using e,b4e h hS hy hus (fun b hb=>hL rfl b hb)⟩,List.nodup_nil,by simp,by simp⟩
   ·cases hx
 | X5 f n=>simp only [AV.M2] at hx; cases hx
 | el q=>simp only [AV.M2] at hx; cases hx
 | R4 =>
  simp only [AV.M2] at hx
  split at hx
  ·cases hx
   exact ⟨[],⟨rfl,by simpa using (show [val]=[Value.slice none 0 0] from hv)⟩,List.nodup_nil,by simp,by simp⟩
  ·cases hx
 | own t =>
  simp only [AV.M2] at hx
  split at hx
  ·split at hx
   ·rename_i y hy; cases hx
    obtain ⟨cs,e,hR⟩:=b4c hy hv
    exact ⟨[],⟨cs,e,hR.s7 (fun _ _=>rfl) hS⟩,List.nodup_nil,by simp,by simp⟩
   ·cases hx
  ·split at hx
   ·rename_i u y l hg
    split at hx
    ·rename_i hu; subst hu; cases hx
     obtain ⟨O,cs,e,hR,hnd,hO⟩:=a37 h hg hv
     exact ⟨O,⟨cs,e,hR.s7 (fun _ _=>rfl) hS⟩,hnd,fun b hb=>(hO b hb).mono (by simp),by simp⟩
    ·cases hx
   ·cases hx
 | rw t =>
  simp only [AV.M2] at hx
  split at hx
  ·rename_i i
   split at hx
   ·rename_i u y hob
    split at hx
    ·rename_i hu; subst hu; cases hx
     obtain ⟨e,b,off,h1,h2,h3,h4⟩:=hv
     obtain rfl:=a0a h1 hob
     obtain ⟨⟨O,hO,hR⟩,hf,hnd⟩:=h.ob i _ h1
     have hl:(ι.root i).1=b∧(ι.root i).2=off:=by
      have:=(A7 h3).1
      simp only [Place,x8,VR,Option.some.injEq,Prod.mk.injEq] at this
      exact this
     obtain ⟨rfl,rfl⟩:=hl
     refine ⟨(ι.root i).1::O,⟨_,_,O,by simpa using h4,hR.s7 (fun _ _=>rfl) hS,hf,rfl⟩,?_,?_,?_⟩
     ·exact ((hO.cons _).nodup_iff).2 hnd
     ·intro c hc
      refine ⟨i,_,by simp,h1,?_⟩
      simp only [l6]
      exact ((hO.cons _).mem_iff).1 hc
     ·intro j hj e' he' c hc
      simp only [List.mem_cons,List.not_mem_nil,or_false] at hj
      subst hj
      rw [h1] at he'; cases he'
      exact ((hO.cons _).mem_iff).2 hc
    ·cases hx
   ·cases hx
  ·cases hx
 | mu t =>
  simp only [AV.M2] at hx
  split at hx
  ·rename_i i
   split at hx
   ·rename_i u y hob
    split at hx
    ·rename_i hu; subst hu; cases hx
     obtain ⟨e,u',y',cs,h1,h2,h3,h4,h5⟩:=hv
     obtain rfl:=a0a h1 hob
     rw [x9] at h3; cases h3
     obtain ⟨⟨O,hO,hR⟩,hnd⟩:=h.ob i _ h1
     have hcs:=O5 h4 hR.length
     have h5:val=j8 (.d0 true t) cs:=by simpa [f7.ty] using h5
     refine ⟨O,⟨cs,h5,by rw [hcs]; exact hR.s7 (fun _ _=>rfl) hS⟩,(hO.nodup_iff).2 hnd,?_,?_⟩
     ·intro c hc
      exact ⟨i,_,by simp,h1,hO.mem_iff.1 hc⟩
     ·intro j hj e' he' c hc
      simp only [List.mem_cons,List.not_mem_nil,or_false] at hj
      subst hj
      rw [h1] at he'; cases he'
      exact hO.mem_iff.2 hc
    ·cases hx
   ·cases hx
  ·cases hx

end
end Go.Ex

namespace Go.Ex

section
variable {E:Env} {B:C6} {S S':Nat→Prop} {ι:Ix} {s:St} {a:Act} {w:World} {hp:List (Nat×f7)} {H H':Array Go.Obj}

theorem a04:∀ {l:List Nat},a1J l=true→l.Nodup
 | [],_=>List.nodup_nil
 | a::l,h=>by
  simp only [a1J,Bool.and_eq_true,Bool.not_eq_true'] at h
  refine List.nodup_cons.2 ⟨fun hm=>?_,a04 h.2⟩
  have:=h.1
  simp [hm] at this

theorem b1y:∀ {l m:List Nat},b7L l m=true→∀ i∈l,i∉m
 | [],_,_,i,hi=>by cases hi
 | a::l,m,h,i,hi=>by
  simp only [b7L,Bool.and_eq_true,Bool.not_eq_true'] at h
  rcases List.mem_cons.1 hi with rfl|hi
  ·intro hm; have:=h.1; simp [hm] at this
  ·exact b1y h.2 i hi

theorem b4f (h:HS B S ι s.hp w) {S1:Nat→Prop} (hS:∀ b,S b→S1 b):∀ {ks:List PK} {v:AV} {x:DK ks} {vs:List Value} {g m:List Nat},AV.a0Z s ks v=some (x,g,m)→VX w.heap S ι s.hp v vs→(g++m).Nodup →
  (∀ b,K2 ι s.hp (R7.loose ks v) b→S1 b)→∃ L,R8 w.heap S1 ks vs x L∧L.Nodup∧(∀ b∈L,K2 ι s.hp (g++m) b)∧∀ i∈m,∀ e,look i s.hp=some e→∀ b∈l6 ι i e,b∈L
 | [],v,x,vs,g,m,hx,hv,_,_=>by
  cases v<;>simp only [AV.a0Z] at hx<;>first|cases hx|skip
  exact ⟨[],⟨hv,rfl⟩,List.nodup_nil,by simp,by simp⟩
 | k::ks,v,x,vs,g,m,hx,hv,hnd,hL=>by
  cases v<;>simp only [AV.a0Z] at hx<;>first|cases hx|skip
  rename_i a b
  split at hx
  ·rename_i x1 g1 m1 x2 g2 m2 h1 h2
   cases hx
   obtain ⟨v,us,rfl,ha,hb⟩:=hv
   have hn1:∀ i,i∈g1++m1→i∉g2++m2:=by
    intro i hi hi'
    simp only [List.mem_append] at hi hi'
    have hgm:=List.nodup_append.1 hnd
    have hg:=List.nodup_append.1 hgm.1
    have hm:=List.nodup_append.1 hgm.2.1
    rcases hi with hi|hi<;>rcases hi' with hi'|hi'
    ·exact hg.2.2 i hi i hi' rfl
    ·exact hgm.2.2 i (by simp [hi]) i (by simp [hi']) rfl
    ·exact hgm.2.2 i (by simp [hi']) i (by simp [hi]) rfl
    ·exact hm.2.2 i hi i hi' rfl
   have hnd2:(g2++m2).Nodup:=by
    have hgm:=List.nodup_append.1 hnd
    have hg:=List.nodup_append.1 hgm.1
    have hm:=List.nodup_append.1 hgm.2.1
    exact List.nodup_append.2 ⟨hg.2.1,hm.2.1,fun i hi j hj=>hgm.2.2 i (by simp [hi]) j (by simp [hj])⟩
   obtain ⟨L1,k1,k2,k3,k4⟩:=c3W h hS h1 ha (fun hr c hc=>hL c (by
    obtain ⟨i,e,q1,q2⟩:=hc
    refine ⟨i,e,?_,q2⟩
    cases k<;>first|(show i∈a.E6++R7.loose ks b; exact List.mem_append_left _ q1)|(exfalso; simp [PK.reads] at hr; done)))
   obtain ⟨L2,n1,n2,n3,n4⟩:=b4f h hS h2 hb hnd2 (fun c hc=>hL c (by
    obtain ⟨i,e,q1,q2⟩:=hc
    refine ⟨i,e,?_,q2⟩
    cases k<;>first|(show i∈a.E6++R7.loose ks b; exact List.mem_append_right _ q1)|(show i∈R7.loose ks b; exact q1)))
   refine ⟨L1++L2,⟨v,us,L1,L2,rfl,rfl,k1,n1⟩,List.nodup_append.2 ⟨k2,n2,?_⟩,?_,?_⟩
   ·rintro c hc d hd rfl
    obtain ⟨i,e,q1,q2,q3⟩:=k3 c hc
    obtain ⟨j,e',r1,r2,r3⟩:=n3 c hd
    have hij:i≠j:=by rintro rfl; exact hn1 i q1 r1
    exact h.dj i j e e' q2 r2 hij c q3 r3
   ·intro c hc
    rcases List.mem_append.1 hc with hc|hc
    ·exact (k3 c hc).mono (by simp; intro i hi; rcases hi with hi|hi<;>simp [hi])
    ·exact (n3 c hc).mono (by simp; intro i hi; rcases hi with hi|hi<;>simp [hi])
   ·intro i hi e he c hc
    rcases List.mem_append.1 hi with hi|hi
    ·exact List.mem_append_left _ (k4 i hi e he c hc)
    ·exact List.mem_append_right _ (n4 i hi e he c hc)
  ·cases hx

theorem a8G {s:St}:∀ {ks:List PK} {v:AV} {r:DK ks×List Nat×List Nat},AV.a0Z s ks v=some r→ks.any PK.lnk=false
 | [],_,_,_=>rfl
 | k::ks,v,r,hx=>by
  cases v<;>simp only [AV.a0Z] at hx<;>first|cases hx|skip
  split at hx
  ·rename_i x1 g1 m1 x2 g2 m2 h1 h2
   rw [List.any_cons,a8G h2,Bool.or_false]
   cases k<;>first|rfl|(simp only [AV.M2] at h1; cases h1)
  ·cases hx

theorem f9.I5:∀ {t:Ty} {O:List Nat} {cs:List Value} {x:t.den},t.I5=true→f9 H S t O cs x→f9 H S' t O cs x:=by
 intro t
 induction t with
 | int k=>intro O cs x _ h; exact h
 | bool=>intro O cs x _ h; exact h
 | str=>intro O cs x _ h; exact h
 | unit=>intro O cs x _ h; exact h
 | fn f=>intro O cs x _ h; exact h
 | hole t _=>intro O cs x _ h; exact h
 | y7 t _=>intro O cs x hn; cases hn
 | map o k v ihk ihv =>
  rintro O cs x hn h
  simp only [Ty.I5,Bool.and_eq_true] at hn
  rcases h with h|⟨l,b,es,ck,h0,h2,h3,h4,h5⟩
  ·exact .inl h
  refine .inr ⟨l,b,es,ck,h0,h2,h3,h4.mono (fun _ _ h=>ihk hn.1.2 h) (fun _ _ h=>ihv hn.2 h),?_⟩
  rw [hn.1.1] at h5 ⊢
  exact h5
 | box o g t ih =>
  rintro O cs x hn h
  simp only [Ty.I5,Bool.and_eq_true] at hn
  rcases h with h|⟨y,b,off,O',h0,h1,h2,h3,h4⟩
  ·exact .inl h
  refine .inr ⟨y,b,off,O',h0,h1,h2,ih hn.2 h3,?_⟩
  rw [hn.1] at h4 ⊢
  exact h4
 | pair a c iha ihc =>
  rintro O cs x hn ⟨O1,O2,e,h1,h2⟩
  simp only [Ty.I5,Bool.and_eq_true] at hn
  exact ⟨O1,O2,e,iha hn.1 h1,ihc hn.2 h2⟩
 | arr n t ih =>
  rintro O cs x hn ⟨h1,h2⟩
  exact ⟨h1,i8.mono (L:=O) (fun _ h=>h) (fun _ _ _ _ h=>ih hn h) h2⟩
 | d0 o t ih =>
  rintro O cs x hn h
  simp only [Ty.I5,Bool.and_eq_true] at hn
  rcases h with h|⟨b,off,cap,O',c1,c2,c3,c4,c5,c6⟩
  ·exact .inl h
  ·rw [hn.1] at c6
   refine .inr ⟨b,off,cap,O',c1,c2,c3,c4,i8.mono (L:=O') (fun _ h=>h) (fun _ _ _ _ h=>ih hn.2 h) c5,?_⟩
   rw [hn.1]; exact c6

theorem K4.mono {T:Nat→Prop}:∀ {ts:List Ty} {O:List Nat} {vs:List Value} {x:DL ts},K4 H S ts O vs x→(∀ b,S b→T b)→K4 H T ts O vs x
 | [],_,_,_,h,_=>h
 | _::_,_,_,_,⟨v,us,O1,O2,cs,e1,e2,e3,h1,h2⟩,hT=>⟨v,us,O1,O2,cs,e1,e2,e3,h1.s7 (fun _ _=>rfl) hT,K4.mono h2 hT⟩

theorem K4.I5:∀ {ts:List Ty} {O:List Nat} {vs:List Value} {x:DL ts},ts.all Ty.I5=true→K4 H S ts O vs x→K4 H S' ts O vs x
 | [],_,_,_,_,h=>h
 | t::ts,_,_,_,hn,⟨v,us,O1,O2,cs,e1,e2,e3,h1,h2⟩=>by
  simp only [List.all_cons,Bool.and_eq_true] at hn
  exact ⟨v,us,O1,O2,cs,e1,e2,e3,h1.I5 hn.1,K4.I5 hn.2 h2⟩


theorem E9.I5:∀ {ks:List PK} {vs:List Value} {y:DL (C9 ks)} {L:List Nat},(C9 ks).all Ty.I5=true→E9 H S ks vs y L→E9 H S' ks vs y L
 | [],_,_,_,_,h=>h
 | .rw t::ks,_,_,_,hn,⟨b,off,O,us,L',e1,e2,e3,e4,e5⟩=>by
  simp only [C9,List.all_cons,Bool.and_eq_true] at hn
  exact ⟨b,off,O,us,L',e1,e2.I5 hn.1,e3,e4,E9.I5 hn.2 e5⟩
 | .mu t::ks,_,_,_,hn,⟨cs,O,us,L',e1,e1',e2,e4,e5⟩=>by
  simp only [C9,List.all_cons,Bool.and_eq_true] at hn
  exact ⟨cs,O,us,L',e1,e1',e2.I5 hn.1,e4,E9.I5 hn.2 e5⟩
 | .v _::ks,_,_,_,hn,⟨v,us,e,h⟩=>⟨v,us,e,E9.I5 (ks:=ks) hn h⟩
 | .rd _::ks,_,_,_,hn,⟨v,us,e,h⟩=>⟨v,us,e,E9.I5 (ks:=ks) hn h⟩
 | .s4 _ _::ks,_,_,_,hn,⟨v,us,e,h⟩=>⟨v,us,e,E9.I5 (ks:=ks) hn h⟩
 | .R4::ks,_,_,_,hn,⟨v,us,e,h⟩=>⟨v,us,e,E9.I5 (ks:=ks) hn h⟩
 | .X5 _ _::ks,_,_,_,hn,⟨v,us,e,h⟩=>⟨v,us,e,E9.I5 (ks:=ks) hn h⟩
 | .el _::ks,_,_,_,hn,⟨v,us,e,h⟩=>⟨v,us,e,E9.I5 (ks:=ks) hn h⟩
 | .own _::ks,_,_,_,hn,⟨v,us,e,h⟩=>⟨v,us,e,E9.I5 (ks:=ks) hn h⟩


theorem c2a:∀ {t:Ty} {p:List Step} {b off:Nat} {G G':Array Go.Obj},a5z p=true→x5 G t p b off=x5 G' t p b off:=by
 intro t
 induction t with
 | pair a c iha ihc =>
  intro p b off G G' h
  match p,h with
  | [],_=>rfl
  | .j6 0::p,h=>exact iha h
  | .j6 (n+1)::p,h=>exact ihc (p:=.j6 n::p) h
  | .idx i::p,h=>cases h
 | d0 o t ih =>
  intro p b off G G' h
  match p,h with
  | [],_=>rw [x8,x8]
  | .j6 i::p,_=>cases o<;>simp [x5]
  | .idx i::p,h=>cases h
 | _ =>
  intro p b off G G' h
  match p,h with
  | [],_=>rw [x8,x8]
  | .j6 i::p,_=>simp [x5]
  | .idx i::p,h=>cases h

theorem c3C:∀ {t:Ty} {p:List Step} {x y:t.den},a5z p=true→w6 t x p→w6 t y p:=by
 intro t
 induction t with
 | pair a c iha ihc =>
  intro p x y h ho
  match p,h,ho with
  | [],_,_=>trivial
  | .j6 0::p,h,ho=>exact iha (x:=x.1) h ho
  | .j6 (n+1)::p,h,ho=>exact ihc (p:=.j6 n::p) (x:=x.2) h ho
  | .idx i::p,h,_=>cases h
 | d0 o t ih =>
  intro p x y h ho
  match p,h,ho with
  | [],_,_=>exact L7
  | .j6 i::p,_,ho=>cases o<;>simp [w6] at ho
  | .idx i::p,h,_=>cases h
 | _ =>
  intro p x y h ho
  match p,h,ho with
  | [],_,_=>exact L7
  | .j6 i::p,_,ho=>simp [w6] at ho
  | .idx i::p,h,_=>cases h

def b0l (e e':f7):Prop:=(∃ t x x',e=.var t x∧e'=.var t x')∨(∃ t x x',e=.own (.d0 true t) x∧e'=.own (.d0 true t) x')∨(∃ o k v x x',e=.own (.map o k v) x∧e'=.own (.map o k v) x')

theorem RS.renew (h:RS B S ι s a w) {i:Nat} {e e':f7} (he:look i s.hp=some e) (hal:b0l e e') {F:List Nat} (hF:C5 B S ι s.hp w F) {L:List Nat} {w':World} (k:C0 L w w') (hLs:∀ b∈L,b∈l6 ι i e∨b∈F) (hS:∀ b,S b→S' b)
  (hS':∀ b,S' b→S b∨(w.heap.size≤b∧b<w'.heap.size)) {O':List Nat} (hob:OB w'.heap S' (ι.B1 i O') i e') (hO':∀ c∈l6 (ι.B1 i O') i e',¬ S' c∧(w.heap.size≤c∨c∈L)∧c<w'.heap.size) :
  RS B S' (ι.B1 i O') ((s.U3 i e.Z1).s6 i e') a w':=by
 have hnb:e≠.J0:=by rcases hal with ⟨_,_,_,h,_⟩|⟨_,_,_,h,_⟩|⟨_,_,_,_,_,h,_⟩<;>(rw [h]; intro h; cases h)
 have hLfact:∀ b∈L,¬ S b∧(B.w0.heap.size≤b∨B.M b)∧b<w.heap.size∧∀ j ej,j≠i→look j s.hp=some ej→b∉l6 ι j ej:=by
  intro b hb
  rcases hLs b hb with h1|h1
  ·obtain ⟨q1,q2,q3⟩:=h.hs.bl i e he b h1
   exact ⟨q1,q2,q3,fun j ej hj hlj=>h.hs.dj i j e ej he hlj (Ne.symm hj) b h1⟩
  ·obtain ⟨q1,q2,q3,q4⟩:=hF.2 b h1
   exact ⟨q1,q2,q3,fun j ej _ hlj=>q4 j ej hlj⟩
 have hold:∀ {b:Nat},((∃ j ej,j≠i∧look j s.hp=some ej∧b∈l6 ι j ej)∨S b)→w'.heap[b]?=w.heap[b]?:=by
  intro b hb
  refine k.frame b (hb.elim (fun ⟨j,ej,_,h1,h2⟩=>(h.hs.bl j ej h1 b h2).2.2) (h.hs.slt b)) (fun hbL=>?_)
  obtain ⟨q1,_,_,q4⟩:=hLfact b hbL
  rcases hb with ⟨j,ej,h0,h1,h2⟩|hb
  ·exact q4 j ej h0 h1 h2
  ·exact q1 hb
 have hnew:∀ c∈l6 (ι.B1 i O') i e',(¬ S' c∧(B.w0.heap.size≤c∨B.M c)∧c<w'.heap.size)∧∀ j ej,j≠i→look j s.hp=some ej→c∉l6 ι j ej:=by
  intro c hc
  obtain ⟨q1,q2,q3⟩:=hO' c hc
  rcases q2 with q2|q2
  ·exact ⟨⟨q1,.inl (Nat.le_trans h.hs.size q2),q3⟩,fun j ej _ hlj hcb=>by have:=(h.hs.bl j ej hlj c hcb).2.2; omega⟩
  ·obtain ⟨r1,r2,r3,r4⟩:=hLfact c q2
   exact ⟨⟨q1,r2,q3⟩,r4⟩
 have hsame:∀ j,j≠i→C7 ι (ι.B1 i O') j:=fun j hj=>a0d hj _
 have hHS:HS B S' (ι.B1 i O') (Ex.put i e' s.hp) w':=by
  refine ⟨k.os.trans h.hs.os,k.tape.trans h.hs.tape,k.out.trans h.hs.out,Nat.le_trans h.hs.size k.size,?_,?_,fun b hb=>hS b (h.hs.s0 b hb),?_,?_,?_,?_,?_⟩
  ·intro c hc hm
   rw [k.frame c (Nat.lt_of_lt_of_le hc h.hs.size) (fun hcL=>by rcases (hLfact c hcL).2.1 with h1|h1; omega; exact hm h1)]
   exact h.hs.frame c hc hm
  ·intro b hb
   rcases hS' b hb with h1|h1
   ·exact Nat.lt_of_lt_of_le (h.hs.slt b h1) k.size
   ·exact h1.2
  ·intro b hb
   rcases hS' b hb with h1|h1
   ·exact h.hs.s1 b h1
   ·exact .inr (Nat.le_trans h.hs.size h1.1)
  ·intro j ej hj
   rw [p7] at hj
   by_cases e1:j=i
   ·subst e1; rw [if_pos rfl] at hj; cases hj; exact hob
   ·rw [if_neg e1] at hj
    exact (hsame j e1).ob.2 ((h.hs.ob j ej hj).s7 (fun b hb=>hold (hb.imp (fun hb=>⟨j,ej,e1,hj,hb⟩) id)) hS)
  ·intro j ej hj c hc
   rw [p7] at hj
   by_cases e1:j=i
   ·subst e1; rw [if_pos rfl] at hj; cases hj; exact (hnew c hc).1
   ·rw [if_neg e1] at hj
    rw [(hsame j e1).l6] at hc
    obtain ⟨q1,q2,q3⟩:=h.hs.bl j ej hj c hc
    refine ⟨fun hs=>?_,q2,Nat.lt_of_lt_of_le q3 k.size⟩
    rcases hS' c hs with h1|h1
    ·exact q1 h1
    ·omega
  ·intro j l ej el hj hl hjl c hc
   rw [p7] at hj hl
   by_cases e1:j=i
   ·subst e1
    rw [if_pos rfl] at hj; cases hj
    rw [if_neg (Ne.symm hjl)] at hl
    rw [(hsame l (Ne.symm hjl)).l6]
    exact (hnew c hc).2 l el (Ne.symm hjl) hl
   ·rw [if_neg e1] at hj
    rw [(hsame j e1).l6] at hc
    by_cases e2:l=i
    ·subst e2
     rw [if_pos rfl] at hl; cases hl
     exact fun hcc=>(hnew c hcc).2 j ej e1 hj hc
    ·rw [if_neg e2] at hl
     rw [(hsame l e2).l6]
     exact h.hs.dj j l ej el hj hl hjl c hc
  ·intro q hq
   obtain ⟨k0,⟨e1,k1⟩,k2,k3⟩:=h.hs.pin q hq
   refine ⟨k0,?_,k2,k3⟩
   rw [p7]
   by_cases e2:q.1=i
   ·exact ⟨_,by rw [if_pos e2]⟩
   ·exact ⟨e1,by rw [if_neg e2]; exact k1⟩
 refine ⟨hHS,h.dfr,h.sz,?_⟩
 intro t v hv
 simp only [St.s6,St.U3,H6,Option.map_eq_some_iff] at hv
 obtain ⟨v0,hv0,rfl⟩:=hv
 refine VX.map (fun c hc=>hold (.inr hc)) hS (fun v vs hr hm hvx=>?_) (h.fr t v0 hv0)
 unfold AV.a1O
 have honex:=VX.one hr hvx
 cases hmi:v.g8 i with
 | false =>
  have hne:∀ j,v.g8 j=true→j≠i:=by rintro j hj rfl; rw [hmi] at hj; cases hj
  have hst:VX w'.heap S' ι (del i s.hp) v vs:=by
   refine VX.grow (fun c hcm=>hold ?_) hS h.hs.slt (fun j ej hj=>?_) (VX.other (hp':=del i s.hp) (fun j hj=>by rw [I6,if_neg (hne j hj)]) (fun j _=>C7.refl ι j) hvx)
   ·rcases hcm with ⟨j,ej,hj,hcj⟩|hcm
    ·rw [I6] at hj
     split at hj
     ·cases hj
     ·rename_i hji
      exact .inl ⟨j,ej,hji,hj,hcj⟩
    ·exact .inr hcm
   ·rw [I6] at hj
    split at hj
    ·cases hj
    ·exact h.hs.ob j ej hj
  exact VX.other (fun j hj=>by simp only [St.s6,p7,I6,if_neg (hne j hj)]; rfl) (fun j hj=>hsame j (hne j hj)) hst
 | true =>
  simp only
  cases v<;>simp only [AV.ref] at hr<;>try cases hr
  ·rename_i j q
   have hji:i=j:=Nat.eq_of_beq_eq_true hmi
   subst hji
   cases hfl:a5z q with
   | false=>simp only [hfl]; exact honex
   | true =>
    simp only [hfl]
    obtain ⟨ej,b2,off2,k1,k2,k3,k4⟩:=hvx
    rw [he] at k1; cases k1
    rcases hal with ⟨t0,x0,x1,rfl,rfl⟩|⟨t0,x0,x1,rfl,rfl⟩|⟨o0,k0,v0,x0,x1,rfl,rfl⟩
    ·obtain ⟨p1,p2⟩:=A7 k3
     refine ⟨.var t0 x1,b2,off2,by simp [St.s6,p7],c3C hfl k2,a0b ?_ (Nat.lt_of_lt_of_le p2 k.size),k4⟩
     simp only [Place,VR,VH,Ix.B1,f7.ty] at p1 ⊢
     rw [c2a (G':=w.heap) hfl]; exact p1
    ·exfalso
     obtain ⟨p1,p2⟩:=A7 k3
     cases q with
     | nil =>
      simp only [Place,x8,VR,Option.some.injEq,Prod.mk.injEq] at p1
      omega
     | cons st q =>
      cases st with
      | j6 n=>have k2:w6 (.d0 true t0) x0 (.j6 n::q):=k2; simp [w6] at k2
      | idx n=>cases hfl
    ·exfalso
     obtain ⟨p1,p2⟩:=A7 k3
     cases q with
     | nil =>
      simp only [Place,x8,VR,Option.some.injEq,Prod.mk.injEq] at p1
      omega
     | cons st q =>
      cases st with
      | j6 n=>have k2:w6 (.map o0 k0 v0) x0 (.j6 n::q):=k2; simp [w6] at k2
      | idx n=>cases hfl
  ·rename_i j q
   have hji:i=j:=Nat.eq_of_beq_eq_true hmi
   subst hji
   cases q with
   | cons st q=>exact honex
   | nil =>
    rcases hal with ⟨t0,x0,x1,rfl,rfl⟩|⟨t0,x0,x1,rfl,rfl⟩|⟨o0,k0,v0,x0,x1,rfl,rfl⟩
    ·exact honex
    ·obtain ⟨ej,u2,y2,cs2,k1,k2,k3,k4,k5⟩:=hvx
     rw [he] at k1; cases k1
     rw [x9] at k3; cases k3
     obtain ⟨⟨O1,_,hR1⟩,_⟩:=h.hs.ob i _ he
     have hcs2:=O5 k4 hR1.length
     exact ⟨.own (.d0 true t0) x1,.d0 true t0,x1,cs2,by simp [St.s6,p7],L7,x9,a1t (show ι.cells i=cs2 from hcs2.symm) (by rw [hcs2]; exact hR1.length),k5⟩
    ·obtain ⟨ej,u2,y2,cs2,k1,k2,k3,k4,k5⟩:=hvx
     rw [he] at k1; cases k1
     rw [x9] at k3; cases k3
     obtain ⟨⟨O1,_,hR1⟩,_⟩:=h.hs.ob i _ he
     have hcs2:=O5 k4 hR1.length
     exact ⟨.own (.map o0 k0 v0) x1,.map o0 k0 v0,x1,cs2,by simp [St.s6,p7],L7,x9,a1t (show ι.cells i=cs2 from hcs2.symm) (by rw [hcs2]; exact hR1.length),k5⟩
  ·rename_i j q lo hi
   have hji:i=j:=Nat.eq_of_beq_eq_true hmi
   subst hji
   cases q with
   | cons st q=>exact honex
   | nil =>
    rcases hal with ⟨t0,x0,x1,rfl,rfl⟩|⟨t0,x0,x1,rfl,rfl⟩|⟨o0,k0,v0,x0,x1,rfl,rfl⟩
    ·exact honex
    ·obtain ⟨ej,v2,k1,k2,k3,k4,k5,k6⟩:=hvx
     rw [he] at k1; cases k1
     obtain ⟨⟨O1,_,hR1⟩,_⟩:=h.hs.ob i _ he
     rcases k6 with ⟨t',l,a',cap,g1,g2,g3,g4⟩|⟨n,t',l,b2,off2,g1,g2,g3,g4⟩
     ·have g1:i6 (.d0 true t0) x0 []=some ⟨.d0 true t',l⟩:=g1
      rw [x9] at g1; cases g1
      have hcs2:=O5 g3 hR1.length
      have hlen:List.length x1=List.length x0:=by
       obtain ⟨⟨O'',_,hR''⟩,_⟩:=hob
       have hcc:(ι.B1 i O').cells i=[.slice a' (List.length x0) cap]:=(show ι.cells i=_ from hcs2.symm)
       rw [hcc] at hR''
       rcases hR'' with ⟨_,⟨a2,c2,h1,_⟩,h3⟩|⟨b3,o3,cap3,O3,c1,_⟩
       ·simp only [List.cons.injEq,Value.slice.injEq,and_true] at h1
        subst h3
        simp [h1.2.1]
       ·simp only [List.cons.injEq,Value.slice.injEq,and_true] at c1
        exact c1.2.1.symm
      refine ⟨.own (.d0 true t0) x1,v2,by simp [St.s6,p7],L7,k3,k4,k5,.inl ⟨t0,x1,a',cap,x9,by rw [hlen]; exact g2,?_,g4⟩⟩
      rw [hlen]
      exact a1t (show ι.cells i=_ from hcs2.symm) rfl
     ·exfalso
      simp only [Loc,Place,x8,VR] at g3
      simp at g3
    ·exfalso
     obtain ⟨ej,v2,k1,k2,k3,k4,k5,k6⟩:=hvx
     rw [he] at k1; cases k1
     rcases k6 with ⟨t',l,a',cap,g1,_⟩|⟨n,t',l,b2,off2,g1,_⟩
     ·have g1:i6 (.map o0 k0 v0) x0 []=some ⟨.d0 true t',l⟩:=g1
      rw [x9] at g1; cases g1
     ·have g1:i6 (.map o0 k0 v0) x0 []=some ⟨.arr n t',l⟩:=g1
      rw [x9] at g1; cases g1

end
end Go.Ex
