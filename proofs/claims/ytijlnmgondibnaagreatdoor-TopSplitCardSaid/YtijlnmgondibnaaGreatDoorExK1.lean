import Derived.Orders
import Derived.Below
import Derived.KernelRfl
import Derived.Laws.Cells
set_option linter.unusedVariables false
set_option linter.unusedSimpArgs false
set_option linter.unusedSectionVars false

namespace Go.Ex

inductive Ty where
 | int (k:IntKind)|bool|str|unit
 | fn (f:Nat)
 | map (o:Bool) (k v:Ty)
 | box (o:Bool) (g:Option Nat) (t:Ty)
 | pair (a b:Ty)
 | arr (n:Nat) (t:Ty)
 | d0 (o:Bool) (t:Ty)
 | hole (t:Ty)
 | w5 (t:Ty)
 deriving DecidableEq,Inhabited

@[reducible] def Ty.den:Ty→Type
 | .int _=>Int
 | .bool=>Bool
 | .str=>List UInt8
 | .unit=>Unit
 | .fn _=>Bool
 | .map _ k v=>Option (List (k.den×v.den))
 | .box _ _ t=>Option t.den
 | .pair a b=>a.den×b.den
 | .arr _ t=>List t.den
 | .d0 _ t=>List t.den
 | .hole t=>List t.den
 | .w5 t=>Nat×(List t.den×List t.den)

def Ty.o7:(t:Ty)→t.den
 | .int _=>(0:Int)
 | .bool=>false
 | .str=>([]:List UInt8)
 | .unit=>()
 | .fn _=>false
 | .map _ _ _=>none
 | .box _ _ _=>none
 | .pair a b=>(a.o7,b.o7)
 | .arr n t=>List.replicate n t.o7
 | .d0 _ _=>[]
 | .hole _=>[]
 | .w5 _=>(1,([],[]))

def Ty.size:Ty→Nat
 | .int _|.bool|.str|.fn _|.d0 _ _|.map _ _ _|.box _ _ _|.hole _|.w5 _=>1
 | .unit=>0
 | .pair a b=>a.size+b.size
 | .arr n t=>n*t.size

def Ty.shared:Ty→Bool
 | .int _|.bool|.str|.unit|.fn _|.hole _=>true
 | .pair a b=>a.shared && b.shared
 | .arr _ t=>t.shared
 | .d0 o t=>!o && t.shared
 | .map o _ _=>!o
 | .box o _ t=>!o && t.shared
 | .w5 _=>false

def Ty.R8:Ty→Bool
 | .pair a b=>a.R8 && b.R8
 | .arr _ t=>t.R8
 | .d0 _ t=>t.R8
 | .box _ _ t=>t.R8
 | .map _ k v=>k.R8 && v.R8
 | .hole _=>false
 | .w5 _=>false
 | _=>true

def Ty.agg:Ty→Bool
 | .pair _ _|.unit|.arr _ _=>true
 | _=>false

def Ty.sh:Ty→Ty
 | .pair a b=>.pair a.sh b.sh
 | .arr n t=>.arr n t.sh
 | .d0 _ t=>.d0 false t.sh
 | .hole t=>.d0 false t.sh
 | .w5 t=>.w5 t.sh
 | .box _ g t=>.box false g t.sh
 | .map _ k v=>.map false k v
 | t=>t

def Ty.shH:Ty→Ty
 | .pair a b=>.pair a.shH b.shH
 | .hole t=>.hole t
 | .w5 t=>.w5 t.sh
 | .arr n t=>.arr n t.sh
 | .d0 _ t=>.d0 false t.sh
 | .box _ g t=>.box false g t.sh
 | .map _ k v=>.map false k v
 | t=>t

def Ty.okH:Ty→Bool
 | .pair a b=>a.okH && b.okH
 | .hole _=>true
 | .w5 _=>false
 | .arr _ t=>t.R8
 | .d0 _ t=>t.R8
 | .box _ _ t=>t.R8
 | .map _ k v=>k.R8 && v.R8
 | _=>true

def b8G:Value→Bool
 | .slice _ _ _=>true
 | _=>false

def q9 (k:IntKind) (n:Int):Prop:=k.min≤n∧n≤k.max

def s5 (H:Array Go.Obj) (b:Nat):List Value :=
 match H[b]? with
 | some (.cells arr _ _)=>arr.toList
 | _=>[]

def d8 (H:Array Go.Obj) (b off n:Nat):List Value:=((s5 H b).drop off).take n

def a7v (o:Bool) (cap:Nat):Prop:=cap≤maxLen∧(o=true→1≤cap)

def i7 {α:Type} (R:List Nat→List Value→α→Prop) (sz:Nat):List Nat→List Value→List α→Prop
 | O,cs,[]=>O=[]∧cs=[]
 | O,cs,x::l=>∃ O1 O2,O=O1++O2∧R O1 (cs.take sz) x∧i7 R sz O2 (cs.drop sz) l

def Lie (H:Array Go.Obj) (b:Nat) (arr:Array Value) (T:TypeId) (fz:Nat×Nat):Prop:=H[b]?=some (.cells arr T fz)∧(fz=(0,0)∨arr.size≤fz.1)

def K4 (H:Array Go.Obj) (b n:Nat):Prop:=∃ arr T,(∃ fz,Lie H b arr T fz)∧n≤arr.size

def Ty.isB:Ty→Bool
 | .int .u8=>true
 | _=>false

def Q8 (q:Bool) (H:Array Go.Obj) (b n:Nat):Prop:=∃ arr T,(∃ fz,H[b]?=some (.cells arr T fz)∧(fz=(0,0)∨(q=true∧arr.size≤fz.1)))∧n≤arr.size

theorem Q8.free {q:Bool} {H:Array Go.Obj} {b n:Nat}:Q8 q H b n→K4 H b n:=fun ⟨arr,T,⟨fz,e,ef⟩,hn⟩=>⟨arr,T,⟨fz,e,ef.imp id (·.2)⟩,hn⟩

def fnV (f:Nat) (b:Bool):Value:=match b with|true=>.func (.func f) #[] #[]|false=>if f=4000000 then .nilIface else .nilFunc

def a4d (g:Option Nat) (a:Addr):Value:=match g with|none=>.pointer (some a)|some f=>.func (.func f) #[] #[.pointer (some a)]
def b9B (g:Option Nat):Value:=match g with|none=>.pointer none|some _=>.nilFunc
theorem c3y {g:Option Nat} {a b:Addr} (h:a4d g a=a4d g b):a=b:=by cases g<;>simpa [a4d] using h
theorem b7i {g:Option Nat} {a:Addr} (h:a4d g a=b9B g):False:=by cases g<;>cases h

def j7 (t:Ty) (cs:List Value):Value:=if t.agg then .agg cs.toArray else cs.headD undef

def M6 {α β:Type} (R:List Value→α→Prop) (R':List Value→β→Prop) (t u:Ty):List MapEntry→List (α×β)→Prop
 | [],l=>l=[]
 | e::es,l=>∃ x y l' cs ds,l=(x,y)::l'∧e.key=j7 t cs∧R cs x∧e.val=j7 u ds∧R' ds y∧M6 R R' t u es l'

def f7 (H:Array Go.Obj) (S:Nat→Prop):(t:Ty)→List Nat→List Value→t.den→Prop
 | .int k,O,cs,n=>O=[]∧cs=[.int k n]∧q9 k n
 | .bool,O,cs,b=>O=[]∧cs=[.bool b]
 | .str,O,cs,s=>O=[]∧cs=[.string ⟨s.toArray⟩]∧s.length≤maxLen
 | .unit,O,cs,_=>O=[]∧cs=[]
 | .fn f,O,cs,b=>O=[]∧cs=[fnV f b]
 | .map o k v,O,cs,x=>(x=none∧O=[]∧cs=[.map none]) ∨
  ∃ l b es ck,x=some l∧cs=[.map (some b)]∧H[b]?=some (.map es ck)∧M6 (f7 H S k []) (f7 H S v []) k v es.toList l ∧
   match o with
   | true=>O=[b]
   | false=>O=[]∧S b
 | .box o g t,O,cs,x=>(x=none∧O=[]∧cs=[b9B g]) ∨
  ∃ y b off O',x=some y∧cs=[a4d g ⟨b,off,none⟩]∧off+t.size≤(s5 H b).length∧f7 H S t O' (d8 H b off t.size) y ∧
   match o with
   | true=>O=b::O'∧K4 H b (off+t.size)
   | false=>O=[]∧O'=[]∧S b
 | .pair a b,O,cs,x=>∃ O1 O2,O=O1++O2∧f7 H S a O1 (cs.take a.size) x.1∧f7 H S b O2 (cs.drop a.size) x.2
 | .arr n t,O,cs,l=>List.length l=n∧i7 (f7 H S t) t.size O cs l
 | .d0 o t,O,cs,l =>
  (O=[]∧(∃ a c,cs=[.slice a 0 c]∧(o=true→c=0))∧l=[]) ∨
  ∃ b off cap O',cs=[.slice (some ⟨b,off,none⟩) (List.length l) cap]∧List.length l≤cap∧a7v o cap ∧
   off+List.length l*t.size≤(s5 H b).length∧i7 (f7 H S t) t.size O' (d8 H b off (List.length l*t.size)) l ∧
   match o with
   | true=>O=b::O'∧Q8 t.isB H b (off+cap*t.size)
   | false=>O=[]∧O'=[]∧S b
 | .hole _,O,cs,_=>O=[]∧∃ v,cs=[v]∧b8G v=true
 | .w5 t,O,cs,(0,l,_) =>
  (O=[]∧(∃ a c,cs=[.slice a 0 c]∧(false=true→c=0))∧l=[]) ∨
  ∃ b off cap O',cs=[.slice (some ⟨b,off,none⟩) (List.length l) cap]∧List.length l≤cap∧a7v false cap ∧
   off+List.length l*t.size≤(s5 H b).length∧i7 (f7 H S t) t.size O' (d8 H b off (List.length l*t.size)) l ∧
   (O=[]∧O'=[]∧S b)
 | .w5 t,O,cs,(1,l,_) =>
  (O=[]∧(∃ a c,cs=[.slice a 0 c]∧(true=true→c=0))∧l=[]) ∨
  ∃ b off cap O',cs=[.slice (some ⟨b,off,none⟩) (List.length l) cap]∧List.length l≤cap∧a7v true cap ∧
   off+List.length l*t.size≤(s5 H b).length∧i7 (f7 H S t) t.size O' (d8 H b off (List.length l*t.size)) l ∧
   (O=b::O'∧Q8 t.isB H b (off+cap*t.size))
 | .w5 t,O,cs,(n+2,l,m) =>
  ∃ b off O',cs=[.slice (some ⟨b,off,none⟩) (List.length l) (List.length l+List.length m)]∧a7v true (List.length l+List.length m) ∧
   off+List.length (l++m)*t.size≤(s5 H b).length∧i7 (f7 H S t) t.size O' (d8 H b off (List.length (l++m)*t.size)) (l++m) ∧
   match n with
   | 0=>O=b::O'∧Q8 t.isB H b (off+(List.length l+List.length m)*t.size)
   | _=>O=[]∧O'=[]∧S b

section
variable {H H':Array Go.Obj} {S S':Nat→Prop}

theorem f7.m1 {t:Ty} {O:List Nat} {cs:List Value} {l m:List t.den}:f7 H S (.w5 t) O cs (1,l,m)↔f7 H S (.d0 true t) O cs l:=Iff.rfl

theorem L7 {b:Nat} (h:H'[b]?=H[b]?):s5 H' b=s5 H b:=by simp only [s5,h]
theorem l4 {b:Nat} (h:H'[b]?=H[b]?) (off n:Nat):d8 H' b off n=d8 H b off n:=by simp only [d8,L7 h]

theorem i7.mono {α:Type} {R R':List Nat→List Value→α→Prop} {sz:Nat} {L:List Nat}:∀ {l:List α} {O:List Nat} {cs:List Value},
  (∀ b∈O,b∈L)→(∀ O cs x,(∀ b∈O,b∈L)→R O cs x→R' O cs x)→i7 R sz O cs l→i7 R' sz O cs l
 | [],_,_,_,_,h=>h
 | _::_,_,_,hL,hr,⟨O1,O2,e,h1,h2⟩=>by
  subst e
  exact ⟨O1,O2,rfl,hr _ _ _ (fun b hb=>hL b (by simp [hb])) h1,i7.mono (fun b hb=>hL b (by simp [hb])) hr h2⟩

theorem M6.mono {α β:Type} {R R1:List Value→α→Prop} {R' R1':List Value→β→Prop} {t u:Ty} (h:∀ cs x,R cs x→R1 cs x) (h':∀ cs x,R' cs x→R1' cs x):∀ {es:List MapEntry} {l:List (α×β)},M6 R R' t u es l→M6 R1 R1' t u es l
 | [],_,e=>e
 | _::_,_,⟨x,y,l',cs,ds,e,e1,e2,e3,e4,e5⟩=>⟨x,y,l',cs,ds,e,e1,h _ _ e2,e3,h' _ _ e4,M6.mono h h' e5⟩

theorem f7.a4T {o:Bool} {t:Ty} (ih:∀ {O:List Nat} {cs:List Value} {x:t.den},f7 H S t O cs x→(∀ b,b∈O∨S b→H'[b]?=H[b]?)→(∀ b,S b→S' b)→f7 H' S' t O cs x)
  {O:List Nat} {cs:List Value} {x:List t.den} (h:f7 H S (.d0 o t) O cs x) (hH:∀ b,b∈O∨S b→H'[b]?=H[b]?) (hS:∀ b,S b→S' b):f7 H' S' (.d0 o t) O cs x:=by
 rcases h with h|⟨b,off,cap,O',h1,h2,h3,h4,h5,h6⟩
 ·exact Or.inl h
 ·refine Or.inr ⟨b,off,cap,O',h1,h2,h3,?_⟩
  have hb:H'[b]?=H[b]?:=by
   apply hH
   cases o with
   | true=>left; rw [h6.1]; simp
   | false=>right; exact h6.2.2
  have hsub:∀ c∈O',c∈O:=by
   intro c hc
   cases o with
   | true=>rw [h6.1]; simp [hc]
   | false=>rw [h6.2.1] at hc; cases hc
  rw [L7 hb,l4 hb]
  refine ⟨h4,i7.mono (L:=O) hsub (fun O1 c y hL hr=>ih hr (fun b hb=>hH b (hb.imp (hL b) id)) hS) h5,?_⟩
  cases o with
  | true=>obtain ⟨e,arr,T,e1,e2⟩:=h6; obtain ⟨fz,e1,e3⟩:=e1; exact ⟨e,arr,T,⟨fz,hb.trans e1,e3⟩,e2⟩
  | false=>exact ⟨h6.1,h6.2.1,hS b h6.2.2⟩

theorem f7.r7:∀ {t:Ty} {O:List Nat} {cs:List Value} {x:t.den},f7 H S t O cs x →
  (∀ b,b∈O∨S b→H'[b]?=H[b]?)→(∀ b,S b→S' b)→f7 H' S' t O cs x:=by
 intro t
 induction t with
 | int k=>intro O cs x h _ _; exact h
 | bool=>intro O cs x h _ _; exact h
 | str=>intro O cs x h _ _; exact h
 | unit=>intro O cs x h _ _; exact h
 | fn f=>intro O cs x h _ _; exact h
 | hole t=>intro O cs x h _ _; exact h
 | map o k v ihk ihv =>
  rintro O cs x (h|⟨l,b,es,ck,h0,h2,h3,h4,h5⟩) hH hS
  ·exact .inl h
  have hS1:∀ c,c∈([]:List Nat)∨S c→H'[c]?=H[c]?:=fun c hc=>hH c (.inr (by rcases hc with hc|hc; cases hc; exact hc))
  have hb:H'[b]?=H[b]?:=by
   apply hH
   cases o with
   | true=>left; rw [h5]; simp
   | false=>right; exact h5.2
  refine .inr ⟨l,b,es,ck,h0,h2,hb.trans h3,h4.mono (fun _ _ h=>ihk h hS1 hS) (fun _ _ h=>ihv h hS1 hS),?_⟩
  cases o with
  | true=>exact h5
  | false=>exact ⟨h5.1,hS b h5.2⟩
 | box o g t ih =>
  rintro O cs x (h|⟨y,b,off,O',h0,h1,h2,h3,h4⟩) hH hS
  ·exact .inl h
  have hb:H'[b]?=H[b]?:=by
   apply hH
   cases o with
   | true=>left; rw [h4.1]; simp
   | false=>right; exact h4.2.2
  have hsub:∀ c∈O',c∈O:=by
   intro c hc
   cases o with
   | true=>rw [h4.1]; simp [hc]
   | false=>rw [h4.2.1] at hc; cases hc
  refine .inr ⟨y,b,off,O',h0,h1,by rw [L7 hb]; exact h2,by rw [l4 hb]; exact ih h3 (fun b hb=>hH b (hb.imp (hsub b) id)) hS,?_⟩
  cases o with
  | true=>obtain ⟨e,arr,T,e1,e2⟩:=h4; obtain ⟨fz,e1,e3⟩:=e1; exact ⟨e,arr,T,⟨fz,hb.trans e1,e3⟩,e2⟩
  | false=>exact ⟨h4.1,h4.2.1,hS b h4.2.2⟩
 | pair a b iha ihb =>
  rintro O cs x ⟨O1,O2,rfl,h1,h2⟩ hH hS
  exact ⟨O1,O2,rfl,iha h1 (fun b hb=>hH b (hb.imp (fun h=>by simp [h]) id)) hS,ihb h2 (fun b hb=>hH b (hb.imp (fun h=>by simp [h]) id)) hS⟩
 | arr n t ih =>
  rintro O cs x ⟨h1,h2⟩ hH hS
  refine ⟨h1,i7.mono (L:=O) (fun _ h=>h) (fun O1 c y hL hr=>?_) h2⟩
  exact ih hr (fun b hb=>hH b (hb.imp (hL b) id)) hS
 | d0 o t ih=>intro O cs x h hH hS; exact f7.a4T ih h hH hS
 | w5 t ih =>
  rintro O cs ⟨n,l,m⟩ h hH hS
  match n,h with
  | 0,h=>exact f7.a4T (o:=false) ih h hH hS
  | 1,h=>exact f7.a4T (o:=true) ih h hH hS
  | n+2,⟨b,off,O',h1,h2,h3,h4,h5⟩ =>
   have hb:H'[b]?=H[b]?:=by
    apply hH
    cases n with
    | zero=>left; rw [h5.1]; simp
    | succ n=>right; exact h5.2.2
   have hsub:∀ c∈O',c∈O:=by
    intro c hc
    cases n with
    | zero=>rw [h5.1]; simp [hc]
    | succ n=>rw [h5.2.1] at hc; cases hc
   refine ⟨b,off,O',h1,h2,by rw [L7 hb]; exact h3,by rw [l4 hb]; exact i7.mono (L:=O) hsub (fun O1 c y hL hr=>ih hr (fun b hb=>hH b (hb.imp (hL b) id)) hS) h4,?_⟩
   cases n with
   | zero=>obtain ⟨e,arr,T,e1,e2⟩:=h5; obtain ⟨fz,e1,e3⟩:=e1; exact ⟨e,arr,T,⟨fz,hb.trans e1,e3⟩,e2⟩
   | succ n=>exact ⟨h5.1,h5.2.1,hS b h5.2.2⟩

theorem i7.length {α:Type} {R:List Nat→List Value→α→Prop} {sz:Nat} (hR:∀ O cs x,R O cs x→cs.length=sz):∀ {l:List α} {O:List Nat} {cs:List Value},
  i7 R sz O cs l→cs.length=l.length*sz
 | [],_,_,⟨_,h⟩=>by simp [h]
 | x::l,_,cs,⟨O1,O2,_,h1,h2⟩=>by
  have e1:=hR _ _ _ h1
  have e2:=i7.length hR h2
  simp only [List.length_take,List.length_drop,List.length_cons,Nat.succ_mul] at *
  omega

theorem f7.length:∀ {t:Ty} {O:List Nat} {cs:List Value} {x:t.den},f7 H S t O cs x→cs.length=t.size:=by
 intro t
 induction t with
 | int k=>rintro O cs x ⟨_,rfl,_⟩; rfl
 | bool=>rintro O cs x ⟨_,rfl⟩; rfl
 | str=>rintro O cs x ⟨_,rfl,_⟩; rfl
 | unit=>rintro O cs x ⟨_,rfl⟩; rfl
 | fn f=>rintro O cs x ⟨_,rfl⟩; rfl
 | hole t=>rintro O cs x ⟨_,v,rfl,_⟩; rfl
 | map o k v=>rintro O cs x (⟨_,_,rfl⟩|⟨l,b,es,ck,_,rfl,_⟩)<;>rfl
 | box o g t=>rintro O cs x (⟨_,_,rfl⟩|⟨y,b,off,O',_,rfl,_⟩)<;>rfl
 | pair a b iha ihb =>
  rintro O cs x ⟨O1,O2,rfl,h1,h2⟩
  have e1:=iha h1
  have e2:=ihb h2
  simp only [List.length_take,List.length_drop,Ty.size] at *
  omega
 | arr n t ih =>
  rintro O cs x ⟨h1,h2⟩
  have:=i7.length (fun _ _ _ h=>ih h) h2
  simp only [Ty.size]
  rw [this,h1]
 | d0 o t ih =>
  rintro O cs x h
  rcases h with ⟨_,⟨_,_,rfl,_⟩,_⟩|⟨b,off,cap,O',rfl,_⟩<;>rfl
 | w5 t ih =>
  rintro O cs ⟨n,l,m⟩ h
  match n,h with
  | 0,h=>rcases h with ⟨_,⟨_,_,rfl,_⟩,_⟩|⟨b,off,cap,O',rfl,_⟩<;>rfl
  | 1,h=>rcases h with ⟨_,⟨_,_,rfl,_⟩,_⟩|⟨b,off,cap,O',rfl,_⟩<;>rfl
  | n+2,⟨b,off,O',h1,_⟩=>rw [h1]; rfl

theorem i7.J5 {α:Type} {R:List Nat→List Value→α→Prop} {sz:Nat} (hR:∀ O cs x,R O cs x→O=[]):∀ {l:List α} {O:List Nat} {cs:List Value},i7 R sz O cs l→O=[]
 | [],_,_,⟨h,_⟩=>h
 | _::_,_,_,⟨O1,O2,e,h1,h2⟩=>by rw [e,hR _ _ _ h1,i7.J5 hR h2]; rfl

theorem f7.J5:∀ {t:Ty} {O:List Nat} {cs:List Value} {x:t.den},t.shared=true→f7 H S t O cs x→O=[]:=by
 intro t
 induction t with
 | int k=>intro O cs x _ h; exact h.1
 | bool=>intro O cs x _ h; exact h.1
 | str=>intro O cs x _ h; exact h.1
 | unit=>intro O cs x _ h; exact h.1
 | fn f=>intro O cs x _ h; exact h.1
 | hole t=>intro O cs x _ h; exact h.1
 | map o k v =>
  rintro O cs x hs (h|⟨l,b,es,ck,_,_,_,_,h6⟩)
  ·exact h.2.1
  simp only [Ty.shared,Bool.not_eq_true'] at hs
  rw [hs] at h6; exact h6.1
 | box o g t =>
  rintro O cs x hs (h|⟨y,b,off,O',_,_,_,_,h6⟩)
  ·exact h.2.1
  simp only [Ty.shared,Bool.and_eq_true,Bool.not_eq_true'] at hs
  rw [hs.1] at h6; exact h6.1
 | pair a b iha ihb =>
  rintro O cs x hs ⟨O1,O2,rfl,h1,h2⟩
  simp only [Ty.shared,Bool.and_eq_true] at hs
  rw [iha hs.1 h1,ihb hs.2 h2]; rfl
 | arr n t ih =>
  rintro O cs x hs ⟨h1,h2⟩
  exact i7.J5 (fun _ _ _ h=>ih hs h) h2
 | d0 o t ih =>
  rintro O cs x hs h
  simp only [Ty.shared,Bool.and_eq_true,Bool.not_eq_true'] at hs
  rcases h with h|⟨b,off,cap,O',_,_,_,_,_,h6⟩
  ·exact h.1
  ·rw [hs.1] at h6; exact h6.1
 | w5 t ih=>intro O cs x hs; cases hs

theorem i7.a45 {α:Type} {R:List Nat→List Value→α→Prop} {sz:Nat} {p:Nat→Prop} (hR:∀ O cs x,R O cs x→∀ b∈O,p b):∀ {l:List α} {O:List Nat} {cs:List Value},i7 R sz O cs l→∀ b∈O,p b
 | [],_,_,⟨h,_⟩=>by rw [h]; simp
 | _::_,_,_,⟨O1,O2,e,h1,h2⟩=>by
  subst e; intro b hb
  rcases List.mem_append.1 hb with h|h
  ·exact hR _ _ _ h1 b h
  ·exact i7.a45 hR h2 b h

theorem f7.a8l {o:Bool} {t:Ty} (ih:∀ {O:List Nat} {cs:List Value} {x:t.den},f7 H S t O cs x→∀ b∈O,b<H.size) {O:List Nat} {cs:List Value} {x:List t.den} (h:f7 H S (.d0 o t) O cs x):∀ b∈O,b<H.size:=by
 rcases h with h|⟨b,off,cap,O',_,_,_,_,h5,h6⟩
 ·rw [h.1]; simp
 ·cases o with
  | true =>
   intro c hc
   rw [h6.1] at hc
   rcases List.mem_cons.1 hc with rfl|hc
   ·obtain ⟨_,arr,T,⟨fz,e,_⟩,_⟩:=h6; exact (Array.getElem?_eq_some_iff.1 e).1
   ·exact i7.a45 (fun _ _ _ h=>ih h) h5 c hc
  | false=>rw [h6.1]; simp

theorem f7.a45:∀ {t:Ty} {O:List Nat} {cs:List Value} {x:t.den},f7 H S t O cs x→∀ b∈O,b<H.size:=by
 intro t
 induction t with
 | int k=>intro O cs x h; rw [h.1]; simp
 | bool=>intro O cs x h; rw [h.1]; simp
 | str=>intro O cs x h; rw [h.1]; simp
 | unit=>intro O cs x h; rw [h.1]; simp
 | fn f=>intro O cs x h; rw [h.1]; simp
 | hole t=>intro O cs x h; rw [h.1]; simp
 | map o k v =>
  rintro O cs x (⟨_,rfl,_⟩|⟨l,b,es,ck,_,_,h3,_,h6⟩) c hc
  ·cases hc
  cases o with
  | true =>
   rw [h6] at hc
   obtain rfl:c=b:=by simpa using hc
   exact (Array.getElem?_eq_some_iff.1 h3).1
  | false=>rw [h6.1] at hc; cases hc
 | box o g t ih =>
  rintro O cs x (⟨_,rfl,_⟩|⟨y,b,off,O',_,_,_,h3,h6⟩)
  ·simp
  cases o with
  | true =>
   intro c hc
   rw [h6.1] at hc
   rcases List.mem_cons.1 hc with rfl|hc
   ·obtain ⟨_,arr,T,⟨fz,e,_⟩,_⟩:=h6; exact (Array.getElem?_eq_some_iff.1 e).1
   ·exact ih h3 c hc
  | false=>rw [h6.1]; simp
 | pair a b iha ihb =>
  rintro O cs x ⟨O1,O2,rfl,h1,h2⟩ b hb
  rcases List.mem_append.1 hb with h|h
  ·exact iha h1 b h
  ·exact ihb h2 b h
 | arr n t ih =>
  rintro O cs x ⟨h1,h2⟩
  exact i7.a45 (fun _ _ _ h=>ih h) h2
 | d0 o t ih=>intro O cs x h; exact f7.a8l ih h
 | w5 t ih =>
  rintro O cs ⟨n,l,m⟩ h
  match n,h with
  | 0,h=>exact f7.a8l (o:=false) ih h
  | 1,h=>exact f7.a8l (o:=true) ih h
  | n+2,⟨b,off,O',_,_,_,h5,h6⟩ =>
   cases n with
   | zero =>
    intro c hc
    rw [h6.1] at hc
    rcases List.mem_cons.1 hc with rfl|hc
    ·obtain ⟨_,arr,T,⟨fz,e,_⟩,_⟩:=h6; exact (Array.getElem?_eq_some_iff.1 e).1
    ·exact i7.a45 (fun _ _ _ h=>ih h) h5 c hc
   | succ n=>rw [h6.1]; simp

/-! lists of parts -/
theorem i7.split {α:Type} {R:List Nat→List Value→α→Prop} {sz:Nat} {d:α}:∀ {l:List α} {O:List Nat} {cs:List Value} {i:Nat},i<l.length→i7 R sz O cs l →
  ∃ O1 O2 O3,O=O1++(O2++O3)∧i7 R sz O1 (cs.take (i*sz)) (l.take i)∧R O2 ((cs.drop (i*sz)).take sz) (l.getD i d)∧i7 R sz O3 (cs.drop ((i+1)*sz)) (l.drop (i+1))
 | [],_,_,_,hi,_=>by simp at hi
 | x::l,_,cs,0,_,⟨O1,O2,e,h1,h2⟩=>⟨[],O1,O2,by simpa using e,by simp [i7],by simpa using h1,by simpa using h2⟩
 | x::l,_,cs,i+1,hi,⟨O1,O2,e,h1,h2⟩=>by
  obtain ⟨P1,P2,P3,e',g1,g2,g3⟩:=i7.split (d:=d) (i:=i) (by simpa using hi) h2
  refine ⟨O1++P1,P2,P3,by rw [e,e']; simp,?_,?_,?_⟩
  ·refine ⟨O1,P1,rfl,?_,?_⟩
   ·rw [List.take_take,Nat.min_eq_left (by rw [Nat.succ_mul]; omega)]; exact h1
   ·rw [List.drop_take,show (i+1)*sz - sz=i*sz from by rw [Nat.succ_mul]; omega]; exact g1
  ·rw [List.drop_drop,show sz+i*sz=(i+1)*sz from by rw [Nat.succ_mul]; omega] at g2
   simpa using g2
  ·rw [List.drop_drop,show sz+(i+1)*sz=(i+1+1)*sz from by rw [Nat.succ_mul (i+1)]; omega] at g3
   simpa using g3

theorem i7.join {α:Type} {R:List Nat→List Value→α→Prop} {sz:Nat} (hR:∀ O cs x,R O cs x→cs.length=sz) {y:α}:∀ {l:List α} {O1 O2 O3:List Nat} {cs:List Value} {i:Nat},i<l.length →
  i7 R sz O1 (cs.take (i*sz)) (l.take i)→R O2 ((cs.drop (i*sz)).take sz) y→i7 R sz O3 (cs.drop ((i+1)*sz)) (l.drop (i+1)) →
  i7 R sz (O1++(O2++O3)) cs (l.set i y)
 | [],_,_,_,_,_,hi,_,_,_=>by simp at hi
 | x::l,O1,O2,O3,cs,0,_,h1,h2,h3=>by
  simp only [Nat.zero_mul,List.take_zero,i7] at h1
  rw [h1.1]
  exact ⟨O2,O3,rfl,by simpa using h2,by simpa using h3⟩
 | x::l,O1,O2,O3,cs,i+1,hi,⟨P1,P2,e,h1,h1'⟩,h2,h3=>by
  subst e
  refine ⟨P1,P2++(O2++O3),by simp,?_,?_⟩
  ·rw [List.take_take,Nat.min_eq_left (by rw [Nat.succ_mul]; omega)] at h1; exact h1
  ·refine i7.join hR (by simpa using hi) ?_ ?_ ?_
   ·rw [List.drop_take,show (i+1)*sz - sz=i*sz from by rw [Nat.succ_mul]; omega] at h1'; exact h1'
   ·rw [List.drop_drop,show sz+i*sz=(i+1)*sz from by rw [Nat.succ_mul]; omega]; exact h2
   ·rw [List.drop_drop,show sz+(i+1)*sz=(i+1+1)*sz from by rw [Nat.succ_mul (i+1)]; omega]
    simpa using h3

theorem i7.append {α:Type} {R:List Nat→List Value→α→Prop} {sz:Nat} (hR:∀ O cs x,R O cs x→cs.length=sz):∀ {l l':List α} {O O':List Nat} {cs cs':List Value},
  i7 R sz O cs l→i7 R sz O' cs' l'→i7 R sz (O++O') (cs++cs') (l++l')
 | [],_,_,_,_,_,⟨h1,h2⟩,h=>by subst h1; subst h2; simpa using h
 | x::l,l',O,O',cs,cs',⟨O1,O2,e,h1,h2⟩,h=>by
  have hl:=hR _ _ _ h1
  simp only [List.length_take] at hl
  refine ⟨O1,O2++O',by rw [e]; simp,?_,?_⟩
  ·rw [List.take_append_of_le_length (by omega)]; exact h1
  ·rw [List.drop_append_of_le_length (by omega)]; exact i7.append hR h2 h

theorem i7.det {α:Type} {R R':List Nat→List Value→α→Prop} {sz:Nat} (hR:∀ O O' cs x,R O cs x→R' O' cs x→O=O'):∀ {l:List α} {O O':List Nat} {cs:List Value},
  i7 R sz O cs l→i7 R' sz O' cs l→O=O'
 | [],_,_,_,⟨h,_⟩,⟨h',_⟩=>by rw [h,h']
 | _::_,_,_,_,⟨O1,O2,e,h1,h2⟩,⟨O1',O2',e',h1',h2'⟩=>by
  rw [e,e',hR _ _ _ _ h1 h1',i7.det hR h2 h2']

theorem f7.b0C {o:Bool} {t:Ty} (ih:∀ {O O':List Nat} {cs:List Value} {x:t.den},f7 H S t O cs x→f7 H S' t O' cs x→O=O') {O O':List Nat} {cs:List Value} {x:List t.den} (h:f7 H S (.d0 o t) O cs x) (h':f7 H S' (.d0 o t) O' cs x):O=O':=by
 cases o with
 | false =>
  have hO:∀ {O:List Nat} {x:(Ty.d0 false t).den} {S:Nat→Prop},f7 H S (.d0 false t) O cs x→O=[]:=by
   rintro O x S (h|⟨b,off,cap,O',_,_,_,_,_,h6⟩)
   ·exact h.1
   ·exact h6.1
  rw [hO h,hO h']
 | true =>
  rcases h with ⟨h1,⟨a,c,h2,h3⟩,h4⟩|⟨b,off,cap,P,c1,c2,c3,c4,c5,c6,c7⟩
  ·rcases h' with ⟨k1,_⟩|⟨b',off',cap',P',d1,d2,d3,d4,d5,d6,d7⟩
   ·rw [h1,k1]
   ·rw [h2] at d1; simp only [List.cons.injEq,Value.slice.injEq,and_true] at d1; have:=d3.2 rfl; have:=h3 rfl; omega
  ·rcases h' with ⟨h1,⟨a,c,h2,h3⟩,h4⟩|⟨b',off',cap',P',d1,d2,d3,d4,d5,d6,d7⟩
   ·rw [h2] at c1; simp only [List.cons.injEq,Value.slice.injEq,and_true] at c1; have:=c3.2 rfl; have:=h3 rfl; omega
   ·rw [c1] at d1
    simp only [List.cons.injEq,Value.slice.injEq,Option.some.injEq,Addr.mk.injEq,and_true] at d1
    obtain ⟨⟨rfl,rfl⟩,-,rfl⟩:=d1
    rw [c6,d6,i7.det (R:=f7 H S t) (R':=f7 H S' t) (fun O O' cs x h h'=>ih h h') c5 d5]

theorem f7.det:∀ {t:Ty} {O O':List Nat} {cs:List Value} {x:t.den},f7 H S t O cs x→f7 H S' t O' cs x→O=O':=by
 intro t
 induction t with
 | int k=>intro O O' cs x h h'; rw [h.1,h'.1]
 | bool=>intro O O' cs x h h'; rw [h.1,h'.1]
 | str=>intro O O' cs x h h'; rw [h.1,h'.1]
 | unit=>intro O O' cs x h h'; rw [h.1,h'.1]
 | fn f=>intro O O' cs x h h'; rw [h.1,h'.1]
 | hole t=>intro O O' cs x h h'; rw [h.1,h'.1]
 | map o k v =>
  rintro O O' cs x (⟨_,rfl,rfl⟩|⟨l,b,es,ck,_,rfl,_,_,h6⟩) (⟨_,rfl,e⟩|⟨l',b',es',ck',_,e,_,_,g6⟩)
  ·rfl
  ·simp at e
  ·simp at e
  ·simp only [List.cons.injEq,Value.map.injEq,Option.some.injEq,and_true] at e
   cases o with
   | true=>rw [h6,g6,e]
   | false=>rw [h6.1,g6.1]
 | box o g t ih =>
  rintro O O' cs x (⟨hx,rfl,rfl⟩|⟨y,b,off,P,hx,rfl,h2,h3,h4⟩) (⟨_,rfl,e⟩|⟨y',b',off',P',hx',e,g2,g3,g4⟩)
  ·rfl
  ·exact (b7i (by simpa using e.symm)).elim
  ·exact (b7i (by simpa using e)).elim
  have e:=c3y (by simpa using e)
  cases e
  rw [hx] at hx'; cases hx'
  cases o with
  | true=>rw [h4.1,g4.1,ih h3 g3]
  | false=>rw [h4.1,g4.1]
 | pair a b iha ihb =>
  rintro O O' cs x ⟨O1,O2,rfl,h1,h2⟩ ⟨O1',O2',rfl,h1',h2'⟩
  rw [iha h1 h1',ihb h2 h2']
 | arr n t ih =>
  rintro O O' cs x ⟨h1,h2⟩ ⟨h1',h2'⟩
  exact i7.det (R:=f7 H S t) (R':=f7 H S' t) (fun O O' cs x h h'=>ih h h') h2 h2'
 | d0 o t ih=>intro O O' cs x h h'; exact f7.b0C ih h h'
 | w5 t ih =>
  rintro O O' cs ⟨n,l,m⟩ h h'
  match n,h,h' with
  | 0,h,h'=>exact f7.b0C (o:=false) ih h h'
  | 1,h,h'=>exact f7.b0C (o:=true) ih h h'
  | n+2,⟨b,off,P,c1,c2,c3,c4,c5⟩,⟨b',off',P',d1,d2,d3,d4,d5⟩ =>
   rw [c1] at d1
   simp only [List.cons.injEq,Value.slice.injEq,Option.some.injEq,Addr.mk.injEq,and_true] at d1
   obtain ⟨rfl,rfl⟩:=d1
   cases n with
   | zero=>rw [c5.1,d5.1,i7.det (R:=f7 H S t) (R':=f7 H S' t) (fun O O' cs x h h'=>ih h h') c4 d4]
   | succ n=>rw [c5.1,d5.1]

end
end Go.Ex

namespace Go.Ex

inductive Step where
 | l7 (i:Nat)
 | idx (i:Int)
 deriving Inhabited

def Ty.er (a b:Ty):Bool:=decide (a.sh=b.sh)

def j6:(t:Ty)→t.den→List Step→Option (Sigma Ty.den)
 | t,x,[]=>some ⟨t,x⟩
 | .pair a _,x,.l7 0::p=>j6 a x.1 p
 | .pair _ b,x,.l7 (n+1)::p=>j6 b x.2 (.l7 n::p)
 | .arr _ t,x,.idx i::p=>j6 t (List.getD x i.toNat t.o7) p
 | .d0 true t,x,.idx i::p=>j6 t (List.getD x i.toNat t.o7) p
 | _,_,_=>none

def w4:(t:Ty)→t.den→List Step→Prop
 | _,_,[]=>True
 | .pair a _,x,.l7 0::p=>w4 a x.1 p
 | .pair _ b,x,.l7 (n+1)::p=>w4 b x.2 (.l7 n::p)
 | .arr n t,x,.idx i::p=>(0≤i∧i<n)∧w4 t (List.getD x i.toNat t.o7) p
 | .d0 true t,x,.idx i::p=>(0≤i∧i<List.length x)∧w4 t (List.getD x i.toNat t.o7) p
 | _,_,_=>False

def r9:(t:Ty)→t.den→List Step→(u:Ty)→u.den→Option (Sigma Ty.den)
 | t,_,[],u,y=>if u.sh=t.sh then some ⟨u,y⟩ else none
 | .pair a b,x,.l7 0::p,u,y=>match r9 a x.1 p u y with
  | some ⟨t',z⟩=>some ⟨.pair t' b,(z,x.2)⟩
  | none=>none
 | .pair a b,x,.l7 (n+1)::p,u,y=>match r9 b x.2 (.l7 n::p) u y with
  | some ⟨t',z⟩=>some ⟨.pair a t',(x.1,z)⟩
  | none=>none
 | .arr n t,x,.idx i::p,u,y=>match r9 t (List.getD x i.toNat t.o7) p u y with
  | some ⟨t',z⟩=>if h:t'=t then some ⟨.arr n t,List.set x i.toNat (h▸z)⟩ else none
  | none=>none
 | .d0 true t,x,.idx i::p,u,y=>match r9 t (List.getD x i.toNat t.o7) p u y with
  | some ⟨t',z⟩=>if h:t'=t then some ⟨.d0 true t,List.set x i.toNat (h▸z)⟩ else none
  | none=>none
 | _,_,_,_,_=>none

theorem M9:∀ t:Ty,t.sh.size=t.size:=by
 intro t
 induction t with
 | pair a b iha ihb=>simp only [Ty.sh,Ty.size,iha,ihb]
 | arr n t ih=>simp only [Ty.sh,Ty.size,ih]
 | _=>rfl

theorem E3 {u t:Ty} (h:u.sh=t.sh):u.size=t.size:=by rw [← M9 u,h,M9]

def w7 (H:Array Go.Obj):Ty→List Step→Nat→Nat→Option (Nat×Nat)
 | _,[],b,off=>some (b,off)
 | .pair a _,.l7 0::p,b,off=>w7 H a p b off
 | .pair a c,.l7 (n+1)::p,b,off=>w7 H c (.l7 n::p) b (off+a.size)
 | .arr _ t,.idx i::p,b,off=>w7 H t p b (off+i.toNat*t.size)
 | .d0 true t,.idx i::p,b,off=>match (s5 H b)[off]? with
  | some (.slice (some a) _ _)=>w7 H t p a.block (a.off+i.toNat*t.size)
  | _=>none
 | _,_,_,_=>none

def s4 (H:Array Go.Obj) (S:Nat→Prop):(t:Ty)→List Step→Nat→Nat→List Nat→t.den→Prop
 | _,[],_,_,O,_=>O=[]
 | .pair a c,.l7 0::p,b,off,O,x=>∃ O1 O2,O=O1++O2∧s4 H S a p b off O1 x.1∧f7 H S c O2 (d8 H b (off+a.size) c.size) x.2
 | .pair a c,.l7 (n+1)::p,b,off,O,x=>∃ O1 O2,O=O1++O2∧f7 H S a O1 (d8 H b off a.size) x.1∧s4 H S c (.l7 n::p) b (off+a.size) O2 x.2
 | .arr n t,.idx i::p,b,off,O,l=>List.length l=n∧(0≤i∧i<n)∧∃ O1 O2 O3,O=O1++(O2++O3) ∧
   i7 (f7 H S t) t.size O1 (d8 H b off (i.toNat*t.size)) (List.take i.toNat l) ∧
   s4 H S t p b (off+i.toNat*t.size) O2 (List.getD l i.toNat t.o7) ∧
   i7 (f7 H S t) t.size O3 (d8 H b (off+(i.toNat+1)*t.size) ((n - (i.toNat+1))*t.size)) (List.drop (i.toNat+1) l)
 | .d0 true t,.idx i::p,b,off,O,l=>(0≤i∧i<List.length l)∧∃ b1 o1 cap O1 O2 O3,O=b1::(O1++(O2++O3)) ∧
   (s5 H b)[off]?=some (.slice (some ⟨b1,o1,none⟩) (List.length l) cap)∧List.length l≤cap∧a7v true cap∧Q8 t.isB H b1 (o1+cap*t.size) ∧
   i7 (f7 H S t) t.size O1 (d8 H b1 o1 (i.toNat*t.size)) (List.take i.toNat l) ∧
   s4 H S t p b1 (o1+i.toNat*t.size) O2 (List.getD l i.toNat t.o7) ∧
   i7 (f7 H S t) t.size O3 (d8 H b1 (o1+(i.toNat+1)*t.size) ((List.length l - (i.toNat+1))*t.size)) (List.drop (i.toNat+1) l)
 | _,_,_,_,_,_=>False

section
variable {H H':Array Go.Obj} {S S':Nat→Prop}

theorem m0 (b off n m:Nat) (h:m≤n):(d8 H b off n).take m=d8 H b off m:=by
 simp only [d8,List.take_take,Nat.min_eq_left h]

theorem n5 (b off n m:Nat):(d8 H b off n).drop m=d8 H b (off+m) (n - m):=by
 simp only [d8,List.drop_take,List.drop_drop]

theorem a12 (b off n:Nat) (h:off+n≤(s5 H b).length):(d8 H b off n).length=n:=by
 simp only [d8,List.length_take,List.length_drop]; omega

theorem a2d (b off n m:Nat):d8 H b off (n+m)=d8 H b off n++d8 H b (off+n) m:=by
 simp only [d8,List.take_add,List.drop_drop]

theorem M1 (b off:Nat) (v:Value):d8 H b off 1=[v]↔(s5 H b)[off]?=some v:=by
 simp only [d8]
 constructor
 ·intro h
  have:((s5 H b).drop off)[0]?=some v:=by
   cases hd:(s5 H b).drop off with
   | nil=>rw [hd] at h; simp at h
   | cons a l=>rw [hd] at h; simp at h; simp [h]
  simpa using this
 ·intro h
  obtain ⟨hlt,e⟩:=List.getElem?_eq_some_iff.1 h
  rw [List.drop_eq_getElem_cons hlt]
  simp [e]

theorem K4.s5 {b n:Nat} (h:K4 H b n):n≤(s5 H b).length:=by
 obtain ⟨arr,T,⟨fz,e,_⟩,hn⟩:=h
 simp only [Ex.s5,e]
 simpa using hn

theorem K4.mono {b n m:Nat} (h:K4 H b n) (hm:m≤n):K4 H b m:=by
 obtain ⟨arr,T,e,hn⟩:=h
 exact ⟨arr,T,e,Nat.le_trans hm hn⟩

theorem Q8.mono {q:Bool} {b n m:Nat} (h:Q8 q H b n) (hm:m≤n):Q8 q H b m:=by
 obtain ⟨arr,T,e,hn⟩:=h
 exact ⟨arr,T,e,Nat.le_trans hm hn⟩

theorem C4 {i:Int} {n sz:Nat} (h:0≤i∧i<n):i.toNat<n∧i.toNat*sz+sz≤n*sz∧(i.toNat+1)*sz=i.toNat*sz+sz∧(n - (i.toNat+1))*sz=n*sz - (i.toNat*sz+sz):=by
 have h1:i.toNat<n:=by omega
 have h2:(i.toNat+1)*sz≤n*sz:=Nat.mul_le_mul_right _ h1
 have h3:(i.toNat+1)*sz=i.toNat*sz+sz:=Nat.succ_mul _ _
 refine ⟨h1,by omega,h3,?_⟩
 rw [Nat.sub_mul,h3]

theorem focus:∀ {t:Ty} {p:List Step} {b off:Nat} {O:List Nat} {x:t.den},f7 H S t O (d8 H b off t.size) x→off+t.size≤(s5 H b).length→w4 t x p →
  ∀ {u:Ty} {y:u.den},j6 t x p=some ⟨u,y⟩ →
  ∃ O1 O2 b' off',O.Perm (O1++O2)∧s4 H S t p b off O1 x∧w7 H t p b off=some (b',off')∧f7 H S u O2 (d8 H b' off' u.size) y ∧
   off'+u.size≤(s5 H b').length∧((b'=b∧off≤off'∧off'+u.size≤off+t.size)∨(b'∈O1∧K4 H b' (off'+u.size))):=by
 intro t
 induction t with
 | pair a c iha ihc =>
  intro p b off O x hR hb ho u y hg
  match p,ho,hg with
  | [],_,hg=>simp only [j6,Option.some.injEq] at hg; cases hg; exact ⟨[],O,b,off,by simp,rfl,rfl,hR,hb,.inl ⟨rfl,Nat.le_refl _,Nat.le_refl _⟩⟩
  | .l7 0::p,ho,hg =>
   obtain ⟨P1,P2,rfl,h1,h2⟩:=hR
   simp only [Ty.size] at *
   rw [m0 _ _ _ _ (by omega)] at h1
   rw [n5,Nat.add_sub_cancel_left] at h2
   obtain ⟨O1,O2,b',off',e1,e2,e3,e4,e5,e6⟩:=iha h1 (by omega) ho hg
   refine ⟨O1++P2,O2,b',off',?_,⟨O1,P2,rfl,e2,h2⟩,e3,e4,e5,?_⟩
   ·refine (e1.append_right P2).trans ?_
    rw [List.append_assoc,List.append_assoc]
    exact List.Perm.append_left O1 List.perm_append_comm
   ·rcases e6 with ⟨g1,g2,g3⟩|⟨g1,g2⟩
    ·exact .inl ⟨g1,g2,by omega⟩
    ·exact .inr ⟨by simp [g1],g2⟩
  | .l7 (n+1)::p,ho,hg =>
   obtain ⟨P1,P2,rfl,h1,h2⟩:=hR
   simp only [Ty.size] at *
   rw [m0 _ _ _ _ (by omega)] at h1
   rw [n5,Nat.add_sub_cancel_left] at h2
   obtain ⟨O1,O2,b',off',e1,e2,e3,e4,e5,e6⟩:=ihc h2 (by omega) ho hg
   refine ⟨P1++O1,O2,b',off',?_,⟨P1,O1,rfl,h1,e2⟩,e3,e4,e5,?_⟩
   ·rw [List.append_assoc]; exact List.Perm.append_left P1 e1
   ·rcases e6 with ⟨g1,g2,g3⟩|⟨g1,g2⟩
    ·exact .inl ⟨g1,by omega,by omega⟩
    ·exact .inr ⟨by simp [g1],g2⟩
  | .idx i::p,ho,_=>simp [w4] at ho
 | arr n t ih =>
  intro p b off O x hR hb ho u y hg
  match p,ho,hg with
  | [],_,hg=>simp only [j6,Option.some.injEq] at hg; cases hg; exact ⟨[],O,b,off,by simp,rfl,rfl,hR,hb,.inl ⟨rfl,Nat.le_refl _,Nat.le_refl _⟩⟩
  | .idx i::p,ho,hg =>
   obtain ⟨hi,ho⟩:=ho
   obtain ⟨hl,hR⟩:=hR
   simp only [Ty.size] at *
   obtain ⟨b1,b2,b3,b4⟩:=C4 (sz:=t.size) hi
   obtain ⟨P1,P2,P3,rfl,g1,g2,g3⟩:=i7.split (d:=t.o7) (i:=i.toNat) (by rw [hl]; exact b1) hR
   rw [m0 _ _ _ _ (by omega)] at g1
   rw [n5,m0 _ _ _ _ (by omega)] at g2
   rw [n5,show n*t.size - (i.toNat+1)*t.size=(n - (i.toNat+1))*t.size from by omega] at g3
   obtain ⟨O1,O2,b',off',e1,e2,e3,e4,e5,e6⟩:=ih g2 (by omega) ho hg
   refine ⟨P1++(O1++P3),O2,b',off',?_,⟨hl,hi,P1,O1,P3,rfl,g1,e2,g3⟩,e3,e4,e5,?_⟩
   ·rw [List.append_assoc]
    refine List.Perm.append_left P1 ?_
    refine (e1.append_right P3).trans ?_
    rw [List.append_assoc,List.append_assoc]
    exact List.Perm.append_left O1 List.perm_append_comm
   ·rcases e6 with ⟨g1,g2,g3⟩|⟨g1,g2⟩
    ·exact .inl ⟨g1,by omega,by omega⟩
    ·exact .inr ⟨by simp [g1],g2⟩
  | .l7 i::p,ho,_=>simp [w4] at ho
 | d0 o t ih =>
  intro p b off O x hR hb ho u y hg
  match p,ho,hg with
  | [],_,hg=>simp only [j6,Option.some.injEq] at hg; cases hg; exact ⟨[],O,b,off,by simp,by cases o<;>rfl,by cases o<;>rfl,hR,hb,.inl ⟨rfl,Nat.le_refl _,Nat.le_refl _⟩⟩
  | .idx i::p,ho,hg =>
   cases o with
   | false=>simp [w4] at ho
   | true =>
    obtain ⟨hi,ho⟩:=ho
    rcases hR with ⟨_,_,hn⟩|⟨b1,o1,cap,O',c1,c2,c3,c4,c5,rfl,c6⟩
    ·subst hn; simp at hi; omega
    ·simp only [Ty.size] at *
     have hh:=(M1 b off _).1 c1
     obtain ⟨b1',b2,b3,b4⟩:=C4 (sz:=t.size) hi
     obtain ⟨P1,P2,P3,rfl,g1,g2,g3⟩:=i7.split (d:=t.o7) (i:=i.toNat) b1' c5
     rw [m0 _ _ _ _ (by omega)] at g1
     rw [n5,m0 _ _ _ _ (by omega)] at g2
     rw [n5,show List.length x*t.size - (i.toNat+1)*t.size=(List.length x - (i.toNat+1))*t.size from by omega] at g3
     obtain ⟨O1,O2,b',off',e1,e2,e3,e4,e5,e6⟩:=ih g2 (by omega) ho hg
     have hcap:List.length x*t.size≤cap*t.size:=Nat.mul_le_mul_right _ c2
     refine ⟨b1::(P1++(O1++P3)),O2,b',off',?_,⟨hi,b1,o1,cap,P1,O1,P3,rfl,hh,c2,c3,c6,g1,e2,g3⟩,?_,e4,e5,?_⟩
     ·rw [List.cons_append]
      refine List.Perm.cons b1 ?_
      rw [List.append_assoc]
      refine List.Perm.append_left P1 ?_
      refine (e1.append_right P3).trans ?_
      rw [List.append_assoc,List.append_assoc]
      exact List.Perm.append_left O1 List.perm_append_comm
     ·simp only [w7,hh]; exact e3
     ·rcases e6 with ⟨g1,g2,g3⟩|⟨g1,g2⟩
      ·subst g1; exact .inr ⟨by simp,c6.free.mono (by omega)⟩
      ·exact .inr ⟨by simp [g1],g2⟩
  | .l7 i::p,ho,_=>cases o<;>simp [w4] at ho
 | _ =>
  intro p b off O x hR hb ho u y hg
  match p,ho,hg with
  | [],_,hg=>simp only [j6,Option.some.injEq] at hg; cases hg; exact ⟨[],O,b,off,by simp,rfl,rfl,hR,hb,.inl ⟨rfl,Nat.le_refl _,Nat.le_refl _⟩⟩
  | .l7 i::p,ho,_=>simp [w4] at ho
  | .idx i::p,ho,_=>simp [w4] at ho

structure T4 (H H':Array Go.Obj) (b off n:Nat):Prop where
 at_:∃ arr arr' T,(∃ fz,Lie H b arr T fz∧H'[b]?=some (.cells arr' T fz))∧arr'.size=arr.size∧∀ j,(j<off∨off+n≤j)→arr'.toList[j]?=arr.toList[j]?
 rest:∀ c,c≠b→c<H.size→H'[c]?=H[c]?

theorem T4.length {b off n:Nat} (h:T4 H H' b off n) (c:Nat) (hc:c<H.size):(s5 H' c).length=(s5 H c).length:=by
 by_cases e:c=b
 ·subst e
  obtain ⟨arr,arr',T,⟨fz,⟨e1,_⟩,e2⟩,e3,_⟩:=h.at_
  simp only [s5,e1,e2]; simpa using e3
 ·rw [L7 (h.rest c e hc)]

theorem T4.cells {b off n:Nat} (h:T4 H H' b off n) {c o m:Nat} (hc:c<H.size) (hr:c=b→o+m≤off∨off+n≤o):d8 H' c o m=d8 H c o m:=by
 by_cases e:c=b
 ·subst e
  have hr:=hr rfl
  obtain ⟨arr,arr',T,⟨fz,⟨e1,_⟩,e2⟩,e3,e4⟩:=h.at_
  simp only [d8,s5,e1,e2]
  apply List.ext_getElem?
  intro j
  simp only [List.getElem?_take,List.getElem?_drop]
  split
  ·rw [e4]; omega
  ·rfl
 ·exact l4 (h.rest c e hc) _ _

theorem T4.free {b off n:Nat} (h:T4 H H' b off n) {c m:Nat} (hf:K4 H c m):K4 H' c m:=by
 obtain ⟨arr,T,⟨fz,e,ef⟩,hm⟩:=hf
 by_cases hc:c=b
 ·subst hc
  obtain ⟨a1,a2,T',⟨fz',⟨e1,_⟩,e2⟩,e3,_⟩:=h.at_
  rw [e1] at e; cases e
  exact ⟨a2,_,⟨fz,e2,ef.imp id (fun h=>by omega)⟩,by omega⟩
 ·have hlt:c<H.size:=by
   rcases Nat.lt_or_ge c H.size with h|h
   ·exact h
   ·rw [Array.getElem?_eq_none h] at e; cases e
  exact ⟨arr,T,⟨fz,(h.rest c hc hlt).trans e,ef⟩,hm⟩

theorem T4.b8L {b off n:Nat} (h:T4 H H' b off n) {q:Bool} {c m:Nat} (hf:Q8 q H c m):Q8 q H' c m:=by
 obtain ⟨arr,T,⟨fz,e,ef⟩,hm⟩:=hf
 by_cases hc:c=b
 ·subst hc
  obtain ⟨a1,a2,T',⟨fz',⟨e1,_⟩,e2⟩,e3,_⟩:=h.at_
  rw [e1] at e; cases e
  exact ⟨a2,_,⟨fz,e2,ef.imp id (fun h=>⟨h.1,by omega⟩)⟩,by omega⟩
 ·have hlt:c<H.size:=by
   rcases Nat.lt_or_ge c H.size with h|h
   ·exact h
   ·rw [Array.getElem?_eq_none h] at e; cases e
  exact ⟨arr,T,⟨fz,(h.rest c hc hlt).trans e,ef⟩,hm⟩

theorem s4.range:∀ {t:Ty} {p:List Step} {b off:Nat} {O:List Nat} {x:t.den},s4 H S t p b off O x→∀ {u:Ty} {y:u.den},j6 t x p=some ⟨u,y⟩→∀ {b' off':Nat},
  w7 H t p b off=some (b',off')→(b'=b∧off≤off'∧off'+u.size≤off+t.size)∨b'∈O:=by
 intro t
 induction t with
 | pair a c iha ihc =>
  intro p b off O x hR u y hg b' off' hn
  match p,hR,hg,hn with
  | [],_,hg,hn =>
   simp only [j6,Option.some.injEq] at hg; cases hg
   simp only [w7,Option.some.injEq,Prod.mk.injEq] at hn
   exact .inl ⟨hn.1.symm,by omega,by omega⟩
  | .l7 0::p,⟨O1,O2,e,h1,h2⟩,hg,hn =>
   simp only [Ty.size]
   rcases iha h1 hg hn with ⟨g1,g2,g3⟩|g
   ·exact .inl ⟨g1,g2,by omega⟩
   ·exact .inr (by simp [e,g])
  | .l7 (n+1)::p,⟨O1,O2,e,h1,h2⟩,hg,hn =>
   simp only [Ty.size]
   rcases ihc h2 hg hn with ⟨g1,g2,g3⟩|g
   ·exact .inl ⟨g1,by omega,by omega⟩
   ·exact .inr (by simp [e,g])
  | .idx i::p,hR,_,_=>simp [s4] at hR
 | arr n t ih =>
  intro p b off O x hR u y hg b' off' hn
  match p,hR,hg,hn with
  | [],_,hg,hn =>
   simp only [j6,Option.some.injEq] at hg; cases hg
   simp only [w7,Option.some.injEq,Prod.mk.injEq] at hn
   exact .inl ⟨hn.1.symm,by omega,by omega⟩
  | .idx i::p,⟨hl,hi,O1,O2,O3,e,h1,h2,h3⟩,hg,hn =>
   simp only [Ty.size]
   obtain ⟨b1,b2,b3,b4⟩:=C4 (sz:=t.size) hi
   rcases ih h2 hg hn with ⟨g1,g2,g3⟩|g
   ·exact .inl ⟨g1,by omega,by omega⟩
   ·exact .inr (by simp [e,g])
  | .l7 i::p,hR,_,_=>simp [s4] at hR
 | d0 o t ih =>
  intro p b off O x hR u y hg b' off' hn
  match p,hR,hg,hn with
  | [],_,hg,hn =>
   simp only [j6,Option.some.injEq] at hg; cases hg
   have hn:some (b,off)=some (b',off'):=by cases o<;>exact hn
   simp only [Option.some.injEq,Prod.mk.injEq] at hn
   exact .inl ⟨hn.1.symm,by omega,by omega⟩
  | .idx i::p,hR,hg,hn =>
   cases o with
   | false=>simp [s4] at hR
   | true =>
    obtain ⟨hi,b1,o1,cap,O1,O2,O3,e,e1,e2,e3,e4,e5,e6,e7⟩:=hR
    simp only [w7,e1] at hn
    rcases ih e6 hg hn with ⟨g1,g2,g3⟩|g
    ·exact .inr (by rw [g1,e]; simp)
    ·exact .inr (by rw [e]; simp [g])
  | .l7 i::p,hR,_,_=>cases o<;>simp [s4] at hR
 | _ =>
  intro p b off O x hR u y hg b' off' hn
  match p,hR,hg,hn with
  | [],_,hg,hn =>
   simp only [j6,Option.some.injEq] at hg; cases hg
   simp only [w7,Option.some.injEq,Prod.mk.injEq] at hn
   exact .inl ⟨hn.1.symm,by omega,by omega⟩
  | .l7 i::p,hR,_,_=>simp [s4] at hR
  | .idx i::p,hR,_,_=>simp [s4] at hR

theorem i7.chg {t:Ty} {O:List Nat} {b off n o m:Nat} {l:List t.den} {c:Nat} (h:i7 (f7 H S t) t.size O (d8 H c o m) l) (hc:T4 H H' b off n)
  (hO:∀ d∈O,d≠b∧d<H.size) (hS:∀ d,S d→d≠b∧d<H.size) (hSS:∀ d,S d→S' d) (hlt:c<H.size) (hr:c=b→o+m≤off∨off+n≤o) :
  i7 (f7 H' S' t) t.size O (d8 H' c o m) l:=by
 rw [hc.cells hlt hr]
 refine i7.mono (L:=O) (fun _ h=>h) (fun O1 cs x hL hr=>?_) h
 exact hr.r7 (fun d hd=>by
  rcases hd with hd|hd
  ·exact hc.rest d (hO d (hL d hd)).1 (hO d (hL d hd)).2
  ·exact hc.rest d (hS d hd).1 (hS d hd).2) hSS

theorem f7.chg {t:Ty} {O:List Nat} {b off n o m:Nat} {x:t.den} {c:Nat} (h:f7 H S t O (d8 H c o m) x) (hc:T4 H H' b off n)
  (hO:∀ d∈O,d≠b∧d<H.size) (hS:∀ d,S d→d≠b∧d<H.size) (hSS:∀ d,S d→S' d) (hlt:c<H.size) (hr:c=b→o+m≤off∨off+n≤o) :
  f7 H' S' t O (d8 H' c o m) x:=by
 rw [hc.cells hlt hr]
 exact h.r7 (fun d hd=>by
  rcases hd with hd|hd
  ·exact hc.rest d (hO d hd).1 (hO d hd).2
  ·exact hc.rest d (hS d hd).1 (hS d hd).2) hSS

theorem a4m:∀ {t:Ty} {p:List Step} {b off:Nat} {O1:List Nat} {x:t.den},s4 H S t p b off O1 x →
  ∀ {u0:Ty} {y0:u0.den},j6 t x p=some ⟨u0,y0⟩→∀ {b' off':Nat},w7 H t p b off=some (b',off') →
  off+t.size≤(s5 H b).length→b<H.size→O1.Nodup→b∉O1→(∀ c∈O1,¬ S c∧c<H.size)→¬ S b→(∀ c,S c→c<H.size)→(∀ c,S c→S' c) →
  ∀ {u:Ty} {y:u.den} {O2:List Nat} {z:Sigma Ty.den},T4 H H' b' off' u0.size→f7 H' S' u O2 (d8 H' b' off' u.size) y→r9 t x p u y=some z →
  ∃ O,O.Perm (O1++O2)∧f7 H' S' z.1 O (d8 H' b off z.1.size) z.2∧z.1.sh=t.sh:=by
 intro t
 induction t with
 | pair a c iha ihc =>
  intro p b off O1 x hR u0 y0 hg b' off' hn hb hbs hnd hbO hO1 hSb hS hSS u y O2 z hc hy hz
  match p,hR,hg,hn,hz with
  | [],hR,hg,hn,hz =>
   simp only [r9] at hz
   split at hz
   ·rename_i e
    cases hz
    simp only [w7,Option.some.injEq,Prod.mk.injEq] at hn
    obtain ⟨rfl,rfl⟩:=hn
    have hR:O1=[]:=hR
    exact ⟨O2,by rw [hR]; simp,hy,e⟩
   ·cases hz
  | .l7 0::p,⟨P1,P2,e,h1,h2⟩,hg,hn,hz =>
   subst e
   simp only [r9] at hz
   split at hz
   ·rename_i t' w hw
    cases hz
    simp only [List.nodup_append,List.mem_append,not_or] at hnd hbO
    simp only [Ty.size] at hb
    obtain ⟨O,g1,g2,g3⟩:=iha h1 hg hn (by omega) hbs hnd.1 hbO.1 (fun c hc=>hO1 c (by simp [hc])) hSb hS hSS hc hy hw
    have hrng:=s4.range h1 hg hn
    have hsz:=E3 g3
    refine ⟨O++P2,?_,⟨O,P2,rfl,?_,?_⟩,by simp only [Ty.sh,g3]⟩
    ·refine (g1.append_right P2).trans ?_
     rw [List.append_assoc,List.append_assoc]
     exact List.Perm.append_left P1 List.perm_append_comm
    ·simp only [Ty.size]; rw [m0 _ _ _ _ (by omega)]; exact g2
    ·simp only [Ty.size]; rw [n5,Nat.add_sub_cancel_left,hsz]
     refine h2.chg hc (fun d hd=>⟨?_,(hO1 d (by simp [hd])).2⟩) (fun d hd=>⟨?_,hS d hd⟩) hSS hbs (fun e=>?_)
     ·rintro rfl
      rcases hrng with ⟨g,_⟩|g
      ·subst g; exact hbO.2 hd
      ·exact hnd.2.2 _ g _ hd rfl
     ·rintro rfl
      rcases hrng with ⟨g,_⟩|g
      ·subst g; exact hSb hd
      ·exact (hO1 _ (by simp [g])).1 hd
     ·rcases hrng with ⟨_,g,g'⟩|g
      ·right; omega
      ·exact absurd (by simp [e,g]:b∈P1) hbO.1
   ·cases hz
  | .l7 (n+1)::p,⟨P1,P2,e,h1,h2⟩,hg,hn,hz =>
   subst e
   simp only [r9] at hz
   split at hz
   ·rename_i t' w hw
    cases hz
    simp only [List.nodup_append,List.mem_append,not_or] at hnd hbO
    simp only [Ty.size] at hb
    obtain ⟨O,g1,g2,g3⟩:=ihc h2 hg hn (by omega) hbs hnd.2.1 hbO.2 (fun c hc=>hO1 c (by simp [hc])) hSb hS hSS hc hy hw
    have hrng:=s4.range h2 hg hn
    refine ⟨P1++O,?_,⟨P1,O,rfl,?_,?_⟩,by simp only [Ty.sh,g3]⟩
    ·rw [List.append_assoc]; exact List.Perm.append_left P1 g1
    ·simp only [Ty.size]; rw [m0 _ _ _ _ (by omega)]
     refine h1.chg hc (fun d hd=>⟨?_,(hO1 d (by simp [hd])).2⟩) (fun d hd=>⟨?_,hS d hd⟩) hSS hbs (fun e=>?_)
     ·rintro rfl
      rcases hrng with ⟨g,_⟩|g
      ·subst g; exact hbO.1 hd
      ·exact hnd.2.2 _ hd _ g rfl
     ·rintro rfl
      rcases hrng with ⟨g,_⟩|g
      ·subst g; exact hSb hd
      ·exact (hO1 _ (by simp [g])).1 hd
     ·rcases hrng with ⟨_,g,g'⟩|g
      ·left; omega
      ·exact absurd (by simp [e,g]:b∈P2) hbO.2
    ·simp only [Ty.size]; rw [n5,Nat.add_sub_cancel_left]; exact g2
   ·cases hz
  | .idx i::p,hR,_,_,_=>simp [s4] at hR
 | arr n t ih =>
  intro p b off O1 x hR u0 y0 hg b' off' hn hb hbs hnd hbO hO1 hSb hS hSS u y O2 z hc hy hz
  match p,hR,hg,hn,hz with
  | [],hR,hg,hn,hz =>
   simp only [r9] at hz
   split at hz
   ·rename_i e
    cases hz
    simp only [w7,Option.some.injEq,Prod.mk.injEq] at hn
    obtain ⟨rfl,rfl⟩:=hn
    have hR:O1=[]:=hR
    exact ⟨O2,by rw [hR]; simp,hy,e⟩
   ·cases hz
  | .idx i::p,⟨hl,hi,P1,P2,P3,e,h1,h2,h3⟩,hg,hn,hz =>
   subst e
   simp only [r9] at hz
   split at hz
   ·rename_i t' w hw
    split at hz
    ·rename_i ht; subst ht; cases hz
     simp only [List.nodup_append,List.mem_append,not_or] at hnd hbO
     obtain ⟨b1,b2,b3,b4⟩:=C4 (sz:=t'.size) hi
     simp only [Ty.size] at hb
     obtain ⟨O,g1,g2,g3⟩:=ih h2 hg hn (by omega) hbs hnd.2.1.1 hbO.2.1 (fun c hc=>hO1 c (by simp [hc])) hSb hS hSS hc hy hw
     have hrng:=s4.range h2 hg hn
     have hne:∀ d,(d∈P1∨d∈P3)→d≠b'∧d<H.size:=by
      intro d hd
      refine ⟨?_,(hO1 d (by rcases hd with h|h<;>simp [h])).2⟩
      rintro rfl
      rcases hrng with ⟨g,_⟩|g
      ·subst g; rcases hd with h|h
       ·exact hbO.1 h
       ·exact hbO.2.2 h
      ·rcases hd with h|h
       ·exact hnd.2.2 _ h _ (.inl g) rfl
       ·exact hnd.2.1.2.2 _ g _ h rfl
     have hSne:∀ d,S d→d≠b'∧d<H.size:=by
      intro d hd
      refine ⟨?_,hS d hd⟩
      rintro rfl
      rcases hrng with ⟨g,_⟩|g
      ·subst g; exact hSb hd
      ·exact (hO1 _ (by simp [g])).1 hd
     refine ⟨P1++(O++P3),?_,⟨by simpa using hl,i7.join (fun _ _ _ h=>f7.length h) (by rw [hl]; exact b1) ?_ ?_ ?_⟩,rfl⟩
     ·rw [List.append_assoc]
      refine List.Perm.append_left P1 ?_
      refine (g1.append_right P3).trans ?_
      rw [List.append_assoc,List.append_assoc]
      exact List.Perm.append_left P2 List.perm_append_comm
     ·simp only [Ty.size]; rw [m0 _ _ _ _ (by omega)]
      refine h1.chg hc (fun d hd=>hne d (.inl hd)) hSne hSS hbs (fun e=>?_)
      rcases hrng with ⟨_,g,g'⟩|g
      ·left; omega
      ·exact absurd (by simp [e,g]:b∈P2) hbO.2.1
     ·simp only [Ty.size]; rw [n5,m0 _ _ _ _ (by omega)]; exact g2
     ·simp only [Ty.size]; rw [n5,show n*t'.size - (i.toNat+1)*t'.size=(n - (i.toNat+1))*t'.size from by omega]
      refine h3.chg hc (fun d hd=>hne d (.inr hd)) hSne hSS hbs (fun e=>?_)
      rcases hrng with ⟨_,g,g'⟩|g
      ·right; omega
      ·exact absurd (by simp [e,g]:b∈P2) hbO.2.1
    ·cases hz
   ·cases hz
  | .l7 i::p,hR,_,_,_=>simp [s4] at hR
 | d0 o t ih =>
  intro p b off O1 x hR u0 y0 hg b' off' hn hb hbs hnd hbO hO1 hSb hS hSS u y O2 z hc hy hz
  match p,hR,hg,hn,hz with
  | [],hR,hg,hn,hz =>
   have hz:(if u.sh=(Ty.d0 o t).sh then some (⟨u,y⟩:Sigma Ty.den) else none)=some z:=by cases o<;>exact hz
   split at hz
   ·rename_i e
    cases hz
    have hn:some (b,off)=some (b',off'):=by cases o<;>exact hn
    simp only [Option.some.injEq,Prod.mk.injEq] at hn
    obtain ⟨rfl,rfl⟩:=hn
    have hR:O1=[]:=by cases o<;>exact hR
    exact ⟨O2,by rw [hR]; simp,hy,e⟩
   ·cases hz
  | .idx i::p,hR,hg,hn,hz =>
   cases o with
   | false=>simp [s4] at hR
   | true =>
    obtain ⟨hi,c1,o1,cap,P1,P2,P3,e,e1,e2,e3,e4,e5,e6,e7⟩:=hR
    subst e
    simp only [w7,e1] at hn
    simp only [r9] at hz
    split at hz
    ·rename_i t' w hw
     split at hz
     ·rename_i ht; subst ht; cases hz
      simp only [List.nodup_append,List.mem_append,List.nodup_cons,List.mem_cons,not_or] at hnd hbO
      obtain ⟨b1,b2,b3,b4⟩:=C4 (sz:=t'.size) hi
      have hcap:List.length x*t'.size≤cap*t'.size:=Nat.mul_le_mul_right _ e2
      have hfb:=e4.free.s5
      have hc1:c1<H.size:=(hO1 c1 (by simp)).2
      obtain ⟨O,g1,g2,g3⟩:=ih e6 hg hn (by omega) hc1 hnd.2.2.1.1 hnd.1.2.1 (fun c hc=>hO1 c (by simp [hc])) (hO1 c1 (by simp)).1 hS hSS hc hy hw
      have hrng:=s4.range e6 hg hn
      have hbb:b≠b':=by
       rintro rfl
       rcases hrng with ⟨g,_⟩|g
       ·exact hbO.1 g
       ·exact hbO.2.2.1 g
      have hne:∀ d,(d∈P1∨d∈P3)→d≠b'∧d<H.size:=by
       intro d hd
       refine ⟨?_,(hO1 d (by rcases hd with h|h<;>simp [h])).2⟩
       rintro rfl
       rcases hrng with ⟨g,_⟩|g
       ·subst g; rcases hd with h|h
        ·exact hnd.1.1 h
        ·exact hnd.1.2.2 h
       ·rcases hd with h|h
        ·exact hnd.2.2.2 _ h _ (.inl g) rfl
        ·exact hnd.2.2.1.2.2 _ g _ h rfl
      have hSne:∀ d,S d→d≠b'∧d<H.size:=by
       intro d hd
       refine ⟨?_,hS d hd⟩
       rintro rfl
       rcases hrng with ⟨g,_⟩|g
       ·subst g; exact (hO1 _ (by simp)).1 hd
       ·exact (hO1 _ (by simp [g])).1 hd
      have hhd:d8 H' b off 1=[.slice (some ⟨c1,o1,none⟩) (List.length x) cap]:=by
       rw [l4 (hc.rest b hbb hbs)]; exact (M1 b off _).2 e1
      refine ⟨c1::(P1++(O++P3)),?_,.inr ⟨c1,o1,cap,P1++(O++P3),by simp only [Ty.size,List.length_set]; exact hhd,by simpa using e2,e3,?_,?_,rfl,hc.b8L e4⟩,rfl⟩
      ·rw [List.cons_append]
       refine List.Perm.cons c1 ?_
       rw [List.append_assoc]
       refine List.Perm.append_left P1 ?_
       refine (g1.append_right P3).trans ?_
       rw [List.append_assoc,List.append_assoc]
       exact List.Perm.append_left P2 List.perm_append_comm
      ·rw [hc.length c1 hc1]; simp only [List.length_set]; omega
      ·simp only [List.length_set]
       refine i7.join (fun _ _ _ h=>f7.length h) b1 ?_ ?_ ?_
       ·rw [m0 _ _ _ _ (by omega)]
        refine e5.chg hc (fun d hd=>hne d (.inl hd)) hSne hSS hc1 (fun e=>?_)
        rcases hrng with ⟨_,g,g'⟩|g
        ·left; omega
        ·exact absurd (by simp [e,g]:c1∈P2) hnd.1.2.1
       ·rw [n5,m0 _ _ _ _ (by omega)]; exact g2
       ·rw [n5,show List.length x*t'.size - (i.toNat+1)*t'.size=(List.length x - (i.toNat+1))*t'.size from by omega]
        refine e7.chg hc (fun d hd=>hne d (.inr hd)) hSne hSS hc1 (fun e=>?_)
        rcases hrng with ⟨_,g,g'⟩|g
        ·right; omega
        ·exact absurd (by simp [e,g]:c1∈P2) hnd.1.2.1
     ·cases hz
    ·cases hz
  | .l7 i::p,hR,_,_,_=>cases o<;>simp [s4] at hR
 | _ =>
  intro p b off O1 x hR u0 y0 hg b' off' hn hb hbs hnd hbO hO1 hSb hS hSS u y O2 z hc hy hz
  match p,hR,hg,hn,hz with
  | [],hR,hg,hn,hz =>
   simp only [r9] at hz
   split at hz
   ·rename_i e
    cases hz
    simp only [w7,Option.some.injEq,Prod.mk.injEq] at hn
    obtain ⟨rfl,rfl⟩:=hn
    have hR:O1=[]:=hR
    exact ⟨O2,by rw [hR]; simp,hy,e⟩
   ·cases hz
  | .l7 i::p,hR,_,_,_=>simp [s4] at hR
  | .idx i::p,hR,_,_,_=>simp [s4] at hR

end
end Go.Ex

namespace Go.Ex

def kp:List Step→List Step→Bool
 | _,[]=>true
 | [],.l7 _::p=>kp [] p
 | [],.idx _::_=>false
 | .l7 n::q,.l7 m::p=>if n=m then kp q p else true
 | .idx _::q,.idx _::p=>kp q p
 | _,_=>false

section
variable {H H':Array Go.Obj} {S S':Nat→Prop}

theorem W5 {b off n o m:Nat} (h:d8 H' b off n=d8 H b off n) (h1:off≤o) (h2:o+m≤off+n):d8 H' b o m=d8 H b o m:=by
 have e:∀ K:Array Go.Obj,d8 K b o m=((d8 K b off n).drop (o - off)).take m:=by
  intro K
  rw [n5,m0 _ _ _ _ (by omega),show off+(o - off)=o from by omega]
 rw [e H',e H,h]

theorem b4p {b off n:Nat} (h:d8 H' b off n=d8 H b off n) {j:Nat} (h1:off≤j) (h2:j<off+n):(s5 H' b)[j]?=(s5 H b)[j]?:=by
 have e:∀ K:Array Go.Obj,(s5 K b)[j]?=(d8 K b off n)[j - off]?:=by
  intro K
  simp only [d8,List.getElem?_take,List.getElem?_drop]
  rw [if_pos (by omega),show off+(j - off)=j from by omega]
 rw [e H',e H,h]

theorem b1p:∀ {t:Ty} {x:t.den} {p:List Step},w4 t x p→∃ u y,j6 t x p=some ⟨u,y⟩:=by
 intro t
 induction t with
 | pair a c iha ihc =>
  intro x p h
  match p,h with
  | [],_=>exact ⟨_,_,rfl⟩
  | .l7 0::p,h=>exact iha h
  | .l7 (n+1)::p,h=>exact ihc h
  | .idx i::p,h=>simp [w4] at h
 | arr n t ih =>
  intro x p h
  match p,h with
  | [],_=>exact ⟨_,_,rfl⟩
  | .idx i::p,h=>exact ih h.2
  | .l7 i::p,h=>simp [w4] at h
 | d0 o t ih =>
  intro x p h
  match p,h with
  | [],_=>cases o<;>exact ⟨_,_,rfl⟩
  | .idx i::p,h=>cases o with
   | true=>exact ih h.2
   | false=>simp [w4] at h
  | .l7 i::p,h=>cases o<;>simp [w4] at h
 | _ =>
  intro x p h
  match p,h with
  | [],_=>exact ⟨_,_,rfl⟩
  | .idx i::p,h=>simp [w4] at h
  | .l7 i::p,h=>simp [w4] at h

theorem a84:∀ {t t':Ty} {p:List Step} {b off:Nat},t'.sh=t.sh→kp [] p=true→w7 H' t' p b off=w7 H t p b off:=by
 intro t
 induction t with
 | pair a c iha ihc =>
  intro t' p b off h hp
  cases t'<;>simp only [Ty.sh] at h<;>try cases h
  rename_i a' c'
  simp only [Ty.pair.injEq] at h
  match p,hp with
  | [],_=>rfl
  | .l7 0::p,hp=>exact iha h.1 hp
  | .l7 (n+1)::p,hp=>simp only [w7,E3 h.1]; exact ihc h.2 (by simpa [kp] using hp)
  | .idx i::p,hp=>simp [kp] at hp
 | d0 o t ih =>
  intro t' p b off h hp
  cases t'<;>simp only [Ty.sh] at h<;>try cases h
  ·rename_i o' _
   match p,hp with
   | [],_=>cases o<;>cases o'<;>rfl
   | .l7 i::p,hp=>cases o<;>cases o'<;>simp [w7]
   | .idx i::p,hp=>simp [kp] at hp
  ·match p,hp with
   | [],_=>cases o<;>rfl
   | .l7 i::p,hp=>cases o<;>simp [w7]
   | .idx i::p,hp=>simp [kp] at hp
 | hole t ih =>
  intro t' p b off h hp
  cases t'<;>simp only [Ty.sh] at h<;>try cases h
  ·rename_i o' _
   match p,hp with
   | [],_=>cases o'<;>rfl
   | .l7 i::p,hp=>cases o'<;>simp [w7]
   | .idx i::p,hp=>simp [kp] at hp
  ·match p,hp with
   | [],_=>rfl
   | .l7 i::p,hp=>simp [w7]
   | .idx i::p,hp=>simp [kp] at hp
 | _ =>
  intro t' p b off h hp
  cases t'<;>simp only [Ty.sh] at h<;>try cases h
  all_goals
   match p,hp with
   | [],_=>rfl
   | .l7 i::p,hp=>simp [w7]
   | .idx i::p,hp=>simp [kp] at hp

theorem b2H:∀ {t t':Ty} {p:List Step} {x:t.den} {y:t'.den},t'.sh=t.sh→kp [] p=true→w4 t x p→w4 t' y p:=by
 intro t
 induction t with
 | pair a c iha ihc =>
  intro t' p x y h hp ho
  cases t'<;>simp only [Ty.sh] at h<;>try cases h
  rename_i a' c'
  simp only [Ty.pair.injEq] at h
  match p,hp,ho with
  | [],_,_=>trivial
  | .l7 0::p,hp,ho=>exact iha (t':=a') (y:=y.1) h.1 hp ho
  | .l7 (n+1)::p,hp,ho=>exact ihc (t':=c') (y:=y.2) h.2 (by simpa [kp] using hp) ho
  | .idx i::p,hp,_=>simp [kp] at hp
 | d0 o t ih =>
  intro t' p x y h hp ho
  match p,hp,ho with
  | [],_,_=>simp [w4]
  | .l7 i::p,hp,ho=>cases o<;>simp [w4] at ho
  | .idx i::p,hp,_=>simp [kp] at hp
 | _ =>
  intro t' p x y h hp ho
  match p,hp,ho with
  | [],_,_=>simp [w4]
  | .l7 i::p,hp,ho=>simp [w4] at ho
  | .idx i::p,hp,_=>simp [kp] at hp

theorem a1X:∀ {t:Ty} {p:List Step} {b off:Nat} {O:List Nat} {x:t.den},f7 H S t O (d8 H b off t.size) x→off+t.size≤(s5 H b).length→w4 t x p →
  d8 H' b off t.size=d8 H b off t.size→(∀ c∈O,H'[c]?=H[c]?)→w7 H' t p b off=w7 H t p b off:=by
 intro t
 induction t with
 | pair a c iha ihc =>
  intro p b off O x hR hb ho hc hO
  match p,ho with
  | [],_=>rfl
  | .l7 0::p,ho =>
   obtain ⟨P1,P2,rfl,h1,h2⟩:=hR
   simp only [Ty.size] at *
   rw [m0 _ _ _ _ (by omega)] at h1
   exact iha h1 (by omega) ho (W5 hc (by omega) (by omega)) (fun c hc=>hO c (by simp [hc]))
  | .l7 (n+1)::p,ho =>
   obtain ⟨P1,P2,rfl,h1,h2⟩:=hR
   simp only [Ty.size] at *
   rw [n5,Nat.add_sub_cancel_left] at h2
   exact ihc h2 (by omega) ho (W5 hc (by omega) (by omega)) (fun c hc=>hO c (by simp [hc]))
  | .idx i::p,ho=>simp [w4] at ho
 | arr n t ih =>
  intro p b off O x hR hb ho hc hO
  match p,ho with
  | [],_=>rfl
  | .idx i::p,ho =>
   obtain ⟨hi,ho⟩:=ho
   obtain ⟨hl,hR⟩:=hR
   simp only [Ty.size] at *
   obtain ⟨b1,b2,b3,b4⟩:=C4 (sz:=t.size) hi
   obtain ⟨P1,P2,P3,rfl,g1,g2,g3⟩:=i7.split (d:=t.o7) (i:=i.toNat) (by rw [hl]; exact b1) hR
   rw [n5,m0 _ _ _ _ (by omega)] at g2
   exact ih g2 (by omega) ho (W5 hc (by omega) (by omega)) (fun c hc=>hO c (by simp [hc]))
  | .l7 i::p,ho=>simp [w4] at ho
 | d0 o t ih =>
  intro p b off O x hR hb ho hc hO
  match p,ho with
  | [],_=>cases o<;>rfl
  | .idx i::p,ho =>
   cases o with
   | false=>simp [w4] at ho
   | true =>
    obtain ⟨hi,ho⟩:=ho
    rcases hR with ⟨_,_,hn⟩|⟨b1,o1,cap,O',c1,c2,c3,c4,c5,rfl,c6⟩
    ·subst hn; simp at hi; omega
    ·simp only [Ty.size] at *
     have hh:=(M1 b off _).1 c1
     have hh':=(M1 b off _).1 (hc.trans c1)
     obtain ⟨b1',b2,b3,b4⟩:=C4 (sz:=t.size) hi
     obtain ⟨P1,P2,P3,rfl,g1,g2,g3⟩:=i7.split (d:=t.o7) (i:=i.toNat) b1' c5
     rw [n5,m0 _ _ _ _ (by omega)] at g2
     have hcap:List.length x*t.size≤cap*t.size:=Nat.mul_le_mul_right _ c2
     simp only [w7,hh,hh']
     exact ih g2 (by omega) ho (l4 (hO b1 (by simp)) _ _) (fun c hc=>hO c (by simp [hc]))
  | .l7 i::p,ho=>cases o<;>simp [w4] at ho
 | _ =>
  intro p b off O x hR hb ho hc hO
  match p,ho with
  | [],_=>rfl
  | .l7 i::p,ho=>simp [w4] at ho
  | .idx i::p,ho=>simp [w4] at ho

theorem a3s {t:Ty} {p:List Step} {b off:Nat} {O:List Nat} {x:t.den} (hR:f7 H S t O (d8 H b off t.size) x) (hb:off+t.size≤(s5 H b).length) (ho:w4 t x p)
  (hc:d8 H' b off t.size=d8 H b off t.size) (hO:∀ c∈O,H'[c]?=H[c]?) {u:Ty} {y:u.den} (hg:j6 t x p=some ⟨u,y⟩) {b' off':Nat} (hn:w7 H t p b off=some (b',off')) :
  d8 H' b' off' u.size=d8 H b' off' u.size:=by
 obtain ⟨O1,O2,c1,c2,e1,e2,e3,e4,e5,e6⟩:=focus hR hb ho hg
 rw [hn] at e3; cases e3
 rcases e6 with ⟨rfl,g1,g2⟩|⟨g1,_⟩
 ·exact W5 hc g1 g2
 ·exact l4 (hO _ (e1.mem_iff.2 (by simp [g1]))) _ _

theorem X2 {α:Type} (l:List α) (i j:Nat) (v d:α):(l.set i v).getD j d=if i=j∧j<l.length then v else l.getD j d:=by
 simp only [List.getD_eq_getElem?_getD,List.getElem?_set]
 by_cases h:i=j
 ·subst h
  by_cases h2:i<l.length<;>simp [h2]
 ·simp [h]


theorem c4L:∀ {t:Ty} {x:t.den} {p:List Step} {u:Ty} {y:u.den} {z:Sigma Ty.den},r9 t x p u y=some z→z.1.sh=t.sh:=by
 intro t
 induction t with
 | pair a c iha ihc =>
  intro x p u y z h
  match p,h with
  | [],h =>
   simp only [r9] at h
   split at h
   ·rename_i e; cases h; exact e
   ·cases h
  | .l7 0::p,h =>
   simp only [r9] at h
   split at h
   ·rename_i t' w hw; cases h; simp only [Ty.sh,iha hw]
   ·cases h
  | .l7 (n+1)::p,h =>
   simp only [r9] at h
   split at h
   ·rename_i t' w hw; cases h; simp only [Ty.sh,ihc hw]
   ·cases h
  | .idx i::p,h=>simp [r9] at h
 | arr n t ih =>
  intro x p u y z h
  match p,h with
  | [],h =>
   simp only [r9] at h
   split at h
   ·rename_i e; cases h; exact e
   ·cases h
  | .idx i::p,h =>
   simp only [r9] at h
   split at h
   ·split at h
    ·cases h; rfl
    ·cases h
   ·cases h
  | .l7 i::p,h=>simp [r9] at h
 | d0 o t ih =>
  intro x p u y z h
  match p,h with
  | [],h =>
   have h:(if u.sh=(Ty.d0 o t).sh then some (⟨u,y⟩:Sigma Ty.den) else none)=some z:=by cases o<;>exact h
   split at h
   ·rename_i e; cases h; exact e
   ·cases h
  | .idx i::p,h =>
   cases o with
   | false=>simp [r9] at h
   | true =>
    simp only [r9] at h
    split at h
    ·split at h
     ·cases h; rfl
     ·cases h
    ·cases h
  | .l7 i::p,h=>cases o<;>simp [r9] at h
 | _ =>
  intro x p u y z h
  match p,h with
  | [],h =>
   simp only [r9] at h
   split at h
   ·rename_i e; cases h; exact e
   ·cases h
  | .idx i::p,h=>simp [r9] at h
  | .l7 i::p,h=>simp [r9] at h

theorem b3C:∀ {t:Ty} {q:List Step} {b off:Nat} {O1:List Nat} {x:t.den},s4 H S t q b off O1 x →
  ∀ {u0:Ty} {y0:u0.den},j6 t x q=some ⟨u0,y0⟩→∀ {b' off':Nat},w7 H t q b off=some (b',off') →
  off+t.size≤(s5 H b).length→b<H.size→O1.Nodup→b∉O1→(∀ c∈O1,c<H.size) →
  ∀ {u:Ty} {y:u.den} {z:Sigma Ty.den},T4 H H' b' off' u0.size→r9 t x q u y=some z →
  ∀ {p:List Step},kp q p=true→w4 t x p→w7 H' z.1 p b off=w7 H t p b off∧w4 z.1 z.2 p:=by
 intro t
 induction t with
 | pair a c iha ihc =>
  intro q b off O1 x hR u0 y0 hg b' off' hn hb hbs hnd hbO hO1 u y z hc hz p hk ho
  match q,hR,hg,hn,hz,hk with
  | [],hR,hg,hn,hz,hk =>
   simp only [r9] at hz
   split at hz
   ·rename_i e; cases hz; exact ⟨a84 e hk,b2H e hk ho⟩
   ·cases hz
  | .l7 0::q,⟨P1,P2,e,h1,h2⟩,hg,hn,hz,hk =>
   subst e
   simp only [r9] at hz
   split at hz
   ·rename_i t' w hw
    cases hz
    simp only [List.nodup_append,List.mem_append,not_or] at hnd hbO
    simp only [Ty.size] at hb
    have hrng:=s4.range h1 hg hn
    match p,hk,ho with
    | [],_,_=>exact ⟨rfl,trivial⟩
    | .l7 0::p,hk,ho =>
     exact iha h1 hg hn (by omega) hbs hnd.1 hbO.1 (fun c hc=>hO1 c (by simp [hc])) hc hw (by simpa [kp] using hk) ho
    | .l7 (m+1)::p,_,ho =>
     have hsz:t'.size=a.size:=E3 (c4L hw)
     refine ⟨?_,ho⟩
     simp only [w7,hsz]
     refine a1X h2 (by omega) ho ?_ ?_
     ·refine hc.cells hbs (fun e=>?_)
      rcases hrng with ⟨_,g,g'⟩|g
      ·right; omega
      ·exact absurd (by simp [e,g]:b∈P1) hbO.1
     ·intro d hd
      refine hc.rest d ?_ (hO1 d (by simp [hd]))
      rintro rfl
      rcases hrng with ⟨g,_⟩|g
      ·subst g; exact hbO.2 hd
      ·exact hnd.2.2 _ g _ hd rfl
    | .idx i::p,hk,_=>simp [kp] at hk
   ·cases hz
  | .l7 (n+1)::q,⟨P1,P2,e,h1,h2⟩,hg,hn,hz,hk =>
   subst e
   simp only [r9] at hz
   split at hz
   ·rename_i t' w hw
    cases hz
    simp only [List.nodup_append,List.mem_append,not_or] at hnd hbO
    simp only [Ty.size] at hb
    have hrng:=s4.range h2 hg hn
    match p,hk,ho with
    | [],_,_=>exact ⟨rfl,trivial⟩
    | .l7 0::p,_,ho =>
     refine ⟨?_,ho⟩
     simp only [w7]
     refine a1X h1 (by omega) ho ?_ ?_
     ·refine hc.cells hbs (fun e=>?_)
      rcases hrng with ⟨_,g,g'⟩|g
      ·left; omega
      ·exact absurd (by simp [e,g]:b∈P2) hbO.2
     ·intro d hd
      refine hc.rest d ?_ (hO1 d (by simp [hd]))
      rintro rfl
      rcases hrng with ⟨g,_⟩|g
      ·subst g; exact hbO.1 hd
      ·exact hnd.2.2 _ hd _ g rfl
    | .l7 (m+1)::p,hk,ho =>
     exact ihc h2 hg hn (by omega) hbs hnd.2.1 hbO.2 (fun c hc=>hO1 c (by simp [hc])) hc hw (by
      simp only [kp,Nat.add_right_cancel_iff] at hk ⊢; exact hk) ho
    | .idx i::p,hk,_=>simp [kp] at hk
   ·cases hz
  | .idx i::q,hR,_,_,_,_=>simp [s4] at hR
 | arr n t ih =>
  intro q b off O1 x hR u0 y0 hg b' off' hn hb hbs hnd hbO hO1 u y z hc hz p hk ho
  match q,hR,hg,hn,hz,hk with
  | [],hR,hg,hn,hz,hk =>
   simp only [r9] at hz
   split at hz
   ·rename_i e; cases hz; exact ⟨a84 e hk,b2H e hk ho⟩
   ·cases hz
  | .idx i::q,⟨hl,hi,P1,P2,P3,e,h1,h2,h3⟩,hg,hn,hz,hk =>
   subst e
   simp only [r9] at hz
   split at hz
   ·rename_i t' w hw
    split at hz
    ·rename_i ht; subst ht; cases hz
     simp only [List.nodup_append,List.mem_append,not_or] at hnd hbO
     obtain ⟨b1,b2,b3,b4⟩:=C4 (sz:=t'.size) hi
     simp only [Ty.size] at hb
     have hrng:=s4.range h2 hg hn
     match p,hk,ho with
     | [],_,_=>exact ⟨rfl,trivial⟩
     | .idx j::p,hk,ho =>
      obtain ⟨hj,ho⟩:=ho
      obtain ⟨d1,d2,d3,d4⟩:=C4 (sz:=t'.size) hj
      simp only [w7,w4]
      by_cases hij:i.toNat=j.toNat
      ·rw [← hij] at ho ⊢
       have:=ih h2 hg hn (by omega) hbs hnd.2.1.1 hbO.2.1 (fun c hc=>hO1 c (by simp [hc])) hc hw (by simpa [kp] using hk) ho
       refine ⟨this.1,hj,?_⟩
       rw [X2,if_pos ⟨rfl,by rw [hl]; exact b1⟩]
       exact this.2
      ·rw [X2,if_neg (by simp [hij])]
       refine ⟨?_,hj,ho⟩
       have hne:∀ d,(d∈P1∨d∈P3)→H'[d]?=H[d]?:=by
        intro d hd
        refine hc.rest d ?_ (hO1 d (by rcases hd with h|h<;>simp [h]))
        rintro rfl
        rcases hrng with ⟨g,_⟩|g
        ·subst g; rcases hd with h|h
         ·exact hbO.1 h
         ·exact hbO.2.2 h
        ·rcases hd with h|h
         ·exact hnd.2.2 _ h _ (.inl g) rfl
         ·exact hnd.2.1.2.2 _ g _ h rfl
       rcases Nat.lt_or_gt_of_ne hij with hlt|hgt
       ·-- j above i
        have hd:j.toNat - (i.toNat+1)<(List.drop (i.toNat+1) x).length:=by simp only [List.length_drop]; omega
        obtain ⟨Q1,Q2,Q3,e,k1,k2,k3⟩:=i7.split (d:=t'.o7) hd h3
        have e1:(i.toNat+1)*t'.size+(j.toNat - (i.toNat+1))*t'.size=j.toNat*t'.size:=by rw [← Nat.add_mul]; congr 1; omega
        have hm:(j.toNat - (i.toNat+1))*t'.size+t'.size≤(n - (i.toNat+1))*t'.size:=by omega
        rw [n5,m0 _ _ _ _ (by omega),Nat.add_assoc,e1] at k2
        have e2:(List.drop (i.toNat+1) x).getD (j.toNat - (i.toNat+1)) t'.o7=List.getD x j.toNat t'.o7:=by
         simp only [List.getD_eq_getElem?_getD,List.getElem?_drop]
         rw [show i.toNat+1+(j.toNat - (i.toNat+1))=j.toNat from by omega]
        rw [e2] at k2
        refine a1X k2 (by omega) ho ?_ (fun d hd=>hne d (.inr (by rw [e]; simp [hd])))
        refine hc.cells hbs (fun e=>?_)
        rcases hrng with ⟨_,g,g'⟩|g
        ·right; omega
        ·exact absurd (by simp [e,g]:b∈P2) hbO.2.1
       ·have hd:j.toNat<(List.take i.toNat x).length:=by simp only [List.length_take]; omega
        obtain ⟨Q1,Q2,Q3,e,k1,k2,k3⟩:=i7.split (d:=t'.o7) hd h1
        have hm:j.toNat*t'.size+t'.size≤i.toNat*t'.size:=by
         rw [← Nat.succ_mul]; exact Nat.mul_le_mul_right _ (by omega)
        rw [n5,m0 _ _ _ _ (by omega)] at k2
        have e2:(List.take i.toNat x).getD j.toNat t'.o7=List.getD x j.toNat t'.o7:=by
         simp only [List.getD_eq_getElem?_getD,List.getElem?_take]
         rw [if_pos (by omega)]
        rw [e2] at k2
        refine a1X k2 (by omega) ho ?_ (fun d hd=>hne d (.inl (by rw [e]; simp [hd])))
        refine hc.cells hbs (fun e=>?_)
        rcases hrng with ⟨_,g,g'⟩|g
        ·left; omega
        ·exact absurd (by simp [e,g]:b∈P2) hbO.2.1
     | .l7 i::p,hk,_=>simp [kp] at hk
    ·cases hz
   ·cases hz
  | .l7 i::q,hR,_,_,_,_=>simp [s4] at hR
 | d0 o t ih =>
  intro q b off O1 x hR u0 y0 hg b' off' hn hb hbs hnd hbO hO1 u y z hc hz p hk ho
  match q,hR,hg,hn,hz,hk with
  | [],hR,hg,hn,hz,hk =>
   have hz:(if u.sh=(Ty.d0 o t).sh then some (⟨u,y⟩:Sigma Ty.den) else none)=some z:=by cases o<;>exact hz
   split at hz
   ·rename_i e; cases hz; exact ⟨a84 e hk,b2H e hk ho⟩
   ·cases hz
  | .idx i::q,hR,hg,hn,hz,hk =>
   cases o with
   | false=>simp [s4] at hR
   | true =>
    obtain ⟨hi,c1,o1,cap,P1,P2,P3,e,e1,e2,e3,e4,e5,e6,e7⟩:=hR
    subst e
    simp only [w7,e1] at hn
    simp only [r9] at hz
    split at hz
    ·rename_i t' w hw
     split at hz
     ·rename_i ht; subst ht; cases hz
      simp only [List.nodup_append,List.mem_append,List.nodup_cons,List.mem_cons,not_or] at hnd hbO
      obtain ⟨b1,b2,b3,b4⟩:=C4 (sz:=t'.size) hi
      have hcap:List.length x*t'.size≤cap*t'.size:=Nat.mul_le_mul_right _ e2
      have hfb:=e4.free.s5
      have hc1:c1<H.size:=hO1 c1 (by simp)
      have hrng:=s4.range e6 hg hn
      have hbb:b≠b':=by
       rintro rfl
       rcases hrng with ⟨g,_⟩|g
       ·exact hbO.1 g
       ·exact hbO.2.2.1 g
      have hhd:(s5 H' b)[off]?=some (.slice (some ⟨c1,o1,none⟩) (List.length x) cap):=by
       rw [L7 (hc.rest b hbb hbs)]; exact e1
      match p,hk,ho with
      | [],_,_=>exact ⟨rfl,trivial⟩
      | .idx j::p,hk,ho =>
       obtain ⟨hj,ho⟩:=ho
       obtain ⟨d1,d2,d3,d4⟩:=C4 (sz:=t'.size) hj
       simp only [w7,w4,e1,hhd,List.length_set]
       by_cases hij:i.toNat=j.toNat
       ·rw [← hij] at ho ⊢
        have:=ih e6 hg hn (by omega) hc1 hnd.2.2.1.1 hnd.1.2.1 (fun c hc=>hO1 c (by simp [hc])) hc hw (by simpa [kp] using hk) ho
        refine ⟨this.1,hj,?_⟩
        rw [X2,if_pos ⟨rfl,b1⟩]
        exact this.2
       ·rw [X2,if_neg (by simp [hij])]
        refine ⟨?_,hj,ho⟩
        have hne:∀ d,(d∈P1∨d∈P3)→H'[d]?=H[d]?:=by
         intro d hd
         refine hc.rest d ?_ (hO1 d (by rcases hd with h|h<;>simp [h]))
         rintro rfl
         rcases hrng with ⟨g,_⟩|g
         ·subst g; rcases hd with h|h
          ·exact hnd.1.1 h
          ·exact hnd.1.2.2 h
         ·rcases hd with h|h
          ·exact hnd.2.2.2 _ h _ (.inl g) rfl
          ·exact hnd.2.2.1.2.2 _ g _ h rfl
        rcases Nat.lt_or_gt_of_ne hij with hlt|hgt
        ·have hd:j.toNat - (i.toNat+1)<(List.drop (i.toNat+1) x).length:=by simp only [List.length_drop]; omega
         obtain ⟨Q1,Q2,Q3,e,k1,k2,k3⟩:=i7.split (d:=t'.o7) hd e7
         have f1:(i.toNat+1)*t'.size+(j.toNat - (i.toNat+1))*t'.size=j.toNat*t'.size:=by rw [← Nat.add_mul]; congr 1; omega
         have hm:(j.toNat - (i.toNat+1))*t'.size+t'.size≤(List.length x - (i.toNat+1))*t'.size:=by omega
         rw [n5,m0 _ _ _ _ (by omega),Nat.add_assoc,f1] at k2
         have f2:(List.drop (i.toNat+1) x).getD (j.toNat - (i.toNat+1)) t'.o7=List.getD x j.toNat t'.o7:=by
          simp only [List.getD_eq_getElem?_getD,List.getElem?_drop]
          rw [show i.toNat+1+(j.toNat - (i.toNat+1))=j.toNat from by omega]
         rw [f2] at k2
         refine a1X k2 (by omega) ho ?_ (fun d hd=>hne d (.inr (by rw [e]; simp [hd])))
         refine hc.cells hc1 (fun e=>?_)
         rcases hrng with ⟨_,g,g'⟩|g
         ·right; omega
         ·exact absurd (by simp [e,g]:c1∈P2) hnd.1.2.1
        ·have hd:j.toNat<(List.take i.toNat x).length:=by simp only [List.length_take]; omega
         obtain ⟨Q1,Q2,Q3,e,k1,k2,k3⟩:=i7.split (d:=t'.o7) hd e5
         have hm:j.toNat*t'.size+t'.size≤i.toNat*t'.size:=by
          rw [← Nat.succ_mul]; exact Nat.mul_le_mul_right _ (by omega)
         rw [n5,m0 _ _ _ _ (by omega)] at k2
         have f2:(List.take i.toNat x).getD j.toNat t'.o7=List.getD x j.toNat t'.o7:=by
          simp only [List.getD_eq_getElem?_getD,List.getElem?_take]
          rw [if_pos (by omega)]
         rw [f2] at k2
         refine a1X k2 (by omega) ho ?_ (fun d hd=>hne d (.inl (by rw [e]; simp [hd])))
         refine hc.cells hc1 (fun e=>?_)
         rcases hrng with ⟨_,g,g'⟩|g
         ·left; omega
         ·exact absurd (by simp [e,g]:c1∈P2) hnd.1.2.1
      | .l7 i::p,hk,_=>simp [kp] at hk
     ·cases hz
    ·cases hz
  | .l7 i::q,hR,_,_,_,_=>cases o<;>simp [s4] at hR
 | _ =>
  intro q b off O1 x hR u0 y0 hg b' off' hn hb hbs hnd hbO hO1 u y z hc hz p hk ho
  match q,hR,hg,hn,hz,hk with
  | [],hR,hg,hn,hz,hk =>
   simp only [r9] at hz
   split at hz
   ·rename_i e; cases hz; exact ⟨a84 e hk,b2H e hk ho⟩
   ·cases hz
  | .idx i::q,hR,_,_,_,_=>simp [s4] at hR
  | .l7 i::q,hR,_,_,_,_=>simp [s4] at hR
end
end Go.Ex

namespace Go.Ex

def kc:Ty→List Step→List Step→Bool
 | .pair a _,.l7 0::q,.l7 0::p=>kc a q p
 | .pair _ _,.l7 0::_,.l7 (_+1)::_=>true
 | .pair _ _,.l7 (_+1)::_,.l7 0::_=>true
 | .pair _ b,.l7 (n+1)::q,.l7 (m+1)::p=>kc b (.l7 n::q) (.l7 m::p)
 | .arr _ t,.idx _::q,.idx _::p=>kc t q p
 | .d0 true t,.idx _::q,.idx _::p=>kc t q p
 | .d0 true _,.idx _::_,[]=>true
 | _,_,_=>false

section
variable {H H':Array Go.Obj} {S S':Nat→Prop}

theorem b9p:∀ {t:Ty} {q:List Step} {b off:Nat} {O1:List Nat} {x:t.den},s4 H S t q b off O1 x →
  ∀ {u0:Ty} {y0:u0.den},j6 t x q=some ⟨u0,y0⟩→∀ {b' off':Nat},w7 H t q b off=some (b',off') →
  off+t.size≤(s5 H b).length→b<H.size→O1.Nodup→b∉O1→(∀ c∈O1,c<H.size) →
  ∀ {u:Ty} {y:u.den} {z:Sigma Ty.den},T4 H H' b' off' u0.size→r9 t x q u y=some z →
  ∀ {p:List Step},kc t q p=true→w4 t x p→∀ {u1:Ty} {y1:u1.den},j6 t x p=some ⟨u1,y1⟩ →
  (∃ y2:u1.den,j6 z.1 z.2 p=some ⟨u1,y2⟩)∧∀ b1 o1,w7 H t p b off=some (b1,o1)→d8 H' b1 o1 u1.size=d8 H b1 o1 u1.size:=by
 intro t
 induction t with
 | pair a c iha ihc =>
  intro q b off O1 x hR u0 y0 hg b' off' hn hb hbs hnd hbO hO1 u y z hc hz p hk ho u1 y1 hg1
  match q,hR,hg,hn,hz,hk with
  | [],_,_,_,_,hk=>simp [kc] at hk
  | .l7 0::q,⟨P1,P2,e,h1,h2⟩,hg,hn,hz,hk =>
   subst e
   simp only [r9] at hz
   split at hz
   ·rename_i t' w hw
    cases hz
    simp only [List.nodup_append,List.mem_append,not_or] at hnd hbO
    simp only [Ty.size] at hb
    have hrng:=s4.range h1 hg hn
    match p,hk,ho,hg1 with
    | [],hk,_,_=>simp [kc] at hk
    | .l7 0::p,hk,ho,hg1 =>
     exact iha h1 hg hn (by omega) hbs hnd.1 hbO.1 (fun c hc=>hO1 c (by simp [hc])) hc hw (by simpa [kc] using hk) ho hg1
    | .l7 (m+1)::p,_,ho,hg1 =>
     refine ⟨⟨y1,hg1⟩,fun b1 o1 hn1=>?_⟩
     refine a3s h2 (by omega) ho ?_ ?_ hg1 hn1
     ·refine hc.cells hbs (fun e=>?_)
      rcases hrng with ⟨_,g,g'⟩|g
      ·right; omega
      ·exact absurd (by simp [e,g]:b∈P1) hbO.1
     ·intro d hd
      refine hc.rest d ?_ (hO1 d (by simp [hd]))
      rintro rfl
      rcases hrng with ⟨g,_⟩|g
      ·subst g; exact hbO.2 hd
      ·exact hnd.2.2 _ g _ hd rfl
    | .idx i::p,hk,_,_=>simp [kc] at hk
   ·cases hz
  | .l7 (n+1)::q,⟨P1,P2,e,h1,h2⟩,hg,hn,hz,hk =>
   subst e
   simp only [r9] at hz
   split at hz
   ·rename_i t' w hw
    cases hz
    simp only [List.nodup_append,List.mem_append,not_or] at hnd hbO
    simp only [Ty.size] at hb
    have hrng:=s4.range h2 hg hn
    match p,hk,ho,hg1 with
    | [],hk,_,_=>simp [kc] at hk
    | .l7 0::p,_,ho,hg1 =>
     refine ⟨⟨y1,hg1⟩,fun b1 o1 hn1=>?_⟩
     refine a3s h1 (by omega) ho ?_ ?_ hg1 hn1
     ·refine hc.cells hbs (fun e=>?_)
      rcases hrng with ⟨_,g,g'⟩|g
      ·left; omega
      ·exact absurd (by simp [e,g]:b∈P2) hbO.2
     ·intro d hd
      refine hc.rest d ?_ (hO1 d (by simp [hd]))
      rintro rfl
      rcases hrng with ⟨g,_⟩|g
      ·subst g; exact hbO.1 hd
      ·exact hnd.2.2 _ hd _ g rfl
    | .l7 (m+1)::p,hk,ho,hg1 =>
     exact ihc h2 hg hn (by omega) hbs hnd.2.1 hbO.2 (fun c hc=>hO1 c (by simp [hc])) hc hw (by simpa [kc] using hk) ho hg1
    | .idx i::p,hk,_,_=>simp [kc] at hk
   ·cases hz
  | .idx i::q,hR,_,_,_,_=>simp [s4] at hR
 | arr n t ih =>
  intro q b off O1 x hR u0 y0 hg b' off' hn hb hbs hnd hbO hO1 u y z hc hz p hk ho u1 y1 hg1
  match q,hR,hg,hn,hz,hk with
  | [],_,_,_,_,hk=>simp [kc] at hk
  | .idx i::q,⟨hl,hi,P1,P2,P3,e,h1,h2,h3⟩,hg,hn,hz,hk =>
   subst e
   simp only [r9] at hz
   split at hz
   ·rename_i t' w hw
    split at hz
    ·rename_i ht; subst ht; cases hz
     simp only [List.nodup_append,List.mem_append,not_or] at hnd hbO
     obtain ⟨b1,b2,b3,b4⟩:=C4 (sz:=t'.size) hi
     simp only [Ty.size] at hb
     have hrng:=s4.range h2 hg hn
     match p,hk,ho,hg1 with
     | [],hk,_,_=>simp [kc] at hk
     | .idx j::p,hk,ho,hg1 =>
      obtain ⟨hj,ho⟩:=ho
      obtain ⟨d1,d2,d3,d4⟩:=C4 (sz:=t'.size) hj
      simp only [j6] at hg1 ⊢
      simp only [w7]
      by_cases hij:i.toNat=j.toNat
      ·rw [← hij] at ho hg1 ⊢
       rw [X2,if_pos ⟨rfl,by rw [hl]; exact b1⟩]
       exact ih h2 hg hn (by omega) hbs hnd.2.1.1 hbO.2.1 (fun c hc=>hO1 c (by simp [hc])) hc hw (by simpa [kc] using hk) ho hg1
      ·rw [X2,if_neg (by simp [hij])]
       refine ⟨⟨y1,hg1⟩,fun bb oo hn1=>?_⟩
       have hne:∀ d,(d∈P1∨d∈P3)→H'[d]?=H[d]?:=by
        intro d hd
        refine hc.rest d ?_ (hO1 d (by rcases hd with h|h<;>simp [h]))
        rintro rfl
        rcases hrng with ⟨g,_⟩|g
        ·subst g; rcases hd with h|h
         ·exact hbO.1 h
         ·exact hbO.2.2 h
        ·rcases hd with h|h
         ·exact hnd.2.2 _ h _ (.inl g) rfl
         ·exact hnd.2.1.2.2 _ g _ h rfl
       rcases Nat.lt_or_gt_of_ne hij with hlt|hgt
       ·have hd:j.toNat - (i.toNat+1)<(List.drop (i.toNat+1) x).length:=by simp only [List.length_drop]; omega
        obtain ⟨Q1,Q2,Q3,e,k1,k2,k3⟩:=i7.split (d:=t'.o7) hd h3
        have e1:(i.toNat+1)*t'.size+(j.toNat - (i.toNat+1))*t'.size=j.toNat*t'.size:=by rw [← Nat.add_mul]; congr 1; omega
        have hm:(j.toNat - (i.toNat+1))*t'.size+t'.size≤(n - (i.toNat+1))*t'.size:=by omega
        rw [n5,m0 _ _ _ _ (by omega),Nat.add_assoc,e1] at k2
        have e2:(List.drop (i.toNat+1) x).getD (j.toNat - (i.toNat+1)) t'.o7=List.getD x j.toNat t'.o7:=by
         simp only [List.getD_eq_getElem?_getD,List.getElem?_drop]
         rw [show i.toNat+1+(j.toNat - (i.toNat+1))=j.toNat from by omega]
        rw [e2] at k2
        refine a3s k2 (by omega) ho ?_ (fun d hd=>hne d (.inr (by rw [e]; simp [hd]))) hg1 hn1
        refine hc.cells hbs (fun e=>?_)
        rcases hrng with ⟨_,g,g'⟩|g
        ·right; omega
        ·exact absurd (by simp [e,g]:b∈P2) hbO.2.1
       ·have hd:j.toNat<(List.take i.toNat x).length:=by simp only [List.length_take]; omega
        obtain ⟨Q1,Q2,Q3,e,k1,k2,k3⟩:=i7.split (d:=t'.o7) hd h1
        have hm:j.toNat*t'.size+t'.size≤i.toNat*t'.size:=by
         rw [← Nat.succ_mul]; exact Nat.mul_le_mul_right _ (by omega)
        rw [n5,m0 _ _ _ _ (by omega)] at k2
        have e2:(List.take i.toNat x).getD j.toNat t'.o7=List.getD x j.toNat t'.o7:=by
         simp only [List.getD_eq_getElem?_getD,List.getElem?_take]
         rw [if_pos (by omega)]
        rw [e2] at k2
        refine a3s k2 (by omega) ho ?_ (fun d hd=>hne d (.inl (by rw [e]; simp [hd]))) hg1 hn1
        refine hc.cells hbs (fun e=>?_)
        rcases hrng with ⟨_,g,g'⟩|g
        ·left; omega
        ·exact absurd (by simp [e,g]:b∈P2) hbO.2.1
     | .l7 i::p,hk,_,_=>simp [kc] at hk
    ·cases hz
   ·cases hz
  | .l7 i::q,hR,_,_,_,_=>simp [s4] at hR
 | d0 o t ih =>
  intro q b off O1 x hR u0 y0 hg b' off' hn hb hbs hnd hbO hO1 u y z hc hz p hk ho u1 y1 hg1
  match q,hR,hg,hn,hz,hk with
  | [],_,_,_,_,hk=>cases o<;>simp [kc] at hk
  | .idx i::q,hR,hg,hn,hz,hk =>
   cases o with
   | false=>simp [s4] at hR
   | true =>
    obtain ⟨hi,c1,o1,cap,P1,P2,P3,e,e1,e2,e3,e4,e5,e6,e7⟩:=hR
    subst e
    simp only [w7,e1] at hn
    simp only [r9] at hz
    split at hz
    ·rename_i t' w hw
     split at hz
     ·rename_i ht; subst ht; cases hz
      simp only [List.nodup_append,List.mem_append,List.nodup_cons,List.mem_cons,not_or] at hnd hbO
      obtain ⟨b1,b2,b3,b4⟩:=C4 (sz:=t'.size) hi
      have hcap:List.length x*t'.size≤cap*t'.size:=Nat.mul_le_mul_right _ e2
      have hfb:=e4.free.s5
      have hc1:c1<H.size:=hO1 c1 (by simp)
      have hrng:=s4.range e6 hg hn
      have hbb:b≠b':=by
       rintro rfl
       rcases hrng with ⟨g,_⟩|g
       ·exact hbO.1 g
       ·exact hbO.2.2.1 g
      match p,hk,ho,hg1 with
      | [],_,_,hg1 =>
       simp only [j6,Option.some.injEq] at hg1
       cases hg1
       refine ⟨⟨_,rfl⟩,fun bb oo hn1=>?_⟩
       simp only [w7,Option.some.injEq] at hn1
       cases hn1
       exact l4 (hc.rest b hbb hbs) _ _
      | .idx j::p,hk,ho,hg1 =>
       obtain ⟨hj,ho⟩:=ho
       obtain ⟨d1,d2,d3,d4⟩:=C4 (sz:=t'.size) hj
       simp only [j6] at hg1 ⊢
       simp only [w7,e1]
       by_cases hij:i.toNat=j.toNat
       ·rw [← hij] at ho hg1 ⊢
        rw [X2,if_pos ⟨rfl,b1⟩]
        exact ih e6 hg hn (by omega) hc1 hnd.2.2.1.1 hnd.1.2.1 (fun c hc=>hO1 c (by simp [hc])) hc hw (by simpa [kc] using hk) ho hg1
       ·rw [X2,if_neg (by simp [hij])]
        refine ⟨⟨y1,hg1⟩,fun bb oo hn1=>?_⟩
        have hne:∀ d,(d∈P1∨d∈P3)→H'[d]?=H[d]?:=by
         intro d hd
         refine hc.rest d ?_ (hO1 d (by rcases hd with h|h<;>simp [h]))
         rintro rfl
         rcases hrng with ⟨g,_⟩|g
         ·subst g; rcases hd with h|h
          ·exact hnd.1.1 h
          ·exact hnd.1.2.2 h
         ·rcases hd with h|h
          ·exact hnd.2.2.2 _ h _ (.inl g) rfl
          ·exact hnd.2.2.1.2.2 _ g _ h rfl
        rcases Nat.lt_or_gt_of_ne hij with hlt|hgt
        ·have hd:j.toNat - (i.toNat+1)<(List.drop (i.toNat+1) x).length:=by simp only [List.length_drop]; omega
         obtain ⟨Q1,Q2,Q3,e,k1,k2,k3⟩:=i7.split (d:=t'.o7) hd e7
         have f1:(i.toNat+1)*t'.size+(j.toNat - (i.toNat+1))*t'.size=j.toNat*t'.size:=by rw [← Nat.add_mul]; congr 1; omega
         have hm:(j.toNat - (i.toNat+1))*t'.size+t'.size≤(List.length x - (i.toNat+1))*t'.size:=by omega
         rw [n5,m0 _ _ _ _ (by omega),Nat.add_assoc,f1] at k2
         have f2:(List.drop (i.toNat+1) x).getD (j.toNat - (i.toNat+1)) t'.o7=List.getD x j.toNat t'.o7:=by
          simp only [List.getD_eq_getElem?_getD,List.getElem?_drop]
          rw [show i.toNat+1+(j.toNat - (i.toNat+1))=j.toNat from by omega]
         rw [f2] at k2
         refine a3s k2 (by omega) ho ?_ (fun d hd=>hne d (.inr (by rw [e]; simp [hd]))) hg1 hn1
         refine hc.cells hc1 (fun e=>?_)
         rcases hrng with ⟨_,g,g'⟩|g
         ·right; omega
         ·exact absurd (by simp [e,g]:c1∈P2) hnd.1.2.1
        ·have hd:j.toNat<(List.take i.toNat x).length:=by simp only [List.length_take]; omega
         obtain ⟨Q1,Q2,Q3,e,k1,k2,k3⟩:=i7.split (d:=t'.o7) hd e5
         have hm:j.toNat*t'.size+t'.size≤i.toNat*t'.size:=by
          rw [← Nat.succ_mul]; exact Nat.mul_le_mul_right _ (by omega)
         rw [n5,m0 _ _ _ _ (by omega)] at k2
         have f2:(List.take i.toNat x).getD j.toNat t'.o7=List.getD x j.toNat t'.o7:=by
          simp only [List.getD_eq_getElem?_getD,List.getElem?_take]
          rw [if_pos (by omega)]
         rw [f2] at k2
         refine a3s k2 (by omega) ho ?_ (fun d hd=>hne d (.inl (by rw [e]; simp [hd]))) hg1 hn1
         refine hc.cells hc1 (fun e=>?_)
         rcases hrng with ⟨_,g,g'⟩|g
         ·left; omega
         ·exact absurd (by simp [e,g]:c1∈P2) hnd.1.2.1
      | .l7 i::p,hk,_,_=>simp [kc] at hk
     ·cases hz
    ·cases hz
  | .l7 i::q,hR,_,_,_,_=>cases o<;>simp [s4] at hR
 | _ =>
  intro q b off O1 x hR u0 y0 hg b' off' hn hb hbs hnd hbO hO1 u y z hc hz p hk ho u1 y1 hg1
  cases q<;>simp [kc] at hk
end
end Go.Ex
