import Derived.Orders
import Derived.Below
import Derived.KernelRfl
import Derived.Laws.Cells
set_option linter.unusedVariables false
set_option linter.unusedSimpArgs false
set_option linter.unusedSectionVars false
abbrev yY:=List UInt8
namespace Go.Ex
inductive Ty where
 | int (k:IntKind)|bool|str|unit
 | fn (f:Nat)
 | map (o:Bool) (k v:Ty)
 | box (o:Bool) (g:Option Nat) (t:Ty)
 | pair (a b:Ty)
 | arr (n:Nat) (t:Ty)
 | d8 (o:Bool) (t:Ty)
 | hole (t:Ty)
 | C6 (t:Ty)
 deriving DecidableEq,Inhabited
@[reducible] def Ty.den:Ty->Type
 | .int _=>Int
 | .bool=>Bool
 | .str=>yY
 | .unit=>Unit
 | .fn _=>Bool
 | .map _ k v=>Option (List (k.den×v.den))
 | .box _ _ t=>Option t.den
 | .pair a b=>a.den×b.den
 | .arr _ t=>List t.den
 | .d8 _ t=>List t.den
 | .hole t=>List t.den
 | .C6 t=>Nat×(List t.den×List t.den)
def Ty.s8:(t:Ty)->t.den
 | .int _=>(0:Int)
 | .bool=>false
 | .str=>([]:yY)
 | .unit=>()
 | .fn _=>false
 | .map _ _ _=>none
 | .box _ _ _=>none
 | .pair a b=>(a.s8,b.s8)
 | .arr n t=>List.replicate n t.s8
 | .d8 _ _=>[]
 | .hole _=>[]
 | .C6 _=>(1,([],[]))
def Ty.size:Ty->Nat
 | .int _|.bool|.str|.fn _|.d8 _ _|.map _ _ _|.box _ _ _|.hole _|.C6 _=>1
 | .unit=>0
 | .pair a b=>a.size+b.size
 | .arr n t=>n*t.size
def Ty.shared:Ty->Bool
 | .int _|.bool|.str|.unit|.fn _|.hole _=>true
 | .pair a b=>a.shared && b.shared
 | .arr _ t=>t.shared
 | .d8 o t=>!o && t.shared
 | .map o _ _=>!o
 | .box o _ t=>!o && t.shared
 | .C6 _=>false
def Ty.W0:Ty->Bool
 | .pair a b=>a.W0 && b.W0
 | .arr _ t=>t.W0
 | .d8 _ t=>t.W0
 | .box _ _ t=>t.W0
 | .map _ k v=>k.W0 && v.W0
 | .hole _=>false
 | .C6 _=>false
 | _=>true
def Ty.agg:Ty->Bool
 | .pair _ _|.unit|.arr _ _=>true
 | _=>false
def Ty.sh:Ty->Ty
 | .pair a b=>.pair a.sh b.sh
 | .arr n t=>.arr n t.sh
 | .d8 _ t=>.d8 false t.sh
 | .hole t=>.d8 false t.sh
 | .C6 t=>.C6 t.sh
 | .box _ g t=>.box false g t.sh
 | .map _ k v=>.map false k v
 | t=>t
def Ty.shH:Ty->Ty
 | .pair a b=>.pair a.shH b.shH
 | .hole t=>.hole t
 | .C6 t=>.C6 t.sh
 | .arr n t=>.arr n t.sh
 | .d8 _ t=>.d8 false t.sh
 | .box _ g t=>.box false g t.sh
 | .map _ k v=>.map false k v
 | t=>t
def Ty.okH:Ty->Bool
 | .pair a b=>a.okH && b.okH
 | .hole _=>true
 | .C6 _=>false
 | .arr _ t=>t.W0
 | .d8 _ t=>t.W0
 | .box _ _ t=>t.W0
 | .map _ k v=>k.W0 && v.W0
 | _=>true
def Dp:Value->Bool
 | .slice _ _ _=>true
 | _=>false
def u7 (k:IntKind) (n:Int):Prop:=k.min<=n/\n<=k.max
def x8 (H:Array Go.Obj) (b:Nat):List Value :=
 match H[b]? with
 | some (.cells arr _ _)=>arr.toList
 | _=>[]
def e8 (H:Array Go.Obj) (b off n:Nat):List Value:=((x8 H b).drop off).take n
def zT (o:Bool) (cap:Nat):Prop:=cap<=maxLen/\(o=true->1<=cap)
def j6 {α:Type} (R:List Nat->List Value->α->Prop) (sz:Nat):List Nat->List Value->List α->Prop
 | O,cs,[]=>O=[]/\cs=[]
 | O,cs,x::l=>∃ O1 O2,O=O1++O2/\R O1 (cs.take sz) x/\j6 R sz O2 (cs.drop sz) l
def Lie (H:Array Go.Obj) (b:Nat) (arr:Array Value) (T:TypeId) (fz:Nat×Nat):Prop:=H[b]?=some (.cells arr T fz)/\(fz=(0,0)\/arr.size<=fz.1)
def P5 (H:Array Go.Obj) (b n:Nat):Prop:=∃ arr T,(∃ fz,Lie H b arr T fz)/\n<=arr.size
def Ty.isB:Ty->Bool
 | .int .u8=>true
 | _=>false
def V1 (q:Bool) (H:Array Go.Obj) (b n:Nat):Prop:=∃ arr T,(∃ fz,H[b]?=some (.cells arr T fz)/\(fz=(0,0)\/(q=true/\arr.size<=fz.1)))/\n<=arr.size
theorem V1.free {q:Bool} {H:Array Go.Obj} {b n:Nat}:V1 q H b n->P5 H b n:=λ⟨arr,T,⟨fz,e,ef⟩,hn⟩=>⟨arr,T,⟨fz,e,ef.imp id (·.2)⟩,hn⟩
def fnV (f:Nat) (b:Bool):Value:=match b with|true=>.func (.func f) #[] #[]|false=>if f=4000000 then .nilIface else .nilFunc
def wY (g:Option Nat) (a:Addr):Value:=match g with|none=>.pointer (some a)|some f=>.func (.func f) #[] #[.pointer (some a)]
def Dh (g:Option Nat):Value:=match g with|none=>.pointer none|some _=>.nilFunc
theorem Xe {g:Option Nat} {a b:Addr} (h:wY g a=wY g b):a=b:=by cases g<;>simpa [wY] using h
theorem Oc {g:Option Nat} {a:Addr} (h:wY g a=Dh g):False:=by cases g<;>cases h
def s5 (t:Ty) (cs:List Value):Value:=if t.agg then .agg cs.toArray else cs.headD undef
def vj {α β:Type} (R:List Value->α->Prop) (R':List Value->β->Prop) (t u:Ty):List MapEntry->List (α×β)->Prop
 | [],l=>l=[]
 | e::es,l=>∃ x y l' cs ds,l=(x,y)::l'/\e.key=s5 t cs/\R cs x/\e.val=s5 u ds/\R' ds y/\vj R R' t u es l'
def i6 (H:Array Go.Obj) (S:Nat->Prop):(t:Ty)->List Nat->List Value->t.den->Prop
 | .int k,O,cs,n=>O=[]/\cs=[.int k n]/\u7 k n
 | .bool,O,cs,b=>O=[]/\cs=[.bool b]
 | .str,O,cs,s=>O=[]/\cs=[.string ⟨s.toArray⟩]/\s.length<=maxLen
 | .unit,O,cs,_=>O=[]/\cs=[]
 | .fn f,O,cs,b=>O=[]/\cs=[fnV f b]
 | .map o k v,O,cs,x=>(x=none/\O=[]/\cs=[.map none]) \/
  ∃ l b es ck,x=some l/\cs=[.map (some b)]/\H[b]?=some (.map es ck)/\vj (i6 H S k []) (i6 H S v []) k v es.toList l /\
   match o with
   | true=>O=[b]
   | false=>O=[]/\S b
 | .box o g t,O,cs,x=>(x=none/\O=[]/\cs=[Dh g]) \/
  ∃ y b off O',x=some y/\cs=[wY g ⟨b,off,none⟩]/\off+t.size<=(x8 H b).length/\i6 H S t O' (e8 H b off t.size) y /\
   match o with
   | true=>O=b::O'/\P5 H b (off+t.size)
   | false=>O=[]/\O'=[]/\S b
 | .pair a b,O,cs,x=>∃ O1 O2,O=O1++O2/\i6 H S a O1 (cs.take a.size) x.1/\i6 H S b O2 (cs.drop a.size) x.2
 | .arr n t,O,cs,l=>List.length l=n/\j6 (i6 H S t) t.size O cs l
 | .d8 o t,O,cs,l =>
  (O=[]/\(∃ a c,cs=[.slice a 0 c]/\(o=true->c=0))/\l=[]) \/
  ∃ b off cap O',cs=[.slice (some ⟨b,off,none⟩) (List.length l) cap]/\List.length l<=cap/\zT o cap /\
   off+List.length l*t.size<=(x8 H b).length/\j6 (i6 H S t) t.size O' (e8 H b off (List.length l*t.size)) l /\
   match o with
   | true=>O=b::O'/\V1 t.isB H b (off+cap*t.size)
   | false=>O=[]/\O'=[]/\S b
 | .hole _,O,cs,_=>O=[]/\∃ v,cs=[v]/\Dp v=true
 | .C6 t,O,cs,(0,l,_) =>
  (O=[]/\(∃ a c,cs=[.slice a 0 c]/\(false=true->c=0))/\l=[]) \/
  ∃ b off cap O',cs=[.slice (some ⟨b,off,none⟩) (List.length l) cap]/\List.length l<=cap/\zT false cap /\
   off+List.length l*t.size<=(x8 H b).length/\j6 (i6 H S t) t.size O' (e8 H b off (List.length l*t.size)) l /\
   (O=[]/\O'=[]/\S b)
 | .C6 t,O,cs,(1,l,_) =>
  (O=[]/\(∃ a c,cs=[.slice a 0 c]/\(true=true->c=0))/\l=[]) \/
  ∃ b off cap O',cs=[.slice (some ⟨b,off,none⟩) (List.length l) cap]/\List.length l<=cap/\zT true cap /\
   off+List.length l*t.size<=(x8 H b).length/\j6 (i6 H S t) t.size O' (e8 H b off (List.length l*t.size)) l /\
   (O=b::O'/\V1 t.isB H b (off+cap*t.size))
 | .C6 t,O,cs,(n+2,l,m) =>
  ∃ b off O',cs=[.slice (some ⟨b,off,none⟩) (List.length l) (List.length l+List.length m)]/\zT true (List.length l+List.length m) /\
   off+List.length (l++m)*t.size<=(x8 H b).length/\j6 (i6 H S t) t.size O' (e8 H b off (List.length (l++m)*t.size)) (l++m) /\
   match n with
   | 0=>O=b::O'/\V1 t.isB H b (off+(List.length l+List.length m)*t.size)
   | _=>O=[]/\O'=[]/\S b
section
variable {H H':Array Go.Obj} {S S':Nat->Prop}
theorem i6.m0 {t:Ty} {O:List Nat} {cs:List Value} {l m:List t.den}:i6 H S (.C6 t) O cs (0,l,m)↔i6 H S (.d8 false t) O cs l:=Iff.rfl
theorem i6.m1 {t:Ty} {O:List Nat} {cs:List Value} {l m:List t.den}:i6 H S (.C6 t) O cs (1,l,m)↔i6 H S (.d8 true t) O cs l:=Iff.rfl
theorem Q4 {b:Nat} (h:H'[b]?=H[b]?):x8 H' b=x8 H b:=by simp only [x8,h]
theorem l6 {b:Nat} (h:H'[b]?=H[b]?) (off n:Nat):e8 H' b off n=e8 H b off n:=by simp only [e8,Q4 h]
theorem j6.mono {α:Type} {R R':List Nat->List Value->α->Prop} {sz:Nat} {L:List Nat}:∀ {l:List α} {O:List Nat} {cs:List Value},
  (∀ b∈O,b∈L)->(∀ O cs x,(∀ b∈O,b∈L)->R O cs x->R' O cs x)->j6 R sz O cs l->j6 R' sz O cs l
 | [],_,_,_,_,h=>h
 | _::_,_,_,hL,hr,⟨O1,O2,e,h1,h2⟩=>by
  subst e;exact ⟨O1,O2,rfl,hr _ _ _ (λ b hb=>hL b (by simp [hb])) h1,j6.mono (λ b hb=>hL b (by simp [hb])) hr h2⟩
theorem vj.mono {α β:Type} {R R1:List Value->α->Prop} {R' R1':List Value->β->Prop} {t u:Ty} (h:∀ cs x,R cs x->R1 cs x) (h':∀ cs x,R' cs x->R1' cs x):∀ {es:List MapEntry} {l:List (α×β)},vj R R' t u es l->vj R1 R1' t u es l
 | [],_,e=>e
 | _::_,_,⟨x,y,l',cs,ds,e,e1,e2,e3,e4,e5⟩=>⟨x,y,l',cs,ds,e,e1,h _ _ e2,e3,h' _ _ e4,vj.mono h h' e5⟩
theorem i6.Ky {o:Bool} {t:Ty} (ih:∀ {O:List Nat} {cs:List Value} {x:t.den},i6 H S t O cs x->(∀ b,b∈O\/S b->H'[b]?=H[b]?)->(∀ b,S b->S' b)->i6 H' S' t O cs x)
  {O:List Nat} {cs:List Value} {x:List t.den} (h:i6 H S (.d8 o t) O cs x) (hH:∀ b,b∈O\/S b->H'[b]?=H[b]?) (hS:∀ b,S b->S' b):i6 H' S' (.d8 o t) O cs x:=by
 rcases h with h|⟨b,off,cap,O',h1,h2,h3,h4,h5,h6⟩
 ·exact Or.inl h
 ·refine Or.inr ⟨b,off,cap,O',h1,h2,h3,?_⟩
  have hb:H'[b]?=H[b]?:=by
   apply hH;cases o with
   | true=>left; rw [h6.1]; simp
   | false=>right; exact h6.2.2
  have bU:∀ c∈O',c∈O:=by
   intro c hc;cases o with
   | true=>rw [h6.1]; simp [hc]
   | false=>rw [h6.2.1] at hc; cases hc
  rw [Q4 hb,l6 hb];refine ⟨h4,j6.mono (L:=O) bU (λ O1 c y hL hr=>ih hr (λ b hb=>hH b (hb.imp (hL b) id)) hS) h5,?_⟩;cases o with
  | true=>obtain ⟨e,arr,T,e1,e2⟩:=h6; obtain ⟨fz,e1,e3⟩:=e1; exact ⟨e,arr,T,⟨fz,hb.trans e1,e3⟩,e2⟩
  | false=>exact ⟨h6.1,h6.2.1,hS b h6.2.2⟩
theorem i6.w6:∀ {t:Ty} {O:List Nat} {cs:List Value} {x:t.den},i6 H S t O cs x ->
  (∀ b,b∈O\/S b->H'[b]?=H[b]?)->(∀ b,S b->S' b)->i6 H' S' t O cs x:=by
 intro t
 induction t with
 | int k=>intro O cs x h _ _; exact h
 | bool=>intro O cs x h _ _; exact h
 | str=>intro O cs x h _ _; exact h
 | unit=>intro O cs x h _ _; exact h
 | fn f=>intro O cs x h _ _; exact h
 | hole t=>intro O cs x h _ _; exact h
 | map o k v ihk ihv =>
  rintro O cs x (h|⟨l,b,es,ck,h0,h2,h3,h4,h5⟩) hH hS
  ·exact .inl h
  have gD:∀ c,c∈([]:List Nat)\/S c->H'[c]?=H[c]?:=λ c hc=>hH c (.inr (by rcases hc with hc|hc; cases hc; exact hc));have hb:H'[b]?=H[b]?:=by
   apply hH;cases o with
   | true=>left; rw [h5]; simp
   | false=>right; exact h5.2
  refine .inr ⟨l,b,es,ck,h0,h2,hb.trans h3,h4.mono (λ _ _ h=>ihk h gD hS) (λ _ _ h=>ihv h gD hS),?_⟩;cases o with
  | true=>exact h5
  | false=>exact ⟨h5.1,hS b h5.2⟩
 | box o g t ih =>
  rintro O cs x (h|⟨y,b,off,O',h0,h1,h2,h3,h4⟩) hH hS
  ·exact .inl h
  have hb:H'[b]?=H[b]?:=by
   apply hH;cases o with
   | true=>left; rw [h4.1]; simp
   | false=>right; exact h4.2.2
  have bU:∀ c∈O',c∈O:=by
   intro c hc;cases o with
   | true=>rw [h4.1]; simp [hc]
   | false=>rw [h4.2.1] at hc; cases hc
  refine .inr ⟨y,b,off,O',h0,h1,by rw [Q4 hb]; exact h2,by rw [l6 hb]; exact ih h3 (λ b hb=>hH b (hb.imp (bU b) id)) hS,?_⟩;cases o with
  | true=>obtain ⟨e,arr,T,e1,e2⟩:=h4; obtain ⟨fz,e1,e3⟩:=e1; exact ⟨e,arr,T,⟨fz,hb.trans e1,e3⟩,e2⟩
  | false=>exact ⟨h4.1,h4.2.1,hS b h4.2.2⟩
 | pair a b iha ihb =>
  rintro O cs x ⟨O1,O2,rfl,h1,h2⟩ hH hS;exact ⟨O1,O2,rfl,iha h1 (λ b hb=>hH b (hb.imp (λ h=>by simp [h]) id)) hS,ihb h2 (λ b hb=>hH b (hb.imp (λ h=>by simp [h]) id)) hS⟩
 | arr n t ih =>
  rintro O cs x ⟨h1,h2⟩ hH hS;refine ⟨h1,j6.mono (L:=O) (λ _ h=>h) (λ O1 c y hL hr=>?_) h2⟩;exact ih hr (λ b hb=>hH b (hb.imp (hL b) id)) hS
 | d8 o t ih=>intro O cs x h hH hS; exact i6.Ky ih h hH hS
 | C6 t ih =>
  rintro O cs ⟨n,l,m⟩ h hH hS
  match n,h with
  | 0,h=>exact i6.Ky (o:=false) ih h hH hS
  | 1,h=>exact i6.Ky (o:=true) ih h hH hS
  | n+2,⟨b,off,O',h1,h2,h3,h4,h5⟩ =>
   have hb:H'[b]?=H[b]?:=by
    apply hH;cases n with
    | zero=>left; rw [h5.1]; simp
    | succ n=>right; exact h5.2.2
   have bU:∀ c∈O',c∈O:=by
    intro c hc;cases n with
    | zero=>rw [h5.1]; simp [hc]
    | succ n=>rw [h5.2.1] at hc; cases hc
   refine ⟨b,off,O',h1,h2,by rw [Q4 hb]; exact h3,by rw [l6 hb]; exact j6.mono (L:=O) bU (λ O1 c y hL hr=>ih hr (λ b hb=>hH b (hb.imp (hL b) id)) hS) h4,?_⟩;cases n with
   | zero=>obtain ⟨e,arr,T,e1,e2⟩:=h5; obtain ⟨fz,e1,e3⟩:=e1; exact ⟨e,arr,T,⟨fz,hb.trans e1,e3⟩,e2⟩
   | succ n=>exact ⟨h5.1,h5.2.1,hS b h5.2.2⟩
theorem j6.length {α:Type} {R:List Nat->List Value->α->Prop} {sz:Nat} (hR:∀ O cs x,R O cs x->cs.length=sz):∀ {l:List α} {O:List Nat} {cs:List Value},
  j6 R sz O cs l->cs.length=l.length*sz
 | [],_,_,⟨_,h⟩=>by simp [h]
 | x::l,_,cs,⟨O1,O2,_,h1,h2⟩=>by
  have e1:=hR _ _ _ h1;have e2:=j6.length hR h2;simp only [List.length_take,List.length_drop,List.length_cons,Nat.succ_mul] at *
  omega
theorem i6.length:∀ {t:Ty} {O:List Nat} {cs:List Value} {x:t.den},i6 H S t O cs x->cs.length=t.size:=by
 intro t
 induction t with
 | int k=>rintro O cs x ⟨_,rfl,_⟩; rfl
 | bool=>rintro O cs x ⟨_,rfl⟩; rfl
 | str=>rintro O cs x ⟨_,rfl,_⟩; rfl
 | unit=>rintro O cs x ⟨_,rfl⟩; rfl
 | fn f=>rintro O cs x ⟨_,rfl⟩; rfl
 | hole t=>rintro O cs x ⟨_,v,rfl,_⟩; rfl
 | map o k v=>rintro O cs x (⟨_,_,rfl⟩|⟨l,b,es,ck,_,rfl,_⟩)<;>rfl
 | box o g t=>rintro O cs x (⟨_,_,rfl⟩|⟨y,b,off,O',_,rfl,_⟩)<;>rfl
 | pair a b iha ihb =>
  rintro O cs x ⟨O1,O2,rfl,h1,h2⟩;have e1:=iha h1;have e2:=ihb h2;simp only [List.length_take,List.length_drop,Ty.size] at *
  omega
 | arr n t ih =>
  rintro O cs x ⟨h1,h2⟩;have:=j6.length (λ _ _ _ h=>ih h) h2;simp only [Ty.size];rw [this,h1]
 | d8 o t ih =>
  rintro O cs x h;rcases h with ⟨_,⟨_,_,rfl,_⟩,_⟩|⟨b,off,cap,O',rfl,_⟩<;>rfl
 | C6 t ih =>
  rintro O cs ⟨n,l,m⟩ h
  match n,h with
  | 0,h=>rcases h with ⟨_,⟨_,_,rfl,_⟩,_⟩|⟨b,off,cap,O',rfl,_⟩<;>rfl
  | 1,h=>rcases h with ⟨_,⟨_,_,rfl,_⟩,_⟩|⟨b,off,cap,O',rfl,_⟩<;>rfl
  | n+2,⟨b,off,O',h1,_⟩=>rw [h1]; rfl
theorem j6.O7 {α:Type} {R:List Nat->List Value->α->Prop} {sz:Nat} (hR:∀ O cs x,R O cs x->O=[]):∀ {l:List α} {O:List Nat} {cs:List Value},j6 R sz O cs l->O=[]
 | [],_,_,⟨h,_⟩=>h
 | _::_,_,_,⟨O1,O2,e,h1,h2⟩=>by rw [e,hR _ _ _ h1,j6.O7 hR h2]; rfl
theorem i6.O7:∀ {t:Ty} {O:List Nat} {cs:List Value} {x:t.den},t.shared=true->i6 H S t O cs x->O=[]:=by
 intro t
 induction t with
 | int k=>intro O cs x _ h; exact h.1
 | bool=>intro O cs x _ h; exact h.1
 | str=>intro O cs x _ h; exact h.1
 | unit=>intro O cs x _ h; exact h.1
 | fn f=>intro O cs x _ h; exact h.1
 | hole t=>intro O cs x _ h; exact h.1
 | map o k v =>
  rintro O cs x hs (h|⟨l,b,es,ck,_,_,_,_,h6⟩)
  ·exact h.2.1
  simp only [Ty.shared,Bool.not_eq_true'] at hs;rw [hs] at h6; exact h6.1
 | box o g t =>
  rintro O cs x hs (h|⟨y,b,off,O',_,_,_,_,h6⟩)
  ·exact h.2.1
  simp only [Ty.shared,Bool.and_eq_true,Bool.not_eq_true'] at hs;rw [hs.1] at h6; exact h6.1
 | pair a b iha ihb =>
  rintro O cs x hs ⟨O1,O2,rfl,h1,h2⟩;simp only [Ty.shared,Bool.and_eq_true] at hs;rw [iha hs.1 h1,ihb hs.2 h2]; rfl
 | arr n t ih =>
  rintro O cs x hs ⟨h1,h2⟩;exact j6.O7 (λ _ _ _ h=>ih hs h) h2
 | d8 o t ih =>
  rintro O cs x hs h;simp only [Ty.shared,Bool.and_eq_true,Bool.not_eq_true'] at hs;rcases h with h|⟨b,off,cap,O',_,_,_,_,_,h6⟩
  ·exact h.1
  ·rw [hs.1] at h6; exact h6.1
 | C6 t ih=>intro O cs x hs; cases hs
theorem j6.xx {α:Type} {R:List Nat->List Value->α->Prop} {sz:Nat} {p:Nat->Prop} (hR:∀ O cs x,R O cs x->∀ b∈O,p b):∀ {l:List α} {O:List Nat} {cs:List Value},j6 R sz O cs l->∀ b∈O,p b
 | [],_,_,⟨h,_⟩=>by rw [h]; simp
 | _::_,_,_,⟨O1,O2,e,h1,h2⟩=>by
  subst e; intro b hb;rcases List.mem_append.1 hb with h|h
  ·exact hR _ _ _ h1 b h
  ·exact j6.xx hR h2 b h
theorem i6.JB {o:Bool} {t:Ty} (ih:∀ {O:List Nat} {cs:List Value} {x:t.den},i6 H S t O cs x->∀ b∈O,b<H.size) {O:List Nat} {cs:List Value} {x:List t.den} (h:i6 H S (.d8 o t) O cs x):∀ b∈O,b<H.size:=by
 rcases h with h|⟨b,off,cap,O',_,_,_,_,h5,h6⟩
 ·rw [h.1]; simp
 ·cases o with
  | true =>
   intro c hc;rw [h6.1] at hc;rcases List.mem_cons.1 hc with rfl|hc
   ·obtain ⟨_,arr,T,⟨fz,e,_⟩,_⟩:=h6; exact (Array.getElem?_eq_some_iff.1 e).1
   ·exact j6.xx (λ _ _ _ h=>ih h) h5 c hc
  | false=>rw [h6.1]; simp
theorem i6.xx:∀ {t:Ty} {O:List Nat} {cs:List Value} {x:t.den},i6 H S t O cs x->∀ b∈O,b<H.size:=by
 intro t
 induction t with
 | int k=>intro O cs x h; rw [h.1]; simp
 | bool=>intro O cs x h; rw [h.1]; simp
 | str=>intro O cs x h; rw [h.1]; simp
 | unit=>intro O cs x h; rw [h.1]; simp
 | fn f=>intro O cs x h; rw [h.1]; simp
 | hole t=>intro O cs x h; rw [h.1]; simp
 | map o k v =>
  rintro O cs x (⟨_,rfl,_⟩|⟨l,b,es,ck,_,_,h3,_,h6⟩) c hc
  ·cases hc
  cases o with
  | true =>
   rw [h6] at hc;obtain rfl:c=b:=by simpa using hc
   exact (Array.getElem?_eq_some_iff.1 h3).1
  | false=>rw [h6.1] at hc; cases hc
 | box o g t ih =>
  rintro O cs x (⟨_,rfl,_⟩|⟨y,b,off,O',_,_,_,h3,h6⟩)
  ·simp
  cases o with
  | true =>
   intro c hc;rw [h6.1] at hc;rcases List.mem_cons.1 hc with rfl|hc
   ·obtain ⟨_,arr,T,⟨fz,e,_⟩,_⟩:=h6; exact (Array.getElem?_eq_some_iff.1 e).1
   ·exact ih h3 c hc
  | false=>rw [h6.1]; simp
 | pair a b iha ihb =>
  rintro O cs x ⟨O1,O2,rfl,h1,h2⟩ b hb;rcases List.mem_append.1 hb with h|h
  ·exact iha h1 b h
  ·exact ihb h2 b h
 | arr n t ih =>
  rintro O cs x ⟨h1,h2⟩;exact j6.xx (λ _ _ _ h=>ih h) h2
 | d8 o t ih=>intro O cs x h; exact i6.JB ih h
 | C6 t ih =>
  rintro O cs ⟨n,l,m⟩ h
  match n,h with
  | 0,h=>exact i6.JB (o:=false) ih h
  | 1,h=>exact i6.JB (o:=true) ih h
  | n+2,⟨b,off,O',_,_,_,h5,h6⟩ =>
   cases n with
   | zero =>
    intro c hc;rw [h6.1] at hc;rcases List.mem_cons.1 hc with rfl|hc
    ·obtain ⟨_,arr,T,⟨fz,e,_⟩,_⟩:=h6; exact (Array.getElem?_eq_some_iff.1 e).1
    ·exact j6.xx (λ _ _ _ h=>ih h) h5 c hc
   | succ n=>rw [h6.1]; simp
theorem j6.split {α:Type} {R:List Nat->List Value->α->Prop} {sz:Nat} {d:α}:∀ {l:List α} {O:List Nat} {cs:List Value} {i:Nat},i<l.length->j6 R sz O cs l ->
  ∃ O1 O2 O3,O=O1++(O2++O3)/\j6 R sz O1 (cs.take (i*sz)) (l.take i)/\R O2 ((cs.drop (i*sz)).take sz) (l.getD i d)/\j6 R sz O3 (cs.drop ((i+1)*sz)) (l.drop (i+1))
 | [],_,_,_,hi,_=>by simp at hi
 | x::l,_,cs,0,_,⟨O1,O2,e,h1,h2⟩=>⟨[],O1,O2,by simpa using e,by simp [j6],by simpa using h1,by simpa using h2⟩
 | x::l,_,cs,i+1,hi,⟨O1,O2,e,h1,h2⟩=>by
  obtain ⟨P1,P2,P3,e',g1,g2,g3⟩:=j6.split (d:=d) (i:=i) (by simpa using hi) h2;refine ⟨O1++P1,P2,P3,by rw [e,e']; simp,?_,?_,?_⟩
  ·refine ⟨O1,P1,rfl,?_,?_⟩
   ·rw [List.take_take,Nat.min_eq_left (by rw [Nat.succ_mul]; omega)]; exact h1
   ·rw [List.drop_take,show (i+1)*sz - sz=i*sz from by rw [Nat.succ_mul]; omega]; exact g1
  ·rw [List.drop_drop,show sz+i*sz=(i+1)*sz from by rw [Nat.succ_mul]; omega] at g2
   simpa using g2
  ·rw [List.drop_drop,show sz+(i+1)*sz=(i+1+1)*sz from by rw [Nat.succ_mul (i+1)]; omega] at g3
   simpa using g3
theorem j6.join {α:Type} {R:List Nat->List Value->α->Prop} {sz:Nat} (hR:∀ O cs x,R O cs x->cs.length=sz) {y:α}:∀ {l:List α} {O1 O2 O3:List Nat} {cs:List Value} {i:Nat},i<l.length ->
  j6 R sz O1 (cs.take (i*sz)) (l.take i)->R O2 ((cs.drop (i*sz)).take sz) y->j6 R sz O3 (cs.drop ((i+1)*sz)) (l.drop (i+1)) ->
  j6 R sz (O1++(O2++O3)) cs (l.set i y)
 | [],_,_,_,_,_,hi,_,_,_=>by simp at hi
 | x::l,O1,O2,O3,cs,0,_,h1,h2,h3=>by
  simp only [Nat.zero_mul,List.take_zero,j6] at h1;rw [h1.1];exact ⟨O2,O3,rfl,by simpa using h2,by simpa using h3⟩
 | x::l,O1,O2,O3,cs,i+1,hi,⟨P1,P2,e,h1,lP⟩,h2,h3=>by
  subst e;refine ⟨P1,P2++(O2++O3),by simp,?_,?_⟩
  ·rw [List.take_take,Nat.min_eq_left (by rw [Nat.succ_mul]; omega)] at h1; exact h1
  ·refine j6.join hR (by simpa using hi) ?_ ?_ ?_
   ·rw [List.drop_take,show (i+1)*sz - sz=i*sz from by rw [Nat.succ_mul]; omega] at lP; exact lP
   ·rw [List.drop_drop,show sz+i*sz=(i+1)*sz from by rw [Nat.succ_mul]; omega]; exact h2
   ·rw [List.drop_drop,show sz+(i+1)*sz=(i+1+1)*sz from by rw [Nat.succ_mul (i+1)]; omega]
    simpa using h3
theorem j6.append {α:Type} {R:List Nat->List Value->α->Prop} {sz:Nat} (hR:∀ O cs x,R O cs x->cs.length=sz):∀ {l l':List α} {O O':List Nat} {cs cs':List Value},
  j6 R sz O cs l->j6 R sz O' cs' l'->j6 R sz (O++O') (cs++cs') (l++l')
 | [],_,_,_,_,_,⟨h1,h2⟩,h=>by subst h1; subst h2; simpa using h
 | x::l,l',O,O',cs,cs',⟨O1,O2,e,h1,h2⟩,h=>by
  have hl:=hR _ _ _ h1;simp only [List.length_take] at hl;refine ⟨O1,O2++O',by rw [e]; simp,?_,?_⟩
  ·rw [List.take_append_of_le_length (by omega)]; exact h1
  ·rw [List.drop_append_of_le_length (by omega)]; exact j6.append hR h2 h
theorem j6.det {α:Type} {R R':List Nat->List Value->α->Prop} {sz:Nat} (hR:∀ O O' cs x,R O cs x->R' O' cs x->O=O'):∀ {l:List α} {O O':List Nat} {cs:List Value},
  j6 R sz O cs l->j6 R' sz O' cs l->O=O'
 | [],_,_,_,⟨h,_⟩,⟨h',_⟩=>by rw [h,h']
 | _::_,_,_,_,⟨O1,O2,e,h1,h2⟩,⟨O1',O2',e',lP,fN⟩=>by
  rw [e,e',hR _ _ _ _ h1 lP,j6.det hR h2 fN]
theorem i6.IG {o:Bool} {t:Ty} (ih:∀ {O O':List Nat} {cs:List Value} {x:t.den},i6 H S t O cs x->i6 H S' t O' cs x->O=O') {O O':List Nat} {cs:List Value} {x:List t.den} (h:i6 H S (.d8 o t) O cs x) (h':i6 H S' (.d8 o t) O' cs x):O=O':=by
 cases o with
 | false =>
  have hO:∀ {O:List Nat} {x:(Ty.d8 false t).den} {S:Nat->Prop},i6 H S (.d8 false t) O cs x->O=[]:=by
   rintro O x S (h|⟨b,off,cap,O',_,_,_,_,_,h6⟩)
   ·exact h.1
   ·exact h6.1
  rw [hO h,hO h']
 | true =>
  rcases h with ⟨h1,⟨a,c,h2,h3⟩,h4⟩|⟨b,off,cap,P,c1,c2,c3,c4,c5,c6,c7⟩
  ·rcases h' with ⟨k1,_⟩|⟨b',ar,gV,P',d1,d2,d3,d4,d5,d6,d7⟩
   ·rw [h1,k1]
   ·rw [h2] at d1; simp only [List.cons.injEq,Value.slice.injEq,and_true] at d1; have:=d3.2 rfl; have:=h3 rfl; omega
  ·rcases h' with ⟨h1,⟨a,c,h2,h3⟩,h4⟩|⟨b',ar,gV,P',d1,d2,d3,d4,d5,d6,d7⟩
   ·rw [h2] at c1; simp only [List.cons.injEq,Value.slice.injEq,and_true] at c1; have:=c3.2 rfl; have:=h3 rfl; omega
   ·rw [c1] at d1
    simp only [List.cons.injEq,Value.slice.injEq,Option.some.injEq,Addr.mk.injEq,and_true] at d1;obtain ⟨⟨rfl,rfl⟩,-,rfl⟩:=d1;rw [c6,d6,j6.det (R:=i6 H S t) (R':=i6 H S' t) (λ O O' cs x h h'=>ih h h') c5 d5]
theorem i6.det:∀ {t:Ty} {O O':List Nat} {cs:List Value} {x:t.den},i6 H S t O cs x->i6 H S' t O' cs x->O=O':=by
 intro t
 induction t with
 | int k=>intro O O' cs x h h'; rw [h.1,h'.1]
 | bool=>intro O O' cs x h h'; rw [h.1,h'.1]
 | str=>intro O O' cs x h h'; rw [h.1,h'.1]
 | unit=>intro O O' cs x h h'; rw [h.1,h'.1]
 | fn f=>intro O O' cs x h h'; rw [h.1,h'.1]
 | hole t=>intro O O' cs x h h'; rw [h.1,h'.1]
 | map o k v =>
  rintro O O' cs x (⟨_,rfl,rfl⟩|⟨l,b,es,ck,_,rfl,_,_,h6⟩) (⟨_,rfl,e⟩|⟨l',b',es',ck',_,e,_,_,g6⟩)
  ·rfl
  ·simp at e
  ·simp at e
  ·simp only [List.cons.injEq,Value.map.injEq,Option.some.injEq,and_true] at e
   cases o with
   | true=>rw [h6,g6,e]
   | false=>rw [h6.1,g6.1]
 | box o g t ih =>
  rintro O O' cs x (⟨hx,rfl,rfl⟩|⟨y,b,off,P,hx,rfl,h2,h3,h4⟩) (⟨_,rfl,e⟩|⟨y',b',ar,P',eu,e,g2,g3,g4⟩)
  ·rfl
  ·exact (Oc (by simpa using e.symm)).elim
  ·exact (Oc (by simpa using e)).elim
  have e:=Xe (by simpa using e);cases e;rw [hx] at eu; cases eu;cases o with
  | true=>rw [h4.1,g4.1,ih h3 g3]
  | false=>rw [h4.1,g4.1]
 | pair a b iha ihb =>
  rintro O O' cs x ⟨O1,O2,rfl,h1,h2⟩ ⟨O1',O2',rfl,lP,fN⟩;rw [iha h1 lP,ihb h2 fN]
 | arr n t ih =>
  rintro O O' cs x ⟨h1,h2⟩ ⟨lP,fN⟩;exact j6.det (R:=i6 H S t) (R':=i6 H S' t) (λ O O' cs x h h'=>ih h h') h2 fN
 | d8 o t ih=>intro O O' cs x h h'; exact i6.IG ih h h'
 | C6 t ih =>
  rintro O O' cs ⟨n,l,m⟩ h h'
  match n,h,h' with
  | 0,h,h'=>exact i6.IG (o:=false) ih h h'
  | 1,h,h'=>exact i6.IG (o:=true) ih h h'
  | n+2,⟨b,off,P,c1,c2,c3,c4,c5⟩,⟨b',ar,P',d1,d2,d3,d4,d5⟩ =>
   rw [c1] at d1;simp only [List.cons.injEq,Value.slice.injEq,Option.some.injEq,Addr.mk.injEq,and_true] at d1;obtain ⟨rfl,rfl⟩:=d1;cases n with
   | zero=>rw [c5.1,d5.1,j6.det (R:=i6 H S t) (R':=i6 H S' t) (λ O O' cs x h h'=>ih h h') c4 d4]
   | succ n=>rw [c5.1,d5.1]
end
end Go.Ex
namespace Go.Ex
inductive Step where
 | l8 (i:Nat)
 | idx (i:Int)
 deriving Inhabited
def Ty.er (a b:Ty):Bool:=decide (a.sh=b.sh)
def j9:(t:Ty)->t.den->List Step->Option (Sigma Ty.den)
 | t,x,[]=>some ⟨t,x⟩
 | .pair a _,x,.l8 0::p=>j9 a x.1 p
 | .pair _ b,x,.l8 (n+1)::p=>j9 b x.2 (.l8 n::p)
 | .arr _ t,x,.idx i::p=>j9 t (List.getD x i.toNat t.s8) p
 | .d8 true t,x,.idx i::p=>j9 t (List.getD x i.toNat t.s8) p
 | _,_,_=>none
def B8:(t:Ty)->t.den->List Step->Prop
 | _,_,[]=>True
 | .pair a _,x,.l8 0::p=>B8 a x.1 p
 | .pair _ b,x,.l8 (n+1)::p=>B8 b x.2 (.l8 n::p)
 | .arr n t,x,.idx i::p=>(0<=i/\i<n)/\B8 t (List.getD x i.toNat t.s8) p
 | .d8 true t,x,.idx i::p=>(0<=i/\i<List.length x)/\B8 t (List.getD x i.toNat t.s8) p
 | _,_,_=>False
def w5:(t:Ty)->t.den->List Step->(u:Ty)->u.den->Option (Sigma Ty.den)
 | t,_,[],u,y=>if u.sh=t.sh then some ⟨u,y⟩ else none
 | .pair a b,x,.l8 0::p,u,y=>match w5 a x.1 p u y with
  | some ⟨t',z⟩=>some ⟨.pair t' b,(z,x.2)⟩
  | none=>none
 | .pair a b,x,.l8 (n+1)::p,u,y=>match w5 b x.2 (.l8 n::p) u y with
  | some ⟨t',z⟩=>some ⟨.pair a t',(x.1,z)⟩
  | none=>none
 | .arr n t,x,.idx i::p,u,y=>match w5 t (List.getD x i.toNat t.s8) p u y with
  | some ⟨t',z⟩=>if h:t'=t then some ⟨.arr n t,List.set x i.toNat (h▸z)⟩ else none
  | none=>none
 | .d8 true t,x,.idx i::p,u,y=>match w5 t (List.getD x i.toNat t.s8) p u y with
  | some ⟨t',z⟩=>if h:t'=t then some ⟨.d8 true t,List.set x i.toNat (h▸z)⟩ else none
  | none=>none
 | _,_,_,_,_=>none
theorem R8:∀ t:Ty,t.sh.size=t.size:=by
 intro t
 induction t with
 | pair a b iha ihb=>simp only [Ty.sh,Ty.size,iha,ihb]
 | arr n t ih=>simp only [Ty.sh,Ty.size,ih]
 | _=>rfl
theorem G7 {u t:Ty} (h:u.sh=t.sh):u.size=t.size:=by rw [<- R8 u,h,R8]
def C2 (H:Array Go.Obj):Ty->List Step->Nat->Nat->Option (Nat×Nat)
 | _,[],b,off=>some (b,off)
 | .pair a _,.l8 0::p,b,off=>C2 H a p b off
 | .pair a c,.l8 (n+1)::p,b,off=>C2 H c (.l8 n::p) b (off+a.size)
 | .arr _ t,.idx i::p,b,off=>C2 H t p b (off+i.toNat*t.size)
 | .d8 true t,.idx i::p,b,off=>match (x8 H b)[off]? with
  | some (.slice (some a) _ _)=>C2 H t p a.block (a.off+i.toNat*t.size)
  | _=>none
 | _,_,_,_=>none
def x7 (H:Array Go.Obj) (S:Nat->Prop):(t:Ty)->List Step->Nat->Nat->List Nat->t.den->Prop
 | _,[],_,_,O,_=>O=[]
 | .pair a c,.l8 0::p,b,off,O,x=>∃ O1 O2,O=O1++O2/\x7 H S a p b off O1 x.1/\i6 H S c O2 (e8 H b (off+a.size) c.size) x.2
 | .pair a c,.l8 (n+1)::p,b,off,O,x=>∃ O1 O2,O=O1++O2/\i6 H S a O1 (e8 H b off a.size) x.1/\x7 H S c (.l8 n::p) b (off+a.size) O2 x.2
 | .arr n t,.idx i::p,b,off,O,l=>List.length l=n/\(0<=i/\i<n)/\∃ O1 O2 O3,O=O1++(O2++O3) /\
   j6 (i6 H S t) t.size O1 (e8 H b off (i.toNat*t.size)) (List.take i.toNat l) /\
   x7 H S t p b (off+i.toNat*t.size) O2 (List.getD l i.toNat t.s8) /\
   j6 (i6 H S t) t.size O3 (e8 H b (off+(i.toNat+1)*t.size) ((n - (i.toNat+1))*t.size)) (List.drop (i.toNat+1) l)
 | .d8 true t,.idx i::p,b,off,O,l=>(0<=i/\i<List.length l)/\∃ b1 o1 cap O1 O2 O3,O=b1::(O1++(O2++O3)) /\
   (x8 H b)[off]?=some (.slice (some ⟨b1,o1,none⟩) (List.length l) cap)/\List.length l<=cap/\zT true cap/\V1 t.isB H b1 (o1+cap*t.size) /\
   j6 (i6 H S t) t.size O1 (e8 H b1 o1 (i.toNat*t.size)) (List.take i.toNat l) /\
   x7 H S t p b1 (o1+i.toNat*t.size) O2 (List.getD l i.toNat t.s8) /\
   j6 (i6 H S t) t.size O3 (e8 H b1 (o1+(i.toNat+1)*t.size) ((List.length l - (i.toNat+1))*t.size)) (List.drop (i.toNat+1) l)
 | _,_,_,_,_,_=>False
section
variable {H H':Array Go.Obj} {S S':Nat->Prop}
theorem n8 (b off n m:Nat) (h:m<=n):(e8 H b off n).take m=e8 H b off m:=by
 simp only [e8,List.take_take,Nat.min_eq_left h]
theorem o6 (b off n m:Nat):(e8 H b off n).drop m=e8 H b (off+m) (n - m):=by
 simp only [e8,List.drop_take,List.drop_drop]
theorem LM (b off n:Nat) (h:off+n<=(x8 H b).length):(e8 H b off n).length=n:=by
 simp only [e8,List.length_take,List.length_drop]; omega
theorem KU (b off n m:Nat):e8 H b off (n+m)=e8 H b off n++e8 H b (off+n) m:=by
 simp only [e8,List.take_add,List.drop_drop]
theorem R0 (b off:Nat) (v:Value):e8 H b off 1=[v]↔(x8 H b)[off]?=some v:=by
 simp only [e8];constructor
 ·intro h
  have:((x8 H b).drop off)[0]?=some v:=by
   cases hd:(x8 H b).drop off with
   | nil=>rw [hd] at h; simp at h
   | cons a l=>rw [hd] at h; simp at h; simp [h]
  simpa using this
 ·intro h
  obtain ⟨bj,e⟩:=List.getElem?_eq_some_iff.1 h;rw [List.drop_eq_getElem_cons bj];simp [e]
theorem P5.x8 {b n:Nat} (h:P5 H b n):n<=(x8 H b).length:=by
 obtain ⟨arr,T,⟨fz,e,_⟩,hn⟩:=h;simp only [Ex.x8,e];simpa using hn
theorem P5.mono {b n m:Nat} (h:P5 H b n) (hm:m<=n):P5 H b m:=by
 obtain ⟨arr,T,e,hn⟩:=h;exact ⟨arr,T,e,Nat.le_trans hm hn⟩
theorem V1.mono {q:Bool} {b n m:Nat} (h:V1 q H b n) (hm:m<=n):V1 q H b m:=by
 obtain ⟨arr,T,e,hn⟩:=h;exact ⟨arr,T,e,Nat.le_trans hm hn⟩
theorem E7 {i:Int} {n sz:Nat} (h:0<=i/\i<n):i.toNat<n/\i.toNat*sz+sz<=n*sz/\(i.toNat+1)*sz=i.toNat*sz+sz/\(n - (i.toNat+1))*sz=n*sz - (i.toNat*sz+sz):=by
 have h1:i.toNat<n:=by omega
 have h2:(i.toNat+1)*sz<=n*sz:=Nat.mul_le_mul_right _ h1;have h3:(i.toNat+1)*sz=i.toNat*sz+sz:=Nat.succ_mul _ _;refine ⟨h1,by omega,h3,?_⟩;rw [Nat.sub_mul,h3]
theorem focus:∀ {t:Ty} {p:List Step} {b off:Nat} {O:List Nat} {x:t.den},i6 H S t O (e8 H b off t.size) x->off+t.size<=(x8 H b).length->B8 t x p ->
  ∀ {u:Ty} {y:u.den},j9 t x p=some ⟨u,y⟩ ->
  ∃ O1 O2 b' ar,O.Perm (O1++O2)/\x7 H S t p b off O1 x/\C2 H t p b off=some (b',ar)/\i6 H S u O2 (e8 H b' ar u.size) y /\
   ar+u.size<=(x8 H b').length/\((b'=b/\off<=ar/\ar+u.size<=off+t.size)\/(b'∈O1/\P5 H b' (ar+u.size))):=by
 intro t
 induction t with
 | pair a c iha ihc =>
  intro p b off O x hR hb ho u y hg
  match p,ho,hg with
  | [],_,hg=>simp only [j9,Option.some.injEq] at hg; cases hg; exact ⟨[],O,b,off,by simp,rfl,rfl,hR,hb,.inl ⟨rfl,Nat.le_refl _,Nat.le_refl _⟩⟩
  | .l8 0::p,ho,hg =>
   obtain ⟨P1,P2,rfl,h1,h2⟩:=hR;simp only [Ty.size] at *
   rw [n8 _ _ _ _ (by omega)] at h1;rw [o6,Nat.add_sub_cancel_left] at h2;obtain ⟨O1,O2,b',ar,e1,e2,e3,e4,e5,e6⟩:=iha h1 (by omega) ho hg;refine ⟨O1++P2,O2,b',ar,?_,⟨O1,P2,rfl,e2,h2⟩,e3,e4,e5,?_⟩
   ·refine (e1.append_right P2).trans ?_
    rw [List.append_assoc,List.append_assoc];exact List.Perm.append_left O1 List.perm_append_comm
   ·rcases e6 with ⟨g1,g2,g3⟩|⟨g1,g2⟩
    ·exact .inl ⟨g1,g2,by omega⟩
    ·exact .inr ⟨by simp [g1],g2⟩
  | .l8 (n+1)::p,ho,hg =>
   obtain ⟨P1,P2,rfl,h1,h2⟩:=hR;simp only [Ty.size] at *
   rw [n8 _ _ _ _ (by omega)] at h1;rw [o6,Nat.add_sub_cancel_left] at h2;obtain ⟨O1,O2,b',ar,e1,e2,e3,e4,e5,e6⟩:=ihc h2 (by omega) ho hg;refine ⟨P1++O1,O2,b',ar,?_,⟨P1,O1,rfl,h1,e2⟩,e3,e4,e5,?_⟩
   ·rw [List.append_assoc]; exact List.Perm.append_left P1 e1
   ·rcases e6 with ⟨g1,g2,g3⟩|⟨g1,g2⟩
    ·exact .inl ⟨g1,by omega,by omega⟩
    ·exact .inr ⟨by simp [g1],g2⟩
  | .idx i::p,ho,_=>simp [B8] at ho
 | arr n t ih =>
  intro p b off O x hR hb ho u y hg
  match p,ho,hg with
  | [],_,hg=>simp only [j9,Option.some.injEq] at hg; cases hg; exact ⟨[],O,b,off,by simp,rfl,rfl,hR,hb,.inl ⟨rfl,Nat.le_refl _,Nat.le_refl _⟩⟩
  | .idx i::p,ho,hg =>
   obtain ⟨hi,ho⟩:=ho;obtain ⟨hl,hR⟩:=hR;simp only [Ty.size] at *
   obtain ⟨b1,b2,b3,b4⟩:=E7 (sz:=t.size) hi;obtain ⟨P1,P2,P3,rfl,g1,g2,g3⟩:=j6.split (d:=t.s8) (i:=i.toNat) (by rw [hl]; exact b1) hR;rw [n8 _ _ _ _ (by omega)] at g1;rw [o6,n8 _ _ _ _ (by omega)] at g2;rw [o6,show n*t.size - (i.toNat+1)*t.size=(n - (i.toNat+1))*t.size from by omega] at g3;obtain ⟨O1,O2,b',ar,e1,e2,e3,e4,e5,e6⟩:=ih g2 (by omega) ho hg;refine ⟨P1++(O1++P3),O2,b',ar,?_,⟨hl,hi,P1,O1,P3,rfl,g1,e2,g3⟩,e3,e4,e5,?_⟩
   ·rw [List.append_assoc]
    refine List.Perm.append_left P1 ?_;refine (e1.append_right P3).trans ?_;rw [List.append_assoc,List.append_assoc];exact List.Perm.append_left O1 List.perm_append_comm
   ·rcases e6 with ⟨g1,g2,g3⟩|⟨g1,g2⟩
    ·exact .inl ⟨g1,by omega,by omega⟩
    ·exact .inr ⟨by simp [g1],g2⟩
  | .l8 i::p,ho,_=>simp [B8] at ho
 | d8 o t ih =>
  intro p b off O x hR hb ho u y hg
  match p,ho,hg with
  | [],_,hg=>simp only [j9,Option.some.injEq] at hg; cases hg; exact ⟨[],O,b,off,by simp,by cases o<;>rfl,by cases o<;>rfl,hR,hb,.inl ⟨rfl,Nat.le_refl _,Nat.le_refl _⟩⟩
  | .idx i::p,ho,hg =>
   cases o with
   | false=>simp [B8] at ho
   | true =>
    obtain ⟨hi,ho⟩:=ho;rcases hR with ⟨_,_,hn⟩|⟨b1,o1,cap,O',c1,c2,c3,c4,c5,rfl,c6⟩
    ·subst hn; simp at hi; omega
    ·simp only [Ty.size] at *
     have hh:=(R0 b off _).1 c1;obtain ⟨b1',b2,b3,b4⟩:=E7 (sz:=t.size) hi;obtain ⟨P1,P2,P3,rfl,g1,g2,g3⟩:=j6.split (d:=t.s8) (i:=i.toNat) b1' c5;rw [n8 _ _ _ _ (by omega)] at g1;rw [o6,n8 _ _ _ _ (by omega)] at g2;rw [o6,show List.length x*t.size - (i.toNat+1)*t.size=(List.length x - (i.toNat+1))*t.size from by omega] at g3;obtain ⟨O1,O2,b',ar,e1,e2,e3,e4,e5,e6⟩:=ih g2 (by omega) ho hg;have cT:List.length x*t.size<=cap*t.size:=Nat.mul_le_mul_right _ c2;refine ⟨b1::(P1++(O1++P3)),O2,b',ar,?_,⟨hi,b1,o1,cap,P1,O1,P3,rfl,hh,c2,c3,c6,g1,e2,g3⟩,?_,e4,e5,?_⟩
     ·rw [List.cons_append]
      refine List.Perm.cons b1 ?_;rw [List.append_assoc];refine List.Perm.append_left P1 ?_;refine (e1.append_right P3).trans ?_;rw [List.append_assoc,List.append_assoc];exact List.Perm.append_left O1 List.perm_append_comm
     ·simp only [C2,hh]; exact e3
     ·rcases e6 with ⟨g1,g2,g3⟩|⟨g1,g2⟩
      ·subst g1; exact .inr ⟨by simp,c6.free.mono (by omega)⟩
      ·exact .inr ⟨by simp [g1],g2⟩
  | .l8 i::p,ho,_=>cases o<;>simp [B8] at ho
 | _ =>
  intro p b off O x hR hb ho u y hg
  match p,ho,hg with
  | [],_,hg=>simp only [j9,Option.some.injEq] at hg; cases hg; exact ⟨[],O,b,off,by simp,rfl,rfl,hR,hb,.inl ⟨rfl,Nat.le_refl _,Nat.le_refl _⟩⟩
  | .l8 i::p,ho,_=>simp [B8] at ho
  | .idx i::p,ho,_=>simp [B8] at ho
structure X0 (H H':Array Go.Obj) (b off n:Nat):Prop where
 at_:∃ arr df T,(∃ fz,Lie H b arr T fz/\H'[b]?=some (.cells df T fz))/\df.size=arr.size/\∀ j,(j<off\/off+n<=j)->df.toList[j]?=arr.toList[j]?
 rest:∀ c,c≠b->c<H.size->H'[c]?=H[c]?
theorem X0.length {b off n:Nat} (h:X0 H H' b off n) (c:Nat) (hc:c<H.size):(x8 H' c).length=(x8 H c).length:=by
 by_cases e:c=b
 ·subst e
  obtain ⟨arr,df,T,⟨fz,⟨e1,_⟩,e2⟩,e3,_⟩:=h.at_;simp only [x8,e1,e2]; simpa using e3
 ·rw [Q4 (h.rest c e hc)]
theorem X0.cells {b off n:Nat} (h:X0 H H' b off n) {c o m:Nat} (hc:c<H.size) (hr:c=b->o+m<=off\/off+n<=o):e8 H' c o m=e8 H c o m:=by
 by_cases e:c=b
 ·subst e
  have hr:=hr rfl;obtain ⟨arr,df,T,⟨fz,⟨e1,_⟩,e2⟩,e3,e4⟩:=h.at_;simp only [e8,x8,e1,e2];apply List.ext_getElem?;intro j;simp only [List.getElem?_take,List.getElem?_drop]
  split
  ·rw [e4]; omega
  ·rfl
 ·exact l6 (h.rest c e hc) _ _
theorem X0.free {b off n:Nat} (h:X0 H H' b off n) {c m:Nat} (hf:P5 H c m):P5 H' c m:=by
 obtain ⟨arr,T,⟨fz,e,ef⟩,hm⟩:=hf;by_cases hc:c=b
 ·subst hc
  obtain ⟨a1,a2,T',⟨fz',⟨e1,_⟩,e2⟩,e3,_⟩:=h.at_;rw [e1] at e; cases e;exact ⟨a2,_,⟨fz,e2,ef.imp id (λ h=>by omega)⟩,by omega⟩
 ·have bj:c<H.size:=by
   rcases Nat.lt_or_ge c H.size with h|h
   ·exact h
   ·rw [Array.getElem?_eq_none h] at e; cases e
  exact ⟨arr,T,⟨fz,(h.rest c hc bj).trans e,ef⟩,hm⟩
theorem X0.Ha {b off n:Nat} (h:X0 H H' b off n) {q:Bool} {c m:Nat} (hf:V1 q H c m):V1 q H' c m:=by
 obtain ⟨arr,T,⟨fz,e,ef⟩,hm⟩:=hf;by_cases hc:c=b
 ·subst hc
  obtain ⟨a1,a2,T',⟨fz',⟨e1,_⟩,e2⟩,e3,_⟩:=h.at_;rw [e1] at e; cases e;exact ⟨a2,_,⟨fz,e2,ef.imp id (λ h=>⟨h.1,by omega⟩)⟩,by omega⟩
 ·have bj:c<H.size:=by
   rcases Nat.lt_or_ge c H.size with h|h
   ·exact h
   ·rw [Array.getElem?_eq_none h] at e; cases e
  exact ⟨arr,T,⟨fz,(h.rest c hc bj).trans e,ef⟩,hm⟩
theorem x7.range:∀ {t:Ty} {p:List Step} {b off:Nat} {O:List Nat} {x:t.den},x7 H S t p b off O x->∀ {u:Ty} {y:u.den},j9 t x p=some ⟨u,y⟩->∀ {b' ar:Nat},
  C2 H t p b off=some (b',ar)->(b'=b/\off<=ar/\ar+u.size<=off+t.size)\/b'∈O:=by
 intro t
 induction t with
 | pair a c iha ihc =>
  intro p b off O x hR u y hg b' ar hn
  match p,hR,hg,hn with
  | [],_,hg,hn =>
   simp only [j9,Option.some.injEq] at hg; cases hg;simp only [C2,Option.some.injEq,Prod.mk.injEq] at hn;exact .inl ⟨hn.1.symm,by omega,by omega⟩
  | .l8 0::p,⟨O1,O2,e,h1,h2⟩,hg,hn =>
   simp only [Ty.size];rcases iha h1 hg hn with ⟨g1,g2,g3⟩|g
   ·exact .inl ⟨g1,g2,by omega⟩
   ·exact .inr (by simp [e,g])
  | .l8 (n+1)::p,⟨O1,O2,e,h1,h2⟩,hg,hn =>
   simp only [Ty.size];rcases ihc h2 hg hn with ⟨g1,g2,g3⟩|g
   ·exact .inl ⟨g1,by omega,by omega⟩
   ·exact .inr (by simp [e,g])
  | .idx i::p,hR,_,_=>simp [x7] at hR
 | arr n t ih =>
  intro p b off O x hR u y hg b' ar hn
  match p,hR,hg,hn with
  | [],_,hg,hn =>
   simp only [j9,Option.some.injEq] at hg; cases hg;simp only [C2,Option.some.injEq,Prod.mk.injEq] at hn;exact .inl ⟨hn.1.symm,by omega,by omega⟩
  | .idx i::p,⟨hl,hi,O1,O2,O3,e,h1,h2,h3⟩,hg,hn =>
   simp only [Ty.size];obtain ⟨b1,b2,b3,b4⟩:=E7 (sz:=t.size) hi;rcases ih h2 hg hn with ⟨g1,g2,g3⟩|g
   ·exact .inl ⟨g1,by omega,by omega⟩
   ·exact .inr (by simp [e,g])
  | .l8 i::p,hR,_,_=>simp [x7] at hR
 | d8 o t ih =>
  intro p b off O x hR u y hg b' ar hn
  match p,hR,hg,hn with
  | [],_,hg,hn =>
   simp only [j9,Option.some.injEq] at hg; cases hg;have hn:some (b,off)=some (b',ar):=by cases o<;>exact hn
   simp only [Option.some.injEq,Prod.mk.injEq] at hn;exact .inl ⟨hn.1.symm,by omega,by omega⟩
  | .idx i::p,hR,hg,hn =>
   cases o with
   | false=>simp [x7] at hR
   | true =>
    obtain ⟨hi,b1,o1,cap,O1,O2,O3,e,e1,e2,e3,e4,e5,e6,e7⟩:=hR;simp only [C2,e1] at hn;rcases ih e6 hg hn with ⟨g1,g2,g3⟩|g
    ·exact .inr (by rw [g1,e]; simp)
    ·exact .inr (by rw [e]; simp [g])
  | .l8 i::p,hR,_,_=>cases o<;>simp [x7] at hR
 | _ =>
  intro p b off O x hR u y hg b' ar hn
  match p,hR,hg,hn with
  | [],_,hg,hn =>
   simp only [j9,Option.some.injEq] at hg; cases hg;simp only [C2,Option.some.injEq,Prod.mk.injEq] at hn;exact .inl ⟨hn.1.symm,by omega,by omega⟩
  | .l8 i::p,hR,_,_=>simp [x7] at hR
  | .idx i::p,hR,_,_=>simp [x7] at hR
theorem j6.chg {t:Ty} {O:List Nat} {b off n o m:Nat} {l:List t.den} {c:Nat} (h:j6 (i6 H S t) t.size O (e8 H c o m) l) (hc:X0 H H' b off n)
  (hO:∀ d∈O,d≠b/\d<H.size) (hS:∀ d,S d->d≠b/\d<H.size) (gr:∀ d,S d->S' d) (bj:c<H.size) (hr:c=b->o+m<=off\/off+n<=o) :
  j6 (i6 H' S' t) t.size O (e8 H' c o m) l:=by
 rw [hc.cells bj hr];refine j6.mono (L:=O) (λ _ h=>h) (λ O1 cs x hL hr=>?_) h;exact hr.w6 (λ d hd=>by
  rcases hd with hd|hd
  ·exact hc.rest d (hO d (hL d hd)).1 (hO d (hL d hd)).2
  ·exact hc.rest d (hS d hd).1 (hS d hd).2) gr
theorem i6.chg {t:Ty} {O:List Nat} {b off n o m:Nat} {x:t.den} {c:Nat} (h:i6 H S t O (e8 H c o m) x) (hc:X0 H H' b off n)
  (hO:∀ d∈O,d≠b/\d<H.size) (hS:∀ d,S d->d≠b/\d<H.size) (gr:∀ d,S d->S' d) (bj:c<H.size) (hr:c=b->o+m<=off\/off+n<=o) :
  i6 H' S' t O (e8 H' c o m) x:=by
 rw [hc.cells bj hr];exact h.w6 (λ d hd=>by
  rcases hd with hd|hd
  ·exact hc.rest d (hO d hd).1 (hO d hd).2
  ·exact hc.rest d (hS d hd).1 (hS d hd).2) gr
theorem BO:∀ {t:Ty} {p:List Step} {b off:Nat} {O1:List Nat} {x:t.den},x7 H S t p b off O1 x ->
  ∀ {u0:Ty} {y0:u0.den},j9 t x p=some ⟨u0,y0⟩->∀ {b' ar:Nat},C2 H t p b off=some (b',ar) ->
  off+t.size<=(x8 H b).length->b<H.size->O1.Nodup->b∉O1->(∀ c∈O1,¬ S c/\c<H.size)->¬ S b->(∀ c,S c->c<H.size)->(∀ c,S c->S' c) ->
  ∀ {u:Ty} {y:u.den} {O2:List Nat} {z:Sigma Ty.den},X0 H H' b' ar u0.size->i6 H' S' u O2 (e8 H' b' ar u.size) y->w5 t x p u y=some z ->
  ∃ O,O.Perm (O1++O2)/\i6 H' S' z.1 O (e8 H' b off z.1.size) z.2/\z.1.sh=t.sh:=by
 intro t
 induction t with
 | pair a c iha ihc =>
  intro p b off O1 x hR u0 y0 hg b' ar hn hb dD aN bQ cj jR hS gr u y O2 z hc hy hz
  match p,hR,hg,hn,hz with
  | [],hR,hg,hn,hz =>
   simp only [w5] at hz;split at hz
   ·rename_i e
    cases hz;simp only [C2,Option.some.injEq,Prod.mk.injEq] at hn;obtain ⟨rfl,rfl⟩:=hn;have hR:O1=[]:=hR;exact ⟨O2,by rw [hR]; simp,hy,e⟩
   ·cases hz
  | .l8 0::p,⟨P1,P2,e,h1,h2⟩,hg,hn,hz =>
   subst e;simp only [w5] at hz;split at hz
   ·rename_i t' w hw
    cases hz;simp only [List.nodup_append,List.mem_append,not_or] at aN bQ;simp only [Ty.size] at hb;obtain ⟨O,g1,g2,g3⟩:=iha h1 hg hn (by omega) dD aN.1 bQ.1 (λ c hc=>cj c (by simp [hc])) jR hS gr hc hy hw;have br:=x7.range h1 hg hn;have bc:=G7 g3;refine ⟨O++P2,?_,⟨O,P2,rfl,?_,?_⟩,by simp only [Ty.sh,g3]⟩
    ·refine (g1.append_right P2).trans ?_
     rw [List.append_assoc,List.append_assoc];exact List.Perm.append_left P1 List.perm_append_comm
    ·simp only [Ty.size]; rw [n8 _ _ _ _ (by omega)]; exact g2
    ·simp only [Ty.size]; rw [o6,Nat.add_sub_cancel_left,bc]
     refine h2.chg hc (λ d hd=>⟨?_,(cj d (by simp [hd])).2⟩) (λ d hd=>⟨?_,hS d hd⟩) gr dD (λ e=>?_)
     ·rintro rfl
      rcases br with ⟨g,_⟩|g
      ·subst g; exact bQ.2 hd
      ·exact aN.2.2 _ g _ hd rfl
     ·rintro rfl
      rcases br with ⟨g,_⟩|g
      ·subst g; exact jR hd
      ·exact (cj _ (by simp [g])).1 hd
     ·rcases br with ⟨_,g,g'⟩|g
      ·right; omega
      ·exact absurd (by simp [e,g]:b∈P1) bQ.1
   ·cases hz
  | .l8 (n+1)::p,⟨P1,P2,e,h1,h2⟩,hg,hn,hz =>
   subst e;simp only [w5] at hz;split at hz
   ·rename_i t' w hw
    cases hz;simp only [List.nodup_append,List.mem_append,not_or] at aN bQ;simp only [Ty.size] at hb;obtain ⟨O,g1,g2,g3⟩:=ihc h2 hg hn (by omega) dD aN.2.1 bQ.2 (λ c hc=>cj c (by simp [hc])) jR hS gr hc hy hw;have br:=x7.range h2 hg hn;refine ⟨P1++O,?_,⟨P1,O,rfl,?_,?_⟩,by simp only [Ty.sh,g3]⟩
    ·rw [List.append_assoc]; exact List.Perm.append_left P1 g1
    ·simp only [Ty.size]; rw [n8 _ _ _ _ (by omega)]
     refine h1.chg hc (λ d hd=>⟨?_,(cj d (by simp [hd])).2⟩) (λ d hd=>⟨?_,hS d hd⟩) gr dD (λ e=>?_)
     ·rintro rfl
      rcases br with ⟨g,_⟩|g
      ·subst g; exact bQ.1 hd
      ·exact aN.2.2 _ hd _ g rfl
     ·rintro rfl
      rcases br with ⟨g,_⟩|g
      ·subst g; exact jR hd
      ·exact (cj _ (by simp [g])).1 hd
     ·rcases br with ⟨_,g,g'⟩|g
      ·left; omega
      ·exact absurd (by simp [e,g]:b∈P2) bQ.2
    ·simp only [Ty.size]; rw [o6,Nat.add_sub_cancel_left]; exact g2
   ·cases hz
  | .idx i::p,hR,_,_,_=>simp [x7] at hR
 | arr n t ih =>
  intro p b off O1 x hR u0 y0 hg b' ar hn hb dD aN bQ cj jR hS gr u y O2 z hc hy hz
  match p,hR,hg,hn,hz with
  | [],hR,hg,hn,hz =>
   simp only [w5] at hz;split at hz
   ·rename_i e
    cases hz;simp only [C2,Option.some.injEq,Prod.mk.injEq] at hn;obtain ⟨rfl,rfl⟩:=hn;have hR:O1=[]:=hR;exact ⟨O2,by rw [hR]; simp,hy,e⟩
   ·cases hz
  | .idx i::p,⟨hl,hi,P1,P2,P3,e,h1,h2,h3⟩,hg,hn,hz =>
   subst e;simp only [w5] at hz;split at hz
   ·rename_i t' w hw
    split at hz
    ·rename_i ht; subst ht; cases hz
     simp only [List.nodup_append,List.mem_append,not_or] at aN bQ;obtain ⟨b1,b2,b3,b4⟩:=E7 (sz:=t'.size) hi;simp only [Ty.size] at hb;obtain ⟨O,g1,g2,g3⟩:=ih h2 hg hn (by omega) dD aN.2.1.1 bQ.2.1 (λ c hc=>cj c (by simp [hc])) jR hS gr hc hy hw;have br:=x7.range h2 hg hn;have bG:∀ d,(d∈P1\/d∈P3)->d≠b'/\d<H.size:=by
      intro d hd;refine ⟨?_,(cj d (by rcases hd with h|h<;>simp [h])).2⟩;rintro rfl;rcases br with ⟨g,_⟩|g
      ·subst g; rcases hd with h|h
       ·exact bQ.1 h
       ·exact bQ.2.2 h
      ·rcases hd with h|h
       ·exact aN.2.2 _ h _ (.inl g) rfl
       ·exact aN.2.1.2.2 _ g _ h rfl
     have iY:∀ d,S d->d≠b'/\d<H.size:=by
      intro d hd;refine ⟨?_,hS d hd⟩;rintro rfl;rcases br with ⟨g,_⟩|g
      ·subst g; exact jR hd
      ·exact (cj _ (by simp [g])).1 hd
     refine ⟨P1++(O++P3),?_,⟨by simpa using hl,j6.join (λ _ _ _ h=>i6.length h) (by rw [hl]; exact b1) ?_ ?_ ?_⟩,rfl⟩
     ·rw [List.append_assoc]
      refine List.Perm.append_left P1 ?_;refine (g1.append_right P3).trans ?_;rw [List.append_assoc,List.append_assoc];exact List.Perm.append_left P2 List.perm_append_comm
     ·simp only [Ty.size]; rw [n8 _ _ _ _ (by omega)]
      refine h1.chg hc (λ d hd=>bG d (.inl hd)) iY gr dD (λ e=>?_);rcases br with ⟨_,g,g'⟩|g
      ·left; omega
      ·exact absurd (by simp [e,g]:b∈P2) bQ.2.1
     ·simp only [Ty.size]; rw [o6,n8 _ _ _ _ (by omega)]; exact g2
     ·simp only [Ty.size]; rw [o6,show n*t'.size - (i.toNat+1)*t'.size=(n - (i.toNat+1))*t'.size from by omega]
      refine h3.chg hc (λ d hd=>bG d (.inr hd)) iY gr dD (λ e=>?_);rcases br with ⟨_,g,g'⟩|g
      ·right; omega
      ·exact absurd (by simp [e,g]:b∈P2) bQ.2.1
    ·cases hz
   ·cases hz
  | .l8 i::p,hR,_,_,_=>simp [x7] at hR
 | d8 o t ih =>
  intro p b off O1 x hR u0 y0 hg b' ar hn hb dD aN bQ cj jR hS gr u y O2 z hc hy hz
  match p,hR,hg,hn,hz with
  | [],hR,hg,hn,hz =>
   have hz:(if u.sh=(Ty.d8 o t).sh then some (⟨u,y⟩:Sigma Ty.den) else none)=some z:=by cases o<;>exact hz
   split at hz
   ·rename_i e
    cases hz;have hn:some (b,off)=some (b',ar):=by cases o<;>exact hn
    simp only [Option.some.injEq,Prod.mk.injEq] at hn;obtain ⟨rfl,rfl⟩:=hn;have hR:O1=[]:=by cases o<;>exact hR
    exact ⟨O2,by rw [hR]; simp,hy,e⟩
   ·cases hz
  | .idx i::p,hR,hg,hn,hz =>
   cases o with
   | false=>simp [x7] at hR
   | true =>
    obtain ⟨hi,c1,o1,cap,P1,P2,P3,e,e1,e2,e3,e4,e5,e6,e7⟩:=hR;subst e;simp only [C2,e1] at hn;simp only [w5] at hz;split at hz
    ·rename_i t' w hw
     split at hz
     ·rename_i ht; subst ht; cases hz
      simp only [List.nodup_append,List.mem_append,List.nodup_cons,List.mem_cons,not_or] at aN bQ;obtain ⟨b1,b2,b3,b4⟩:=E7 (sz:=t'.size) hi;have cT:List.length x*t'.size<=cap*t'.size:=Nat.mul_le_mul_right _ e2;have qj:=e4.free.x8;have dP:c1<H.size:=(cj c1 (by simp)).2;obtain ⟨O,g1,g2,g3⟩:=ih e6 hg hn (by omega) dP aN.2.2.1.1 aN.1.2.1 (λ c hc=>cj c (by simp [hc])) (cj c1 (by simp)).1 hS gr hc hy hw;have br:=x7.range e6 hg hn;have eA:b≠b':=by
       rintro rfl;rcases br with ⟨g,_⟩|g
       ·exact bQ.1 g
       ·exact bQ.2.2.1 g
      have bG:∀ d,(d∈P1\/d∈P3)->d≠b'/\d<H.size:=by
       intro d hd;refine ⟨?_,(cj d (by rcases hd with h|h<;>simp [h])).2⟩;rintro rfl;rcases br with ⟨g,_⟩|g
       ·subst g; rcases hd with h|h
        ·exact aN.1.1 h
        ·exact aN.1.2.2 h
       ·rcases hd with h|h
        ·exact aN.2.2.2 _ h _ (.inl g) rfl
        ·exact aN.2.2.1.2.2 _ g _ h rfl
      have iY:∀ d,S d->d≠b'/\d<H.size:=by
       intro d hd;refine ⟨?_,hS d hd⟩;rintro rfl;rcases br with ⟨g,_⟩|g
       ·subst g; exact (cj _ (by simp)).1 hd
       ·exact (cj _ (by simp [g])).1 hd
      have lp:e8 H' b off 1=[.slice (some ⟨c1,o1,none⟩) (List.length x) cap]:=by
       rw [l6 (hc.rest b eA dD)]; exact (R0 b off _).2 e1
      refine ⟨c1::(P1++(O++P3)),?_,.inr ⟨c1,o1,cap,P1++(O++P3),by simp only [Ty.size,List.length_set]; exact lp,by simpa using e2,e3,?_,?_,rfl,hc.Ha e4⟩,rfl⟩
      ·rw [List.cons_append]
       refine List.Perm.cons c1 ?_;rw [List.append_assoc];refine List.Perm.append_left P1 ?_;refine (g1.append_right P3).trans ?_;rw [List.append_assoc,List.append_assoc];exact List.Perm.append_left P2 List.perm_append_comm
      ·rw [hc.length c1 dP]; simp only [List.length_set]; omega
      ·simp only [List.length_set]
       refine j6.join (λ _ _ _ h=>i6.length h) b1 ?_ ?_ ?_
       ·rw [n8 _ _ _ _ (by omega)]
        refine e5.chg hc (λ d hd=>bG d (.inl hd)) iY gr dP (λ e=>?_);rcases br with ⟨_,g,g'⟩|g
        ·left; omega
        ·exact absurd (by simp [e,g]:c1∈P2) aN.1.2.1
       ·rw [o6,n8 _ _ _ _ (by omega)]; exact g2
       ·rw [o6,show List.length x*t'.size - (i.toNat+1)*t'.size=(List.length x - (i.toNat+1))*t'.size from by omega]
        refine e7.chg hc (λ d hd=>bG d (.inr hd)) iY gr dP (λ e=>?_);rcases br with ⟨_,g,g'⟩|g
        ·right; omega
        ·exact absurd (by simp [e,g]:c1∈P2) aN.1.2.1
     ·cases hz
    ·cases hz
  | .l8 i::p,hR,_,_,_=>cases o<;>simp [x7] at hR
 | _ =>
  intro p b off O1 x hR u0 y0 hg b' ar hn hb dD aN bQ cj jR hS gr u y O2 z hc hy hz
  match p,hR,hg,hn,hz with
  | [],hR,hg,hn,hz =>
   simp only [w5] at hz;split at hz
   ·rename_i e
    cases hz;simp only [C2,Option.some.injEq,Prod.mk.injEq] at hn;obtain ⟨rfl,rfl⟩:=hn;have hR:O1=[]:=hR;exact ⟨O2,by rw [hR]; simp,hy,e⟩
   ·cases hz
  | .l8 i::p,hR,_,_,_=>simp [x7] at hR
  | .idx i::p,hR,_,_,_=>simp [x7] at hR
end
end Go.Ex
namespace Go.Ex
def kp:List Step->List Step->Bool
 | _,[]=>true
 | [],.l8 _::p=>kp [] p
 | [],.idx _::_=>false
 | .l8 n::q,.l8 m::p=>if n=m then kp q p else true
 | .idx _::q,.idx _::p=>kp q p
 | _,_=>false
section
variable {H H':Array Go.Obj} {S S':Nat->Prop}
theorem xP {b off n o m:Nat} (h:e8 H' b off n=e8 H b off n) (h1:off<=o) (h2:o+m<=off+n):e8 H' b o m=e8 H b o m:=by
 have e:∀ K:Array Go.Obj,e8 K b o m=((e8 K b off n).drop (o - off)).take m:=by
  intro K;rw [o6,n8 _ _ _ _ (by omega),show off+(o - off)=o from by omega]
 rw [e H',e H,h]
theorem b6K {b off n:Nat} (h:e8 H' b off n=e8 H b off n) {j:Nat} (h1:off<=j) (h2:j<off+n):(x8 H' b)[j]?=(x8 H b)[j]?:=by
 have e:∀ K:Array Go.Obj,(x8 K b)[j]?=(e8 K b off n)[j - off]?:=by
  intro K;simp only [e8,List.getElem?_take,List.getElem?_drop];rw [if_pos (by omega),show off+(j - off)=j from by omega]
 rw [e H',e H,h]
theorem Rl:∀ {t:Ty} {x:t.den} {p:List Step},B8 t x p->∃ u y,j9 t x p=some ⟨u,y⟩:=by
 intro t
 induction t with
 | pair a c iha ihc =>
  intro x p h
  match p,h with
  | [],_=>exact ⟨_,_,rfl⟩
  | .l8 0::p,h=>exact iha h
  | .l8 (n+1)::p,h=>exact ihc h
  | .idx i::p,h=>simp [B8] at h
 | arr n t ih =>
  intro x p h
  match p,h with
  | [],_=>exact ⟨_,_,rfl⟩
  | .idx i::p,h=>exact ih h.2
  | .l8 i::p,h=>simp [B8] at h
 | d8 o t ih =>
  intro x p h
  match p,h with
  | [],_=>cases o<;>exact ⟨_,_,rfl⟩
  | .idx i::p,h=>cases o with
   | true=>exact ih h.2
   | false=>simp [B8] at h
  | .l8 i::p,h=>cases o<;>simp [B8] at h
 | _ =>
  intro x p h
  match p,h with
  | [],_=>exact ⟨_,_,rfl⟩
  | .idx i::p,h=>simp [B8] at h
  | .l8 i::p,h=>simp [B8] at h
theorem Ef:∀ {t t':Ty} {p:List Step} {b off:Nat},t'.sh=t.sh->kp [] p=true->C2 H' t' p b off=C2 H t p b off:=by
 intro t
 induction t with
 | pair a c iha ihc =>
  intro t' p b off h hp;cases t'<;>simp only [Ty.sh] at h<;>try cases h
  rename_i a' c';simp only [Ty.pair.injEq] at h
  match p,hp with
  | [],_=>rfl
  | .l8 0::p,hp=>exact iha h.1 hp
  | .l8 (n+1)::p,hp=>simp only [C2,G7 h.1]; exact ihc h.2 (by simpa [kp] using hp)
  | .idx i::p,hp=>simp [kp] at hp
 | d8 o t ih =>
  intro t' p b off h hp;cases t'<;>simp only [Ty.sh] at h<;>try cases h
  ·rename_i o' _
   match p,hp with
   | [],_=>cases o<;>cases o'<;>rfl
   | .l8 i::p,hp=>cases o<;>cases o'<;>simp [C2]
   | .idx i::p,hp=>simp [kp] at hp
  ·match p,hp with
   | [],_=>cases o<;>rfl
   | .l8 i::p,hp=>cases o<;>simp [C2]
   | .idx i::p,hp=>simp [kp] at hp
 | hole t ih =>
  intro t' p b off h hp;cases t'<;>simp only [Ty.sh] at h<;>try cases h
  ·rename_i o' _
   match p,hp with
   | [],_=>cases o'<;>rfl
   | .l8 i::p,hp=>cases o'<;>simp [C2]
   | .idx i::p,hp=>simp [kp] at hp
  ·match p,hp with
   | [],_=>rfl
   | .l8 i::p,hp=>simp [C2]
   | .idx i::p,hp=>simp [kp] at hp
 | _ =>
  intro t' p b off h hp;cases t'<;>simp only [Ty.sh] at h<;>try cases h
  all_goals
   match p,hp with
   | [],_=>rfl
   | .l8 i::p,hp=>simp [C2]
   | .idx i::p,hp=>simp [kp] at hp
theorem DG:∀ {t t':Ty} {p:List Step} {x:t.den} {y:t'.den},t'.sh=t.sh->kp [] p=true->B8 t x p->B8 t' y p:=by
 intro t
 induction t with
 | pair a c iha ihc =>
  intro t' p x y h hp ho;cases t'<;>simp only [Ty.sh] at h<;>try cases h
  rename_i a' c';simp only [Ty.pair.injEq] at h
  match p,hp,ho with
  | [],_,_=>trivial
  | .l8 0::p,hp,ho=>exact iha (t':=a') (y:=y.1) h.1 hp ho
  | .l8 (n+1)::p,hp,ho=>exact ihc (t':=c') (y:=y.2) h.2 (by simpa [kp] using hp) ho
  | .idx i::p,hp,_=>simp [kp] at hp
 | d8 o t ih =>
  intro t' p x y h hp ho
  match p,hp,ho with
  | [],_,_=>simp [B8]
  | .l8 i::p,hp,ho=>cases o<;>simp [B8] at ho
  | .idx i::p,hp,_=>simp [kp] at hp
 | _ =>
  intro t' p x y h hp ho
  match p,hp,ho with
  | [],_,_=>simp [B8]
  | .l8 i::p,hp,ho=>simp [B8] at ho
  | .idx i::p,hp,_=>simp [kp] at hp
theorem zo:∀ {t:Ty} {p:List Step} {b off:Nat} {O:List Nat} {x:t.den},i6 H S t O (e8 H b off t.size) x->off+t.size<=(x8 H b).length->B8 t x p ->
  e8 H' b off t.size=e8 H b off t.size->(∀ c∈O,H'[c]?=H[c]?)->C2 H' t p b off=C2 H t p b off:=by
 intro t
 induction t with
 | pair a c iha ihc =>
  intro p b off O x hR hb ho hc hO
  match p,ho with
  | [],_=>rfl
  | .l8 0::p,ho =>
   obtain ⟨P1,P2,rfl,h1,h2⟩:=hR;simp only [Ty.size] at *
   rw [n8 _ _ _ _ (by omega)] at h1;exact iha h1 (by omega) ho (xP hc (by omega) (by omega)) (λ c hc=>hO c (by simp [hc]))
  | .l8 (n+1)::p,ho =>
   obtain ⟨P1,P2,rfl,h1,h2⟩:=hR;simp only [Ty.size] at *
   rw [o6,Nat.add_sub_cancel_left] at h2;exact ihc h2 (by omega) ho (xP hc (by omega) (by omega)) (λ c hc=>hO c (by simp [hc]))
  | .idx i::p,ho=>simp [B8] at ho
 | arr n t ih =>
  intro p b off O x hR hb ho hc hO
  match p,ho with
  | [],_=>rfl
  | .idx i::p,ho =>
   obtain ⟨hi,ho⟩:=ho;obtain ⟨hl,hR⟩:=hR;simp only [Ty.size] at *
   obtain ⟨b1,b2,b3,b4⟩:=E7 (sz:=t.size) hi;obtain ⟨P1,P2,P3,rfl,g1,g2,g3⟩:=j6.split (d:=t.s8) (i:=i.toNat) (by rw [hl]; exact b1) hR;rw [o6,n8 _ _ _ _ (by omega)] at g2;exact ih g2 (by omega) ho (xP hc (by omega) (by omega)) (λ c hc=>hO c (by simp [hc]))
  | .l8 i::p,ho=>simp [B8] at ho
 | d8 o t ih =>
  intro p b off O x hR hb ho hc hO
  match p,ho with
  | [],_=>cases o<;>rfl
  | .idx i::p,ho =>
   cases o with
   | false=>simp [B8] at ho
   | true =>
    obtain ⟨hi,ho⟩:=ho;rcases hR with ⟨_,_,hn⟩|⟨b1,o1,cap,O',c1,c2,c3,c4,c5,rfl,c6⟩
    ·subst hn; simp at hi; omega
    ·simp only [Ty.size] at *
     have hh:=(R0 b off _).1 c1;have qd:=(R0 b off _).1 (hc.trans c1);obtain ⟨b1',b2,b3,b4⟩:=E7 (sz:=t.size) hi;obtain ⟨P1,P2,P3,rfl,g1,g2,g3⟩:=j6.split (d:=t.s8) (i:=i.toNat) b1' c5;rw [o6,n8 _ _ _ _ (by omega)] at g2;have cT:List.length x*t.size<=cap*t.size:=Nat.mul_le_mul_right _ c2;simp only [C2,hh,qd];exact ih g2 (by omega) ho (l6 (hO b1 (by simp)) _ _) (λ c hc=>hO c (by simp [hc]))
  | .l8 i::p,ho=>cases o<;>simp [B8] at ho
 | _ =>
  intro p b off O x hR hb ho hc hO
  match p,ho with
  | [],_=>rfl
  | .l8 i::p,ho=>simp [B8] at ho
  | .idx i::p,ho=>simp [B8] at ho
theorem zi {t:Ty} {p:List Step} {b off:Nat} {O:List Nat} {x:t.den} (hR:i6 H S t O (e8 H b off t.size) x) (hb:off+t.size<=(x8 H b).length) (ho:B8 t x p)
  (hc:e8 H' b off t.size=e8 H b off t.size) (hO:∀ c∈O,H'[c]?=H[c]?) {u:Ty} {y:u.den} (hg:j9 t x p=some ⟨u,y⟩) {b' ar:Nat} (hn:C2 H t p b off=some (b',ar)) :
  e8 H' b' ar u.size=e8 H b' ar u.size:=by
 obtain ⟨O1,O2,c1,c2,e1,e2,e3,e4,e5,e6⟩:=focus hR hb ho hg
 rw [hn] at e3; cases e3;rcases e6 with ⟨rfl,g1,g2⟩|⟨g1,_⟩
 ·exact xP hc g1 g2
 ·exact l6 (hO _ (e1.mem_iff.2 (by simp [g1]))) _ _
theorem xk {α:Type} (l:List α) (i j:Nat) (v d:α):(l.set i v).getD j d=if i=j/\j<l.length then v else l.getD j d:=by
 simp only [List.getD_eq_getElem?_getD,List.getElem?_set];by_cases h:i=j
 ·subst h
  by_cases h2:i<l.length<;>simp [h2]
 ·simp [h]
theorem VY:∀ {t:Ty} {x:t.den} {p:List Step} {u:Ty} {y:u.den} {z:Sigma Ty.den},w5 t x p u y=some z->z.1.sh=t.sh:=by
 intro t
 induction t with
 | pair a c iha ihc =>
  intro x p u y z h
  match p,h with
  | [],h =>
   simp only [w5] at h;split at h
   ·rename_i e; cases h; exact e
   ·cases h
  | .l8 0::p,h =>
   simp only [w5] at h;split at h
   ·rename_i t' w hw; cases h; simp only [Ty.sh,iha hw]
   ·cases h
  | .l8 (n+1)::p,h =>
   simp only [w5] at h;split at h
   ·rename_i t' w hw; cases h; simp only [Ty.sh,ihc hw]
   ·cases h
  | .idx i::p,h=>simp [w5] at h
 | arr n t ih =>
  intro x p u y z h
  match p,h with
  | [],h =>
   simp only [w5] at h;split at h
   ·rename_i e; cases h; exact e
   ·cases h
  | .idx i::p,h =>
   simp only [w5] at h;split at h
   ·split at h
    ·cases h; rfl
    ·cases h
   ·cases h
  | .l8 i::p,h=>simp [w5] at h
 | d8 o t ih =>
  intro x p u y z h
  match p,h with
  | [],h =>
   have h:(if u.sh=(Ty.d8 o t).sh then some (⟨u,y⟩:Sigma Ty.den) else none)=some z:=by cases o<;>exact h
   split at h
   ·rename_i e; cases h; exact e
   ·cases h
  | .idx i::p,h =>
   cases o with
   | false=>simp [w5] at h
   | true =>
    simp only [w5] at h;split at h
    ·split at h
     ·cases h; rfl
     ·cases h
    ·cases h
  | .l8 i::p,h=>cases o<;>simp [w5] at h
 | _ =>
  intro x p u y z h
  match p,h with
  | [],h =>
   simp only [w5] at h;split at h
   ·rename_i e; cases h; exact e
   ·cases h
  | .idx i::p,h=>simp [w5] at h
  | .l8 i::p,h=>simp [w5] at h
theorem Qk:∀ {t:Ty} {q:List Step} {b off:Nat} {O1:List Nat} {x:t.den},x7 H S t q b off O1 x ->
  ∀ {u0:Ty} {y0:u0.den},j9 t x q=some ⟨u0,y0⟩->∀ {b' ar:Nat},C2 H t q b off=some (b',ar) ->
  off+t.size<=(x8 H b).length->b<H.size->O1.Nodup->b∉O1->(∀ c∈O1,c<H.size) ->
  ∀ {u:Ty} {y:u.den} {z:Sigma Ty.den},X0 H H' b' ar u0.size->w5 t x q u y=some z ->
  ∀ {p:List Step},kp q p=true->B8 t x p->C2 H' z.1 p b off=C2 H t p b off/\B8 z.1 z.2 p:=by
 intro t
 induction t with
 | pair a c iha ihc =>
  intro q b off O1 x hR u0 y0 hg b' ar hn hb dD aN bQ cj u y z hc hz p hk ho
  match q,hR,hg,hn,hz,hk with
  | [],hR,hg,hn,hz,hk =>
   simp only [w5] at hz;split at hz
   ·rename_i e; cases hz; exact ⟨Ef e hk,DG e hk ho⟩
   ·cases hz
  | .l8 0::q,⟨P1,P2,e,h1,h2⟩,hg,hn,hz,hk =>
   subst e;simp only [w5] at hz;split at hz
   ·rename_i t' w hw
    cases hz;simp only [List.nodup_append,List.mem_append,not_or] at aN bQ;simp only [Ty.size] at hb;have br:=x7.range h1 hg hn
    match p,hk,ho with
    | [],_,_=>exact ⟨rfl,trivial⟩
    | .l8 0::p,hk,ho =>
     exact iha h1 hg hn (by omega) dD aN.1 bQ.1 (λ c hc=>cj c (by simp [hc])) hc hw (by simpa [kp] using hk) ho
    | .l8 (m+1)::p,_,ho =>
     have bc:t'.size=a.size:=G7 (VY hw);refine ⟨?_,ho⟩;simp only [C2,bc];refine zo h2 (by omega) ho ?_ ?_
     ·refine hc.cells dD (λ e=>?_)
      rcases br with ⟨_,g,g'⟩|g
      ·right; omega
      ·exact absurd (by simp [e,g]:b∈P1) bQ.1
     ·intro d hd
      refine hc.rest d ?_ (cj d (by simp [hd]));rintro rfl;rcases br with ⟨g,_⟩|g
      ·subst g; exact bQ.2 hd
      ·exact aN.2.2 _ g _ hd rfl
    | .idx i::p,hk,_=>simp [kp] at hk
   ·cases hz
  | .l8 (n+1)::q,⟨P1,P2,e,h1,h2⟩,hg,hn,hz,hk =>
   subst e;simp only [w5] at hz;split at hz
   ·rename_i t' w hw
    cases hz;simp only [List.nodup_append,List.mem_append,not_or] at aN bQ;simp only [Ty.size] at hb;have br:=x7.range h2 hg hn
    match p,hk,ho with
    | [],_,_=>exact ⟨rfl,trivial⟩
    | .l8 0::p,_,ho =>
     refine ⟨?_,ho⟩;simp only [C2];refine zo h1 (by omega) ho ?_ ?_
     ·refine hc.cells dD (λ e=>?_)
      rcases br with ⟨_,g,g'⟩|g
      ·left; omega
      ·exact absurd (by simp [e,g]:b∈P2) bQ.2
     ·intro d hd
      refine hc.rest d ?_ (cj d (by simp [hd]));rintro rfl;rcases br with ⟨g,_⟩|g
      ·subst g; exact bQ.1 hd
      ·exact aN.2.2 _ hd _ g rfl
    | .l8 (m+1)::p,hk,ho =>
     exact ihc h2 hg hn (by omega) dD aN.2.1 bQ.2 (λ c hc=>cj c (by simp [hc])) hc hw (by
      simp only [kp,Nat.add_right_cancel_iff] at hk ⊢; exact hk) ho
    | .idx i::p,hk,_=>simp [kp] at hk
   ·cases hz
  | .idx i::q,hR,_,_,_,_=>simp [x7] at hR
 | arr n t ih =>
  intro q b off O1 x hR u0 y0 hg b' ar hn hb dD aN bQ cj u y z hc hz p hk ho
  match q,hR,hg,hn,hz,hk with
  | [],hR,hg,hn,hz,hk =>
   simp only [w5] at hz;split at hz
   ·rename_i e; cases hz; exact ⟨Ef e hk,DG e hk ho⟩
   ·cases hz
  | .idx i::q,⟨hl,hi,P1,P2,P3,e,h1,h2,h3⟩,hg,hn,hz,hk =>
   subst e;simp only [w5] at hz;split at hz
   ·rename_i t' w hw
    split at hz
    ·rename_i ht; subst ht; cases hz
     simp only [List.nodup_append,List.mem_append,not_or] at aN bQ;obtain ⟨b1,b2,b3,b4⟩:=E7 (sz:=t'.size) hi;simp only [Ty.size] at hb;have br:=x7.range h2 hg hn
     match p,hk,ho with
     | [],_,_=>exact ⟨rfl,trivial⟩
     | .idx j::p,hk,ho =>
      obtain ⟨hj,ho⟩:=ho;obtain ⟨d1,d2,d3,d4⟩:=E7 (sz:=t'.size) hj;simp only [C2,B8];by_cases bS:i.toNat=j.toNat
      ·rw [<- bS] at ho ⊢
       have:=ih h2 hg hn (by omega) dD aN.2.1.1 bQ.2.1 (λ c hc=>cj c (by simp [hc])) hc hw (by simpa [kp] using hk) ho;refine ⟨this.1,hj,?_⟩;rw [xk,if_pos ⟨rfl,by rw [hl]; exact b1⟩];exact this.2
      ·rw [xk,if_neg (by simp [bS])]
       refine ⟨?_,hj,ho⟩;have bG:∀ d,(d∈P1\/d∈P3)->H'[d]?=H[d]?:=by
        intro d hd;refine hc.rest d ?_ (cj d (by rcases hd with h|h<;>simp [h]));rintro rfl;rcases br with ⟨g,_⟩|g
        ·subst g; rcases hd with h|h
         ·exact bQ.1 h
         ·exact bQ.2.2 h
        ·rcases hd with h|h
         ·exact aN.2.2 _ h _ (.inl g) rfl
         ·exact aN.2.1.2.2 _ g _ h rfl
       rcases Nat.lt_or_gt_of_ne bS with bj|fy
       ·
        have hd:j.toNat - (i.toNat+1)<(List.drop (i.toNat+1) x).length:=by simp only [List.length_drop]; omega
        obtain ⟨Q1,Q2,Q3,e,k1,k2,k3⟩:=j6.split (d:=t'.s8) hd h3;have e1:(i.toNat+1)*t'.size+(j.toNat - (i.toNat+1))*t'.size=j.toNat*t'.size:=by rw [<- Nat.add_mul]; congr 1; omega
        have hm:(j.toNat - (i.toNat+1))*t'.size+t'.size<=(n - (i.toNat+1))*t'.size:=by omega
        rw [o6,n8 _ _ _ _ (by omega),Nat.add_assoc,e1] at k2;have e2:(List.drop (i.toNat+1) x).getD (j.toNat - (i.toNat+1)) t'.s8=List.getD x j.toNat t'.s8:=by
         simp only [List.getD_eq_getElem?_getD,List.getElem?_drop];rw [show i.toNat+1+(j.toNat - (i.toNat+1))=j.toNat from by omega]
        rw [e2] at k2;refine zo k2 (by omega) ho ?_ (λ d hd=>bG d (.inr (by rw [e]; simp [hd])));refine hc.cells dD (λ e=>?_);rcases br with ⟨_,g,g'⟩|g
        ·right; omega
        ·exact absurd (by simp [e,g]:b∈P2) bQ.2.1
       ·have hd:j.toNat<(List.take i.toNat x).length:=by simp only [List.length_take]; omega
        obtain ⟨Q1,Q2,Q3,e,k1,k2,k3⟩:=j6.split (d:=t'.s8) hd h1;have hm:j.toNat*t'.size+t'.size<=i.toNat*t'.size:=by
         rw [<- Nat.succ_mul]; exact Nat.mul_le_mul_right _ (by omega)
        rw [o6,n8 _ _ _ _ (by omega)] at k2;have e2:(List.take i.toNat x).getD j.toNat t'.s8=List.getD x j.toNat t'.s8:=by
         simp only [List.getD_eq_getElem?_getD,List.getElem?_take];rw [if_pos (by omega)]
        rw [e2] at k2;refine zo k2 (by omega) ho ?_ (λ d hd=>bG d (.inl (by rw [e]; simp [hd])));refine hc.cells dD (λ e=>?_);rcases br with ⟨_,g,g'⟩|g
        ·left; omega
        ·exact absurd (by simp [e,g]:b∈P2) bQ.2.1
     | .l8 i::p,hk,_=>simp [kp] at hk
    ·cases hz
   ·cases hz
  | .l8 i::q,hR,_,_,_,_=>simp [x7] at hR
 | d8 o t ih =>
  intro q b off O1 x hR u0 y0 hg b' ar hn hb dD aN bQ cj u y z hc hz p hk ho
  match q,hR,hg,hn,hz,hk with
  | [],hR,hg,hn,hz,hk =>
   have hz:(if u.sh=(Ty.d8 o t).sh then some (⟨u,y⟩:Sigma Ty.den) else none)=some z:=by cases o<;>exact hz
   split at hz
   ·rename_i e; cases hz; exact ⟨Ef e hk,DG e hk ho⟩
   ·cases hz
  | .idx i::q,hR,hg,hn,hz,hk =>
   cases o with
   | false=>simp [x7] at hR
   | true =>
    obtain ⟨hi,c1,o1,cap,P1,P2,P3,e,e1,e2,e3,e4,e5,e6,e7⟩:=hR;subst e;simp only [C2,e1] at hn;simp only [w5] at hz;split at hz
    ·rename_i t' w hw
     split at hz
     ·rename_i ht; subst ht; cases hz
      simp only [List.nodup_append,List.mem_append,List.nodup_cons,List.mem_cons,not_or] at aN bQ;obtain ⟨b1,b2,b3,b4⟩:=E7 (sz:=t'.size) hi;have cT:List.length x*t'.size<=cap*t'.size:=Nat.mul_le_mul_right _ e2;have qj:=e4.free.x8;have dP:c1<H.size:=cj c1 (by simp);have br:=x7.range e6 hg hn;have eA:b≠b':=by
       rintro rfl;rcases br with ⟨g,_⟩|g
       ·exact bQ.1 g
       ·exact bQ.2.2.1 g
      have lp:(x8 H' b)[off]?=some (.slice (some ⟨c1,o1,none⟩) (List.length x) cap):=by
       rw [Q4 (hc.rest b eA dD)]; exact e1
      match p,hk,ho with
      | [],_,_=>exact ⟨rfl,trivial⟩
      | .idx j::p,hk,ho =>
       obtain ⟨hj,ho⟩:=ho;obtain ⟨d1,d2,d3,d4⟩:=E7 (sz:=t'.size) hj;simp only [C2,B8,e1,lp,List.length_set];by_cases bS:i.toNat=j.toNat
       ·rw [<- bS] at ho ⊢
        have:=ih e6 hg hn (by omega) dP aN.2.2.1.1 aN.1.2.1 (λ c hc=>cj c (by simp [hc])) hc hw (by simpa [kp] using hk) ho;refine ⟨this.1,hj,?_⟩;rw [xk,if_pos ⟨rfl,b1⟩];exact this.2
       ·rw [xk,if_neg (by simp [bS])]
        refine ⟨?_,hj,ho⟩;have bG:∀ d,(d∈P1\/d∈P3)->H'[d]?=H[d]?:=by
         intro d hd;refine hc.rest d ?_ (cj d (by rcases hd with h|h<;>simp [h]));rintro rfl;rcases br with ⟨g,_⟩|g
         ·subst g; rcases hd with h|h
          ·exact aN.1.1 h
          ·exact aN.1.2.2 h
         ·rcases hd with h|h
          ·exact aN.2.2.2 _ h _ (.inl g) rfl
          ·exact aN.2.2.1.2.2 _ g _ h rfl
        rcases Nat.lt_or_gt_of_ne bS with bj|fy
        ·have hd:j.toNat - (i.toNat+1)<(List.drop (i.toNat+1) x).length:=by simp only [List.length_drop]; omega
         obtain ⟨Q1,Q2,Q3,e,k1,k2,k3⟩:=j6.split (d:=t'.s8) hd e7;have f1:(i.toNat+1)*t'.size+(j.toNat - (i.toNat+1))*t'.size=j.toNat*t'.size:=by rw [<- Nat.add_mul]; congr 1; omega
         have hm:(j.toNat - (i.toNat+1))*t'.size+t'.size<=(List.length x - (i.toNat+1))*t'.size:=by omega
         rw [o6,n8 _ _ _ _ (by omega),Nat.add_assoc,f1] at k2;have f2:(List.drop (i.toNat+1) x).getD (j.toNat - (i.toNat+1)) t'.s8=List.getD x j.toNat t'.s8:=by
          simp only [List.getD_eq_getElem?_getD,List.getElem?_drop];rw [show i.toNat+1+(j.toNat - (i.toNat+1))=j.toNat from by omega]
         rw [f2] at k2;refine zo k2 (by omega) ho ?_ (λ d hd=>bG d (.inr (by rw [e]; simp [hd])));refine hc.cells dP (λ e=>?_);rcases br with ⟨_,g,g'⟩|g
         ·right; omega
         ·exact absurd (by simp [e,g]:c1∈P2) aN.1.2.1
        ·have hd:j.toNat<(List.take i.toNat x).length:=by simp only [List.length_take]; omega
         obtain ⟨Q1,Q2,Q3,e,k1,k2,k3⟩:=j6.split (d:=t'.s8) hd e5;have hm:j.toNat*t'.size+t'.size<=i.toNat*t'.size:=by
          rw [<- Nat.succ_mul]; exact Nat.mul_le_mul_right _ (by omega)
         rw [o6,n8 _ _ _ _ (by omega)] at k2;have f2:(List.take i.toNat x).getD j.toNat t'.s8=List.getD x j.toNat t'.s8:=by
          simp only [List.getD_eq_getElem?_getD,List.getElem?_take];rw [if_pos (by omega)]
         rw [f2] at k2;refine zo k2 (by omega) ho ?_ (λ d hd=>bG d (.inl (by rw [e]; simp [hd])));refine hc.cells dP (λ e=>?_);rcases br with ⟨_,g,g'⟩|g
         ·left; omega
         ·exact absurd (by simp [e,g]:c1∈P2) aN.1.2.1
      | .l8 i::p,hk,_=>simp [kp] at hk
     ·cases hz
    ·cases hz
  | .l8 i::q,hR,_,_,_,_=>cases o<;>simp [x7] at hR
 | _ =>
  intro q b off O1 x hR u0 y0 hg b' ar hn hb dD aN bQ cj u y z hc hz p hk ho
  match q,hR,hg,hn,hz,hk with
  | [],hR,hg,hn,hz,hk =>
   simp only [w5] at hz;split at hz
   ·rename_i e; cases hz; exact ⟨Ef e hk,DG e hk ho⟩
   ·cases hz
  | .idx i::q,hR,_,_,_,_=>simp [x7] at hR
  | .l8 i::q,hR,_,_,_,_=>simp [x7] at hR
end
end Go.Ex
namespace Go.Ex
def kc:Ty->List Step->List Step->Bool
 | .pair a _,.l8 0::q,.l8 0::p=>kc a q p
 | .pair _ _,.l8 0::_,.l8 (_+1)::_=>true
 | .pair _ _,.l8 (_+1)::_,.l8 0::_=>true
 | .pair _ b,.l8 (n+1)::q,.l8 (m+1)::p=>kc b (.l8 n::q) (.l8 m::p)
 | .arr _ t,.idx _::q,.idx _::p=>kc t q p
 | .d8 true t,.idx _::q,.idx _::p=>kc t q p
 | .d8 true _,.idx _::_,[]=>true
 | _,_,_=>false
section
variable {H H':Array Go.Obj} {S S':Nat->Prop}
theorem ZT:∀ {t:Ty} {q:List Step} {b off:Nat} {O1:List Nat} {x:t.den},x7 H S t q b off O1 x ->
  ∀ {u0:Ty} {y0:u0.den},j9 t x q=some ⟨u0,y0⟩->∀ {b' ar:Nat},C2 H t q b off=some (b',ar) ->
  off+t.size<=(x8 H b).length->b<H.size->O1.Nodup->b∉O1->(∀ c∈O1,c<H.size) ->
  ∀ {u:Ty} {y:u.den} {z:Sigma Ty.den},X0 H H' b' ar u0.size->w5 t x q u y=some z ->
  ∀ {p:List Step},kc t q p=true->B8 t x p->∀ {u1:Ty} {y1:u1.den},j9 t x p=some ⟨u1,y1⟩ ->
  (∃ y2:u1.den,j9 z.1 z.2 p=some ⟨u1,y2⟩)/\∀ b1 o1,C2 H t p b off=some (b1,o1)->e8 H' b1 o1 u1.size=e8 H b1 o1 u1.size:=by
 intro t
 induction t with
 | pair a c iha ihc =>
  intro q b off O1 x hR u0 y0 hg b' ar hn hb dD aN bQ cj u y z hc hz p hk ho u1 y1 dA
  match q,hR,hg,hn,hz,hk with
  | [],_,_,_,_,hk=>simp [kc] at hk
  | .l8 0::q,⟨P1,P2,e,h1,h2⟩,hg,hn,hz,hk =>
   subst e;simp only [w5] at hz;split at hz
   ·rename_i t' w hw
    cases hz;simp only [List.nodup_append,List.mem_append,not_or] at aN bQ;simp only [Ty.size] at hb;have br:=x7.range h1 hg hn
    match p,hk,ho,dA with
    | [],hk,_,_=>simp [kc] at hk
    | .l8 0::p,hk,ho,dA =>
     exact iha h1 hg hn (by omega) dD aN.1 bQ.1 (λ c hc=>cj c (by simp [hc])) hc hw (by simpa [kc] using hk) ho dA
    | .l8 (m+1)::p,_,ho,dA =>
     refine ⟨⟨y1,dA⟩,λ b1 o1 fq=>?_⟩;refine zi h2 (by omega) ho ?_ ?_ dA fq
     ·refine hc.cells dD (λ e=>?_)
      rcases br with ⟨_,g,g'⟩|g
      ·right; omega
      ·exact absurd (by simp [e,g]:b∈P1) bQ.1
     ·intro d hd
      refine hc.rest d ?_ (cj d (by simp [hd]));rintro rfl;rcases br with ⟨g,_⟩|g
      ·subst g; exact bQ.2 hd
      ·exact aN.2.2 _ g _ hd rfl
    | .idx i::p,hk,_,_=>simp [kc] at hk
   ·cases hz
  | .l8 (n+1)::q,⟨P1,P2,e,h1,h2⟩,hg,hn,hz,hk =>
   subst e;simp only [w5] at hz;split at hz
   ·rename_i t' w hw
    cases hz;simp only [List.nodup_append,List.mem_append,not_or] at aN bQ;simp only [Ty.size] at hb;have br:=x7.range h2 hg hn
    match p,hk,ho,dA with
    | [],hk,_,_=>simp [kc] at hk
    | .l8 0::p,_,ho,dA =>
     refine ⟨⟨y1,dA⟩,λ b1 o1 fq=>?_⟩;refine zi h1 (by omega) ho ?_ ?_ dA fq
     ·refine hc.cells dD (λ e=>?_)
      rcases br with ⟨_,g,g'⟩|g
      ·left; omega
      ·exact absurd (by simp [e,g]:b∈P2) bQ.2
     ·intro d hd
      refine hc.rest d ?_ (cj d (by simp [hd]));rintro rfl;rcases br with ⟨g,_⟩|g
      ·subst g; exact bQ.1 hd
      ·exact aN.2.2 _ hd _ g rfl
    | .l8 (m+1)::p,hk,ho,dA =>
     exact ihc h2 hg hn (by omega) dD aN.2.1 bQ.2 (λ c hc=>cj c (by simp [hc])) hc hw (by simpa [kc] using hk) ho dA
    | .idx i::p,hk,_,_=>simp [kc] at hk
   ·cases hz
  | .idx i::q,hR,_,_,_,_=>simp [x7] at hR
 | arr n t ih =>
  intro q b off O1 x hR u0 y0 hg b' ar hn hb dD aN bQ cj u y z hc hz p hk ho u1 y1 dA
  match q,hR,hg,hn,hz,hk with
  | [],_,_,_,_,hk=>simp [kc] at hk
  | .idx i::q,⟨hl,hi,P1,P2,P3,e,h1,h2,h3⟩,hg,hn,hz,hk =>
   subst e;simp only [w5] at hz;split at hz
   ·rename_i t' w hw
    split at hz
    ·rename_i ht; subst ht; cases hz
     simp only [List.nodup_append,List.mem_append,not_or] at aN bQ;obtain ⟨b1,b2,b3,b4⟩:=E7 (sz:=t'.size) hi;simp only [Ty.size] at hb;have br:=x7.range h2 hg hn
     match p,hk,ho,dA with
     | [],hk,_,_=>simp [kc] at hk
     | .idx j::p,hk,ho,dA =>
      obtain ⟨hj,ho⟩:=ho;obtain ⟨d1,d2,d3,d4⟩:=E7 (sz:=t'.size) hj;simp only [j9] at dA ⊢;simp only [C2];by_cases bS:i.toNat=j.toNat
      ·rw [<- bS] at ho dA ⊢
       rw [xk,if_pos ⟨rfl,by rw [hl]; exact b1⟩];exact ih h2 hg hn (by omega) dD aN.2.1.1 bQ.2.1 (λ c hc=>cj c (by simp [hc])) hc hw (by simpa [kc] using hk) ho dA
      ·rw [xk,if_neg (by simp [bS])]
       refine ⟨⟨y1,dA⟩,λ bb oo fq=>?_⟩;have bG:∀ d,(d∈P1\/d∈P3)->H'[d]?=H[d]?:=by
        intro d hd;refine hc.rest d ?_ (cj d (by rcases hd with h|h<;>simp [h]));rintro rfl;rcases br with ⟨g,_⟩|g
        ·subst g; rcases hd with h|h
         ·exact bQ.1 h
         ·exact bQ.2.2 h
        ·rcases hd with h|h
         ·exact aN.2.2 _ h _ (.inl g) rfl
         ·exact aN.2.1.2.2 _ g _ h rfl
       rcases Nat.lt_or_gt_of_ne bS with bj|fy
       ·have hd:j.toNat - (i.toNat+1)<(List.drop (i.toNat+1) x).length:=by simp only [List.length_drop]; omega
        obtain ⟨Q1,Q2,Q3,e,k1,k2,k3⟩:=j6.split (d:=t'.s8) hd h3;have e1:(i.toNat+1)*t'.size+(j.toNat - (i.toNat+1))*t'.size=j.toNat*t'.size:=by rw [<- Nat.add_mul]; congr 1; omega
        have hm:(j.toNat - (i.toNat+1))*t'.size+t'.size<=(n - (i.toNat+1))*t'.size:=by omega
        rw [o6,n8 _ _ _ _ (by omega),Nat.add_assoc,e1] at k2;have e2:(List.drop (i.toNat+1) x).getD (j.toNat - (i.toNat+1)) t'.s8=List.getD x j.toNat t'.s8:=by
         simp only [List.getD_eq_getElem?_getD,List.getElem?_drop];rw [show i.toNat+1+(j.toNat - (i.toNat+1))=j.toNat from by omega]
        rw [e2] at k2;refine zi k2 (by omega) ho ?_ (λ d hd=>bG d (.inr (by rw [e]; simp [hd]))) dA fq;refine hc.cells dD (λ e=>?_);rcases br with ⟨_,g,g'⟩|g
        ·right; omega
        ·exact absurd (by simp [e,g]:b∈P2) bQ.2.1
       ·have hd:j.toNat<(List.take i.toNat x).length:=by simp only [List.length_take]; omega
        obtain ⟨Q1,Q2,Q3,e,k1,k2,k3⟩:=j6.split (d:=t'.s8) hd h1;have hm:j.toNat*t'.size+t'.size<=i.toNat*t'.size:=by
         rw [<- Nat.succ_mul]; exact Nat.mul_le_mul_right _ (by omega)
        rw [o6,n8 _ _ _ _ (by omega)] at k2;have e2:(List.take i.toNat x).getD j.toNat t'.s8=List.getD x j.toNat t'.s8:=by
         simp only [List.getD_eq_getElem?_getD,List.getElem?_take];rw [if_pos (by omega)]
        rw [e2] at k2;refine zi k2 (by omega) ho ?_ (λ d hd=>bG d (.inl (by rw [e]; simp [hd]))) dA fq;refine hc.cells dD (λ e=>?_);rcases br with ⟨_,g,g'⟩|g
        ·left; omega
        ·exact absurd (by simp [e,g]:b∈P2) bQ.2.1
     | .l8 i::p,hk,_,_=>simp [kc] at hk
    ·cases hz
   ·cases hz
  | .l8 i::q,hR,_,_,_,_=>simp [x7] at hR
 | d8 o t ih =>
  intro q b off O1 x hR u0 y0 hg b' ar hn hb dD aN bQ cj u y z hc hz p hk ho u1 y1 dA
  match q,hR,hg,hn,hz,hk with
  | [],_,_,_,_,hk=>cases o<;>simp [kc] at hk
  | .idx i::q,hR,hg,hn,hz,hk =>
   cases o with
   | false=>simp [x7] at hR
   | true =>
    obtain ⟨hi,c1,o1,cap,P1,P2,P3,e,e1,e2,e3,e4,e5,e6,e7⟩:=hR;subst e;simp only [C2,e1] at hn;simp only [w5] at hz;split at hz
    ·rename_i t' w hw
     split at hz
     ·rename_i ht; subst ht; cases hz
      simp only [List.nodup_append,List.mem_append,List.nodup_cons,List.mem_cons,not_or] at aN bQ;obtain ⟨b1,b2,b3,b4⟩:=E7 (sz:=t'.size) hi;have cT:List.length x*t'.size<=cap*t'.size:=Nat.mul_le_mul_right _ e2;have qj:=e4.free.x8;have dP:c1<H.size:=cj c1 (by simp);have br:=x7.range e6 hg hn;have eA:b≠b':=by
       rintro rfl;rcases br with ⟨g,_⟩|g
       ·exact bQ.1 g
       ·exact bQ.2.2.1 g
      match p,hk,ho,dA with
      | [],_,_,dA =>
       simp only [j9,Option.some.injEq] at dA;cases dA;refine ⟨⟨_,rfl⟩,λ bb oo fq=>?_⟩;simp only [C2,Option.some.injEq] at fq;cases fq;exact l6 (hc.rest b eA dD) _ _
      | .idx j::p,hk,ho,dA =>
       obtain ⟨hj,ho⟩:=ho;obtain ⟨d1,d2,d3,d4⟩:=E7 (sz:=t'.size) hj;simp only [j9] at dA ⊢;simp only [C2,e1];by_cases bS:i.toNat=j.toNat
       ·rw [<- bS] at ho dA ⊢
        rw [xk,if_pos ⟨rfl,b1⟩];exact ih e6 hg hn (by omega) dP aN.2.2.1.1 aN.1.2.1 (λ c hc=>cj c (by simp [hc])) hc hw (by simpa [kc] using hk) ho dA
       ·rw [xk,if_neg (by simp [bS])]
        refine ⟨⟨y1,dA⟩,λ bb oo fq=>?_⟩;have bG:∀ d,(d∈P1\/d∈P3)->H'[d]?=H[d]?:=by
         intro d hd;refine hc.rest d ?_ (cj d (by rcases hd with h|h<;>simp [h]));rintro rfl;rcases br with ⟨g,_⟩|g
         ·subst g; rcases hd with h|h
          ·exact aN.1.1 h
          ·exact aN.1.2.2 h
         ·rcases hd with h|h
          ·exact aN.2.2.2 _ h _ (.inl g) rfl
          ·exact aN.2.2.1.2.2 _ g _ h rfl
        rcases Nat.lt_or_gt_of_ne bS with bj|fy
        ·have hd:j.toNat - (i.toNat+1)<(List.drop (i.toNat+1) x).length:=by simp only [List.length_drop]; omega
         obtain ⟨Q1,Q2,Q3,e,k1,k2,k3⟩:=j6.split (d:=t'.s8) hd e7;have f1:(i.toNat+1)*t'.size+(j.toNat - (i.toNat+1))*t'.size=j.toNat*t'.size:=by rw [<- Nat.add_mul]; congr 1; omega
         have hm:(j.toNat - (i.toNat+1))*t'.size+t'.size<=(List.length x - (i.toNat+1))*t'.size:=by omega
         rw [o6,n8 _ _ _ _ (by omega),Nat.add_assoc,f1] at k2;have f2:(List.drop (i.toNat+1) x).getD (j.toNat - (i.toNat+1)) t'.s8=List.getD x j.toNat t'.s8:=by
          simp only [List.getD_eq_getElem?_getD,List.getElem?_drop];rw [show i.toNat+1+(j.toNat - (i.toNat+1))=j.toNat from by omega]
         rw [f2] at k2;refine zi k2 (by omega) ho ?_ (λ d hd=>bG d (.inr (by rw [e]; simp [hd]))) dA fq;refine hc.cells dP (λ e=>?_);rcases br with ⟨_,g,g'⟩|g
         ·right; omega
         ·exact absurd (by simp [e,g]:c1∈P2) aN.1.2.1
        ·have hd:j.toNat<(List.take i.toNat x).length:=by simp only [List.length_take]; omega
         obtain ⟨Q1,Q2,Q3,e,k1,k2,k3⟩:=j6.split (d:=t'.s8) hd e5;have hm:j.toNat*t'.size+t'.size<=i.toNat*t'.size:=by
          rw [<- Nat.succ_mul]; exact Nat.mul_le_mul_right _ (by omega)
         rw [o6,n8 _ _ _ _ (by omega)] at k2;have f2:(List.take i.toNat x).getD j.toNat t'.s8=List.getD x j.toNat t'.s8:=by
          simp only [List.getD_eq_getElem?_getD,List.getElem?_take];rw [if_pos (by omega)]
         rw [f2] at k2;refine zi k2 (by omega) ho ?_ (λ d hd=>bG d (.inl (by rw [e]; simp [hd]))) dA fq;refine hc.cells dP (λ e=>?_);rcases br with ⟨_,g,g'⟩|g
         ·left; omega
         ·exact absurd (by simp [e,g]:c1∈P2) aN.1.2.1
      | .l8 i::p,hk,_,_=>simp [kc] at hk
     ·cases hz
    ·cases hz
  | .l8 i::q,hR,_,_,_,_=>cases o<;>simp [x7] at hR
 | _ =>
  intro q b off O1 x hR u0 y0 hg b' ar hn hb dD aN bQ cj u y z hc hz p hk ho u1 y1 dA;cases q<;>simp [kc] at hk
end
end Go.Ex
