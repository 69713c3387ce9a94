import Derived.Test.YtekbamiaenbhjaaExK1
import Derived.Laws.Entries

namespace Go.Ex

def look {α:Type _} (n:Nat):List (Nat×α)→Option α
 | []=>none
 | (m,x)::l=>match Nat.beq n m with|true=>some x|false=>look n l

def put {α:Type _} (n:Nat) (x:α) (l:List (Nat×α)):List (Nat×α) :=
 match l with
 | []=>[(n,x)]
 | (m,y)::l=>match Nat.beq n m with
  | true=>(n,x)::l
  | false=>match Nat.blt n m with
   | true=>(n,x)::(m,y)::l
   | false=>(m,y)::put n x l

def del {α:Type _} (n:Nat):List (Nat×α)→List (Nat×α)
 | []=>[]
 | (m,y)::l=>match Nat.beq n m with|true=>del n l|false=>(m,y)::del n l

/-! ### types against the program's table -/
structure TI where
 ty:Ty
 by_:Nat

def zc:Ty→List Value
 | .int k=>[.int k 0]
 | .bool=>[.bool false]
 | .str=>[.string ⟨#[]⟩]
 | .unit=>[]
 | .fn _=>[.nilFunc]
 | .map _ _ _=>[.map none]
 | .box _ g _=>[b3E g]
 | .pair a b=>zc a++zc b
 | .arr n t=>(List.replicate n (zc t)).flatten
 | .d0 _ _|.hole _|.r7 _=>[.slice none 0 0]

def eqS:Value→Value→Bool
 | .int k n,.int k' n'=>decide (k=k') && decide (n=n')
 | .bool a,.bool b=>a == b
 | .string a,.string b=>a.data.size == 0 && b.data.size == 0
 | .slice none a b,.slice none c d=>Nat.beq a c && Nat.beq b d
 | .nilFunc,.nilFunc=>true
 | .map none,.map none=>true
 | .pointer none,.pointer none=>true
 | _,_=>false

def eqL:List Value→List Value→Bool
 | [],[]=>true
 | a::l,b::m=>eqS a b && eqL l m
 | _,_=>false

def eqV:Value→Value→Bool
 | .agg a,.agg b=>eqL a.toList b.toList
 | a,b=>eqS a b

def Ty.al:Ty→Nat
 | .int k=>k.bits / 8
 | .bool=>1
 | .str|.d0 _ _|.fn _|.map _ _ _|.box _ _ _|.hole _|.r7 _=>8
 | .unit=>1
 | .pair a b=>Nat.max a.al b.al
 | .arr _ t=>t.al

def rup (n a:Nat):Nat:=(n+(a - 1)) / a*a

mutual
def Ty.wb:Ty→Nat
 | .int k=>k.bits / 8
 | .bool=>1
 | .str=>16
 | .d0 _ _|.hole _|.r7 _=>24
 | .fn _=>8
 | .map _ _ _=>8
 | .box _ _ _=>8
 | .unit=>0
 | .pair a b=>rup (b.a4z (rup 0 a.al+a.wb)) (Nat.max a.al b.al)
 | .arr n t=>n*t.wb
def Ty.a4z:Ty→Nat→Nat
 | .pair a b,o=>b.a4z (rup o a.al+a.wb)
 | _,o=>o
end

def l8 (ck:TypeId→Ty→Bool):List Field→Nat→Ty→Bool
 | [],_,.unit=>true
 | f::fs,off,.pair a b=>Nat.beq f.offset off && Nat.ble 1 a.size && ck f.type a && f.name != "_" && l8 ck fs (off+a.size) b
 | _,_,_=>false

def n7 (P:Program):Nat→TypeId→Ty→Bool
 | 0,_,_=>false
 | n+1,T,t =>
  (match P.info? T with
  | some i=>Nat.beq i.size t.size && Nat.beq i.bytes t.wb && (match i.zero with|some z=>eqV z (j7 t (zc t))|none=>false)
  | none=>false) &&
  match P.underlying T,t with
  | some .bool,.bool=>true
  | some (.int k),.int k'=>decide (k=k')
  | some .string,.str=>true
  | some (.func _ _ _),.fn _=>true
  | some (.map K V),.map _ k v=>k.shared && v.shared && n7 P n K k && n7 P n V v
  | some (.pointer e),.box _ none t=>n7 P n e t
  | some (.func _ _ _),.box _ (some _) _=>true
  | some (.struct fs),t=>l8 (n7 P n) fs.toList 0 t
  | some (.array m e),.arr m' t=>Nat.beq m m' && Nat.ble 1 t.size && n7 P n e t
  | some (.slice e),.d0 _ t=>Nat.ble 1 t.size && n7 P n e t
  | some (.slice e),.hole t=>Nat.ble 1 t.size && n7 P n e t
  | some (.slice e),.r7 t=>Nat.ble 1 t.size && n7 P n e t
  | _,_=>false

def a52 (P:Program) (x:TypeId×TI):Bool:=n7 P 100 x.1 x.2.ty && Nat.beq (P.bytesOf x.1) x.2.by_

/-! ### abstract values -/
inductive AV where
 | any
 | raw (v:Value)
 | val (t:Ty) (x:t.den)
 | ptr (i:Nat) (p:List Step)
 | N1 (t:Ty) (x:t.den)
 | at_ (i:Nat) (p:List Step)
 | sub (i:Nat) (p:List Step) (lo hi:Int)
 | nil
 | cons (a b:AV)
 | F0 (l:AV)
 | y7 (f:FuncId) (l:AV)
 | bx (l:AV)
 | rc (f:FuncId) (l:AV)

inductive f9 where
 | var (t:Ty) (x:t.den)
 | own (t:Ty) (x:t.den)
 | E8

def f9.ty:f9→Ty|.var t _=>t|.own t _=>t|.E8=>.unit
def f9.x:(e:f9)→e.ty.den|.var _ x=>x|.own _ x=>x|.E8=>()
def f9.w4 (e:f9) (r:Sigma Ty.den):f9:=match e with|.var _ _=>.var r.1 r.2|.own _ _=>.own r.1 r.2|.E8=>.E8
def f9.O5:f9→Bool|.own _ _=>true|_=>false
def f9.kd (e:f9):Bool×Ty:=(e.O5,e.ty)

structure St where
 fr:List (Nat×AV)
 hp:List (Nat×f9)

def St.get (s:St) (t:Nat):AV:=(look t s.fr).getD .any
def St.obj (s:St) (i:Nat):Option f9:=look i s.hp

def St.put (s:St) (d:Option Nat) (v:AV):St :=
 match d with
 | some t=>{ s with fr:=Ex.put t v s.fr }
 | none=>s

def AV.e8 (i:Nat):AV→Bool
 | .ptr j _|.at_ j _|.sub j _ _ _=>Nat.beq i j
 | .cons a b=>a.e8 i || b.e8 i
 | .F0 l|.y7 _ l|.bx l|.rc _ l=>l.e8 i
 | _=>false

def AV.map (f:AV→AV):AV→AV
 | .ptr j p=>f (.ptr j p)
 | .at_ j p=>f (.at_ j p)
 | .sub j p a b=>f (.sub j p a b)
 | .cons a b=>.cons (a.map f) (b.map f)
 | .F0 l=>.F0 (l.map f)
 | .y7 g l=>.y7 g (l.map f)
 | .bx l=>.bx (l.map f)
 | .rc g l=>.rc g (l.map f)
 | v=>v

def AV.drop (i:Nat):AV→AV:=AV.map fun v=>match v.e8 i with|true=>.any|false=>v

def AV.a0b (i:Nat) (ow:Bool×Ty) (q:List Step) (v:AV):AV :=
 match v.e8 i with
 | false=>v
 | true=>match v with
  | .ptr j p=>match kp q p with|true=>.ptr j p|false=>.any
  | .at_ j []=>match ow.1,q with
   | true,.idx _::_=>.at_ j []
   | _,_=>match kc ow.2 q [] with|true=>.at_ j []|false=>.any
  | .at_ j (st::p)=>match kc ow.2 q (st::p) && kp q (st::p) with|true=>.at_ j (st::p)|false=>.any
  | .sub j [] a b=>match ow.1,q with
   | true,.idx _::_=>.sub j [] a b
   | _,_=>.any
  | _=>.any

def AV.kill (i:Nat) (ow:Bool×Ty) (q:List Step):AV→AV:=AV.map (AV.a0b i ow q)

def mapA {α:Type _} (f:α→α):List (Nat×α)→List (Nat×α)
 | []=>[]
 | (n,x)::l=>(n,f x)::mapA f l

def St.drop (i:Nat) (s:St):St:={ fr:=mapA (AV.drop i) s.fr,hp:=del i s.hp }
def St.kill (i:Nat) (ow:Bool×Ty) (q:List Step) (s:St):St:={ s with fr:=mapA (AV.kill i ow q) s.fr }
def St.p7:List Nat→St→St
 | [],s=>s
 | i::l,s=>St.p7 l (s.drop i)
def St.o7 (s:St) (i:Nat) (e:f9):St:={ s with hp:=Ex.put i e s.hp }

def U1 (i:Nat):List (Nat×AV)→Bool
 | []=>true
 | (_,v)::l=>!v.e8 i && U1 i l

def St.fresh (s:St) (i:Nat):Bool:=(look i s.hp).isNone && U1 i s.fr

/-! ### contracts -/
inductive PK where
 | v (t:Ty)
 | rd (t:Ty)
 | y7 (f:FuncId) (ts:List Ty)
 | own (t:Ty)
 | rw (t:Ty)
 | mu (t:Ty)
 | L5
 | R8 (f:FuncId) (n:Nat)
 | el (q:List Step)

def DL:List Ty→Type
 | []=>Unit
 | t::ts=>t.den×DL ts

def PK.den:PK→Type
 | .v t=>t.den
 | .rd t=>t.den
 | .y7 _ ts=>DL ts
 | .own t=>t.den
 | .rw t=>t.den
 | .mu t=>List t.den
 | .L5=>Unit
 | .R8 _ _=>Unit
 | .el _=>Int

def DK:List PK→Type
 | []=>Unit
 | k::ks=>k.den×DK ks

def u6:List PK→List Ty
 | []=>[]
 | .rw t::ks=>t::u6 ks
 | .mu t::ks=>.d0 true t::u6 ks
 | _::ks=>u6 ks

def DL.app:{a b:List Ty}→DL a→DL b→DL (a++b)
 | [],_,_,y=>y
 | _::_,_,x,y=>(x.1,DL.app x.2 y)

structure D4 where
 ps:List PK
 rs:List Ty
 pre:DK ps→Prop
 fn:DK ps→DL rs
 out:DK ps→DL (u6 ps)
 new:Bool:=false

structure Env where
 P:Program
 tt:List (TypeId×TI)
 G8:List (FuncId×D4)
 res:List ResultVar
 rs:List Ty
 ps:List PK
 J6:List (Nat×List (Nat×Option Ty))
 nt:Nat
 keeps:List (FuncId×List (Option Nat)):=[]
 gp:Option (List Step):=none

inductive Tree (rs:List Ty) where
 | n8 (p:Prop) (t:Tree rs)
 | both (p:Prop) (a b:Tree rs)
 | cut (c:Code) (k:List Item) (s:St)
 | ret (y:DL rs)
 | stuck (why:String)

def Tree.holds {rs:List Ty} (L:Code→List Item→St→Prop) (R:DL rs→Prop):Tree rs→Prop
 | .n8 p t=>p∧(p→t.holds L R)
 | .both p a b=>(p→a.holds L R)∧b.holds L R
 | .cut c k s=>L c k s
 | .ret y=>R y
 | .stuck _=>False

inductive OR where
 | fail (why:String)
 | ok (v:AV) (s:St)
 | B1 (p:Prop) (v:AV) (s:St)

theorem A7:∀ t:Ty,t.sh.den=t.den:=by
 intro t
 induction t with
 | pair a b iha ihb=>simp only [Ty.sh,Ty.den,iha,ihb]
 | arr n t ih=>simp only [Ty.sh,Ty.den,ih]
 | d0 o t ih=>simp only [Ty.sh,Ty.den,ih]
 | hole t ih=>simp only [Ty.sh,Ty.den,ih]
 | r7 t ih=>simp only [Ty.sh,Ty.den,ih]
 | box o g t ih=>simp only [Ty.sh,Ty.den,ih]
 | _=>rfl

theorem a3i:∀ t:Ty,t.shH.den=t.den:=by
 intro t
 induction t with
 | pair a b iha ihb=>simp only [Ty.shH,Ty.den,iha,ihb]
 | d0 o t ih=>simp only [Ty.shH,Ty.den,A7]
 | r7 t ih=>simp only [Ty.shH,Ty.den,A7]
 | arr n t ih=>simp only [Ty.shH,Ty.den,A7]
 | box o g t ih=>simp only [Ty.shH,Ty.den,A7]
 | _=>rfl

def AV.as (t:Ty):AV→Option t.den
 | .val u x=>if h:u=t then some (h▸x) else none
 | .raw (.slice none 0 0)=>match t with
  | .d0 _ _=>some []
  | _=>none
 | _=>none

def St.part (s:St) (i:Nat) (p:List Step):Option (Sigma Ty.den) :=
 match s.obj i with
 | some e=>i6 e.ty e.x p
 | none=>none

def Ty.rdT:Ty→Ty
 | .pair a b=>.pair a.rdT b.rdT
 | .arr n t=>.arr n t.rdT
 | .d0 _ t=>.d0 false t.rdT
 | .r7 t=>.d0 false t.sh
 | t=>t.sh

def Ty.okM:Ty→Bool
 | .pair a b=>a.okM && b.okM
 | .arr _ t=>t.okM
 | .d0 _ t=>t.okM
 | .r7 t=>t.M8
 | t=>t.M8

theorem a7B:∀ t:Ty,t.M8=true→t.rdT=t.sh:=by
 intro t
 induction t with
 | pair a b iha ihb=>intro h; simp only [Ty.M8,Bool.and_eq_true] at h; simp only [Ty.rdT,Ty.sh,iha h.1,ihb h.2]
 | arr n t ih=>intro h; simp only [Ty.rdT,Ty.sh,ih h]
 | d0 o t ih=>intro h; simp only [Ty.rdT,Ty.sh,ih h]
 | r7 t ih=>intro h; cases h
 | _=>intro h; rfl

theorem a0e {t:Ty} (h:t.M8=true):t.den=t.rdT.den:=by rw [a7B t h,A7]

def rdV:(t:Ty)→t.den→t.rdT.den
 | .pair a b,x=>(rdV a x.1,rdV b x.2)
 | .arr _ t,l=>if h:t.M8=true then cast (congrArg List (a0e h)) l else List.map (rdV t) l
 | .d0 _ t,l=>if h:t.M8=true then cast (congrArg List (a0e h)) l else List.map (rdV t) l
 | .r7 t,x=>cast (congrArg List (A7 t).symm) x.2.1
 | .int _,x=>x
 | .bool,x=>x
 | .str,x=>x
 | .unit,x=>x
 | .fn _,x=>x
 | .map _ _ _,x=>x
 | .box _ _ t,x=>cast (congrArg Option (A7 t).symm) x
 | .hole t,x=>cast (congrArg List (A7 t).symm) x

def shF (n:Nat):Nat:=match n with|0=>0|1=>0|_=>3

def rdS (a t:Ty) (x:(Ty.r7 a).den):Option t.den :=
 match t with
 | .r7 b=>if h:a.sh=b then (match a.M8 with
  | true=>some (shF x.1,h▸cast (congrArg List (A7 a).symm) x.2.1,h▸cast (congrArg List (A7 a).symm) x.2.2)
  | false=>none) else none
 | _=>none

def rdM (t:Ty) (u:Ty) (y:u.den):Option t.den :=
 match u.okM with
 | true=>if h:u.rdT=t then some (h▸rdV u y) else (match u,y with
  | .r7 a,y=>rdS a t y
  | _,_=>none)
 | false=>none

def a1N (t:Ty) (r:Option (Sigma Ty.den)):Option t.den :=
 match r with
 | some ⟨u,y⟩=>match u.okH with
  | true=>if h:u.shH=t then some (cast ((a3i u).symm.trans (congrArg Ty.den h)) y) else none
  | false=>rdM t u y
 | none=>none

def a1Q (u:Ty) (r:Sigma Ty.den):Sigma Ty.den :=
 match u,r with
 | .r7 a,⟨.d0 true b,z⟩=>if h:b=a then ⟨.r7 a,(1,h▸z,[])⟩ else ⟨.d0 true b,z⟩
 | .r7 a,⟨.d0 false b,z⟩=>if h:b=a then ⟨.r7 a,(0,h▸z,[])⟩ else ⟨.d0 false b,z⟩
 | _,r=>r

def Ty.a4G:Ty→Bool
 | .r7 _=>true
 | .pair a b=>a.a4G || b.a4G
 | _=>false

def F9:Ty→Sigma Ty.den→Sigma Ty.den
 | .r7 a,r=>a1Q (.r7 a) r
 | .pair a b,r=>match a.a4G || b.a4G,r with
  | true,⟨.pair c d,z⟩=>(match F9 a ⟨c,z.1⟩,F9 b ⟨d,z.2⟩ with
   | ⟨c',x⟩,⟨d',y⟩=>⟨.pair c' d',(x,y)⟩)
  | _,r=>r
 | _,r=>r

def St.a1a (s:St) (t:Ty) (i:Nat) (p:List Step):Option t.den:=a1N t (s.part i p)

def G1 {α:Type} (lo hi:Int) (l:List α):List α:=(l.drop lo.toNat).take (hi - lo).toNat

def St.view (s:St) (i:Nat) (p:List Step) (lo hi:Int):Option (Sigma fun t:Ty=>List t.den) :=
 match s.part i p with
 | some ⟨.d0 _ t,l⟩=>some ⟨t,G1 lo hi l⟩
 | some ⟨.arr _ t,l⟩=>some ⟨t,G1 lo hi l⟩
 | _=>none

def AV.asV (s:St) (t:Ty):AV→Option t.den
 | .at_ i p=>s.a1a t i p
 | .sub i p lo hi=>match s.view i p lo hi with
  | some ⟨u,l⟩=>a1N t (some ⟨.d0 true u,l⟩)
  | none=>none
 | .val u x=>if h:u=t then some (h▸x) else a1N t (some ⟨u,x⟩)
 | v=>v.as t

def AV.asR (s:St) (t:Ty):AV→Option t.den
 | .ptr i p=>s.a1a t i p
 | .N1 u x=>if h:u=t then some (h▸x) else none
 | .bx (.ptr i p)=>match t with
  | .box false none u=>(match s.a1a u i p with
   | some x=>some (some x)
   | none=>none)
  | _=>none
 | _=>none

def AV.a4W (s:St):(ts:List Ty)→AV→Option (DL ts)
 | [],.nil=>some ()
 | t::ts,.cons a b=>match a.asR s t,AV.a4W s ts b with
  | some x,some y=>some (x,y)
  | _,_=>none
 | _,_=>none

def D8 {u t:Ty} (h:u=t) (x:u.den):t.den:=h▸x

def AV.L6 (s:St):AV→Option (Sigma Ty.den×List Nat)
 | .val t x=>some (⟨t,x⟩,[])
 | .at_ i []=>match s.obj i with
  | some (.own t x)=>some (⟨t,x⟩,[i])
  | _=>none
 | .sub i [] lo hi=>match s.obj i with
  | some (.own (.d0 true t) x)=>some (⟨.d0 true t,G1 lo hi x⟩,[i])
  | _=>none
 | _=>none

def AV.T8 (s:St) (v:AV):Option (Sigma Ty.den×List Nat) :=
 match v with
 | .at_ i []=>match s.obj i with
  | some (.var t x)=>some (⟨t,x⟩,[i])
  | _=>(AV.at_ i []).L6 s
 | .y7 f .nil=>some (⟨.fn f,true⟩,[])
 | v=>v.L6 s

def AV.G4 (s:St) (k:PK) (v:AV):Option (k.den×List Nat×List Nat) :=
 match k with
 | .v t=>match v.asV s t with|some x=>some (x,[],[])|none=>none
 | .rd t=>match v.asR s t with|some x=>some (x,[],[])|none=>none
 | .y7 f ts=>match v with
  | .y7 g l=>match Nat.beq f g with
   | true=>match AV.a4W s ts l with|some x=>some (x,[],[])|none=>none
   | false=>none
  | _=>none
 | .L5=>match v with
  | .raw (.slice none 0 0)=>some ((),[],[])
  | _=>none
 | .own t=>match v with
  | .raw (.slice none 0 0)=>match v.as t with|some x=>some (x,[],[])|none=>none
  | v=>match v.T8 s with
   | some (⟨u,x⟩,l)=>if h:u=t then some (D8 h x,l,[]) else none
   | none=>none
 | .rw t=>match v with
  | .ptr i []=>match s.obj i with
   | some (.var u x)=>if h:u=t then some (D8 h x,[],[i]) else none
   | _=>none
  | _=>none
 | .mu t=>match v with
  | .at_ i []=>match s.obj i with
   | some (.own u x)=>if h:u=.d0 true t then some (D8 h x,[],[i]) else none
   | _=>none
  | _=>none
 | .R8 _ _=>none
 | .el _=>none

def AV.T5 (s:St):(ks:List PK)→AV→Option (DK ks×List Nat×List Nat)
 | [],.nil=>some ((),[],[])
 | k::ks,.cons a b=>match a.G4 s k,AV.T5 s ks b with
  | some (x,g,m),some (y,g',m')=>some ((x,y),g++g',m++m')
  | _,_=>none
 | _,_=>none

def AV.C2:AV→List Nat
 | .at_ i _|.ptr i _|.sub i _ _ _=>[i]
 | .cons a b=>a.C2++b.C2
 | .F0 l|.y7 _ l|.bx l|.rc _ l=>l.C2
 | _=>[]

def Ty.E2:Ty→Bool
 | .pair a b=>a.E2 && b.E2
 | .arr _ t=>t.E2
 | .d0 o t=>o && t.E2
 | .map o k v=>o && k.E2 && v.E2
 | .box o _ t=>o && t.E2
 | .r7 _=>false
 | _=>true

def AV.lst:AV→Bool
 | .nil=>true
 | .cons _ b=>b.lst
 | _=>false

def AV.app:AV→AV→AV
 | .cons a b,l=>.cons a (b.app l)
 | _,l=>l

def I0 (d j:Nat):Nat:=d+1000*(j+1)

def a0L (t:Ty) (x:t.den) (i:Nat):f9×AV :=
 match t,x with
 | .box true none u,some y=>(.var u y,.ptr i [])
 | .box true (some f) u,some y=>(.var u y,.y7 f (.cons (.ptr i []) .nil))
 | t,x=>(.own t x,.at_ i [])

def Q9:(ts:List Ty)→DL ts→Nat→Nat→List (Nat×f9)→Option (AV×List (Nat×f9))
 | [],_,_,_,hp=>some (.nil,hp)
 | t::ts,x,d,j,hp =>
  match t.shared with
  | true=>match Q9 ts x.2 d (j+1) hp with
   | some (l,hp')=>some (.cons (.val t x.1) l,hp')
   | none=>none
  | false=>match look (I0 d j) hp with
   | some _=>none
   | none=>match Q9 ts x.2 d (j+1) (Ex.put (I0 d j) (a0L t x.1 (I0 d j)).1 hp) with
    | some (l,hp')=>some (.cons (a0L t x.1 (I0 d j)).2 l,hp')
    | none=>none

def AV.one:AV→AV
 | .cons a .nil=>a
 | l=>.F0 l

def Z8 (d:Nat):Nat→List (Nat×AV)→Bool
 | 0,_=>true
 | j+1,fr=>U1 (I0 d j) fr && Z8 d j fr

def a0o:List Nat→Bool
 | []=>true
 | a::l=>!l.contains a && a0o l

def a92:List Nat→List Nat→Bool
 | [],_=>true
 | a::l,m=>!m.contains a && a92 l m

def a29 (d:Nat):Nat→List (Nat×f9)→Bool
 | 0,_=>true
 | j+1,hp=>(look (I0 d j) hp).isNone && a29 d j hp

def pinned (i:Nat):Bool:=Nat.ble 2000000 i

def a2k:List Step→Bool
 | []=>true
 | .i9 _::p=>a2k p
 | .idx _::_=>false

def AV.a0M (i:Nat) (ow:Bool) (v:AV):AV :=
 match v.e8 i with
 | false=>v
 | true=>match v with
  | .ptr j p=>match a2k p with|true=>.ptr j p|false=>.any
  | .at_ j []=>match ow with|true=>.at_ j []|false=>.any
  | .sub j [] a b=>match ow with|true=>.sub j [] a b|false=>.any
  | _=>.any

def St.N0 (i:Nat) (ow:Bool) (s:St):St:={ s with fr:=mapA (AV.map (AV.a0M i ow)) s.fr }

def wr (ks:List PK) (y:DL (u6 ks)) (m:List Nat) (s:St):Option St :=
 match ks,y,m with
 | [],_,[]=>some s
 | .rw t::ks,y,[i]=>match u6 ks with
  | []=>some ((s.N0 i false).o7 i (.var t y.1))
  | _=>none
 | .mu t::ks,y,[i]=>match u6 ks with
  | []=>some ((s.N0 i true).o7 i (.own (.d0 true t) y.1))
  | _=>none
 | .v _::ks,y,m=>wr ks y m s
 | .rd _::ks,y,m=>wr ks y m s
 | .y7 _ _::ks,y,m=>wr ks y m s
 | .own _::ks,y,m=>wr ks y m s
 | .L5::ks,y,m=>wr ks y m s
 | .R8 _ _::ks,y,m=>wr ks y m s
 | .el _::ks,y,m=>wr ks y m s
 | _,_,_=>none

def H7 (E:Env) (f:FuncId) (args:AV) (dst:Option Nat) (s:St):OR :=
 match look f E.G8 with
 | none=>.fail "call: no contract"
 | some c=>match AV.T5 s c.ps args with
  | none=>.fail "call: arguments"
  | some (x,g,m)=>match a0o (g++m) && a92 (g++m) (loose c.ps args) && (g.all fun i=>!pinned i) && (((c.rs.all Ty.E2 || c.new) && (u6 c.ps).all Ty.E2) || (match loose c.ps args with|[]=>true|_=>false)) && (Z8 (dst.getD 0) c.rs.length s.fr && a29 (dst.getD 0) c.rs.length s.hp) with
   | false=>.fail "call: objects"
   | true=>match wr c.ps (c.out x) m (St.p7 g s) with
    | none=>.fail "call: writing"
    | some s=>match Z8 (dst.getD 0) c.rs.length s.fr with
     | false=>.fail "call: names"
     | true=>match Q9 c.rs (c.fn x) (dst.getD 0) 0 s.hp with
      | some (l,hp)=>.B1 (c.pre x) l.one { s with hp:=hp }
      | none=>.fail "call: results"
where
 loose:List PK→AV→List Nat
  | .own _::ks,.cons _ b=>loose ks b
  | .rw _::ks,.cons _ b=>loose ks b
  | .mu _::ks,.cons _ b=>loose ks b
  | _::ks,.cons a b=>a.C2++loose ks b
  | _,_=>[]

/-! ### operations -/
def ofConst:Value→AV
 | .int k n=>if k.min≤n∧n≤k.max then .val (.int k) n else .raw (.int k n)
 | .bool b=>.val .bool b
 | .string s=>if s.data.size≤maxLen then .val .str s.data.toList else .raw (.string s)
 | v=>.raw v

abbrev D9:Nat:=5000000
def St.ev (s:St):Operand→AV
 | .tmp t=>match Nat.beq t D9 with
  | true=>.any
  | false=>s.get t
 | .const v=>ofConst v
 | .global _=>.any
 | .func f=>.y7 f .nil

def St.C8 (s:St):List Operand→AV
 | []=>.nil
 | x::l=>.cons (s.ev x) (s.C8 l)

def R5 (k:IntKind) (x y:Int):Int:=k.wrap (BitVec.ofInt k.bits x &&& BitVec.ofInt k.bits y).toNat
def bOr (k:IntKind) (x y:Int):Int:=k.wrap (BitVec.ofInt k.bits x ||| BitVec.ofInt k.bits y).toNat
def b0l (k:IntKind) (x y:Int):Int:=k.wrap (BitVec.ofInt k.bits x ^^^ BitVec.ofInt k.bits y).toNat
def p8 (k:IntKind) (x y:Int):Int:=k.wrap (BitVec.ofInt k.bits x &&& ~~~(BitVec.ofInt k.bits y)).toNat

def arith (k:IntKind) (r:Int) (s:St):OR :=
 match k with
 | .i64=>.B1 (A4 .i64 r) (.val (.int .i64) r) s
 | k=>.ok (.val (.int k) (k.wrap r)) s

def a6u (op:BinOp) (k:IntKind) (a:Int) (k':IntKind) (b:Int) (s:St):OR :=
 match op with
 | .shl=>.B1 (0≤b) (.val (.int k) (k.wrap (a*2^(min b.toNat k.bits)))) s
 | .shr=>.B1 (0≤b) (.val (.int k) (a / 2^(min b.toNat k.bits))) s
 | op =>
  if k=k' then
   match op with
   | .add=>arith k (a+b) s
   | .sub=>arith k (a - b) s
   | .mul=>arith k (a*b) s
   | .quo=>.B1 (0<b) (.val (.int k) (Int.tdiv a b)) s
   | .rem=>.B1 (0<b) (.val (.int k) (Int.tmod a b)) s
   | .and=>.ok (.val (.int k) (R5 k a b)) s
   | .or=>.ok (.val (.int k) (bOr k a b)) s
   | .xor=>.ok (.val (.int k) (b0l k a b)) s
   | .andNot=>.ok (.val (.int k) (p8 k a b)) s
   | .eql=>.ok (.val .bool (decide (a=b))) s
   | .neq=>.ok (.val .bool (decide (a≠b))) s
   | .lss=>.ok (.val .bool (decide (a<b))) s
   | .leq=>.ok (.val .bool (decide (a≤b))) s
   | .gtr=>.ok (.val .bool (decide (b<a))) s
   | .geq=>.ok (.val .bool (decide (b≤a))) s
   | _=>.fail "binop int"
  else .fail "binop kinds"

def a6t (op:BinOp) (a b:List UInt8) (s:St):OR :=
 match op with
 | .eql=>.ok (.val .bool (decide (a=b))) s
 | .neq=>.ok (.val .bool (decide (a≠b))) s
 | .add=>.B1 (a.length+b.length≤maxLen) (.val .str (a++b)) s
 | _=>.fail "binop string"

def Ty.J9:Ty→Ty
 | .pair a b=>.pair a.J9 b.J9
 | .arr n t=>.arr n t.J9
 | .d0 o t=>.d0 o t.J9
 | .box o g t=>.box o g t.J9
 | .r7 t=>.d0 false t.J9
 | .hole t=>.hole t.J9
 | t=>t

def D7 (E:Env) (T:TypeId) (u:Ty):Bool :=
 match look T E.tt with
 | some i=>decide (i.ty.J9.sh=u.J9.sh)
 | none=>false

def G0:(t:Ty)→t.den→t.den→Bool
 | .int _,x,y=>decide ((x:Int)=y)
 | .bool,x,y=>(x:Bool) == y
 | .str,x,y=>decide ((x:List UInt8)=y)
 | .unit,_,_=>true
 | .fn _,_,_=>false
 | .map _ _ _,_,_=>false
 | .box _ _ _,_,_=>false
 | .hole _,_,_=>false
 | .r7 _,_,_=>false
 | .pair a b,x,y=>G0 a x.1 y.1 && G0 b x.2 y.2
 | .arr _ t,x,y=>a6n (G0 t) x y
 | .d0 _ _,_,_=>false
where a6n {α:Type} (f:α→α→Bool):List α→List α→Bool
 | [],[]=>true
 | x::l,y::m=>f x y && a6n f l m
 | _,_=>false

def b72 (E:Env):Bool:=E.J6.any fun c=>Nat.beq c.1 999999

def a6s (W:Bool) (op:BinOp) (k:IntKind) (a:Int) (k':IntKind) (b:Int) (s:St):OR :=
 match W,op with
 | true,.add=>if k=k' then .ok (.val (.int k) (k.wrap (a+b))) s else .fail "binop kinds"
 | _,op=>a6u op k a k' b s

def a6v (E:Env) (T:TypeId) (op:BinOp) (x y:AV) (s:St):OR :=
 match x,y with
 | .val (.int k) a,.val (.int k') b=>a6s (b72 E) op k a k' b s
 | .val .bool a,.val .bool b =>
  match D7 E T .bool,op with
  | true,.eql=>.ok (.val .bool (a == b)) s
  | true,.neq=>.ok (.val .bool (a != b)) s
  | _,_=>.fail "binop bool"
 | .val .str a,.val .str b=>a6t op a b s
 | _,_=>.fail "binop"

def Ty.ht:Ty→Nat
 | .pair a b=>max (a.ht+1) b.ht
 | .arr _ t=>t.ht+1
 | _=>0

def a4M (ck:TypeId→Ty→Bool):List Field→Ty→Bool
 | [],.unit=>true
 | f::fs,.pair a b=>ck f.type a && a4M ck fs b
 | _,_=>false

def M3 (P:Program):Nat→TypeId→Ty→Bool
 | 0,_,_=>false
 | n+1,T,t=>match P.underlying T,t with
  | some (.struct fs),t=>!P.stoodInHeld T && a4M (M3 P n) fs.toList t
  | some (.array _ e),.arr _ t=>M3 P n e t
  | some .bool,.bool=>true
  | some (.int _),.int _=>true
  | some .string,.str=>true
  | _,_=>false

def eqA (E:Env) (T:TypeId) (op:BinOp) (t:Ty) (x:t.den) (u:Ty) (y:u.den) (s:St):OR :=
 if h:u=t then
  (match t.agg && D7 E T t && M3 E.P 100 T t && !(E.P.eqGuardType E.P.depth T) && Nat.blt t.ht 100,op with
  | true,.eql=>.ok (.val .bool (G0 t x (h▸y))) s
  | true,.neq=>.ok (.val .bool (!(G0 t x (h▸y)))) s
  | _,_=>.fail "eq")
 else .fail "eq: types"

def a3Y (E:Env) (T:TypeId) (op:BinOp) (x y:AV) (s:St):OR :=
 match x,y with
 | .val (.pair p q) a,.val u b=>eqA E T op (.pair p q) a u b s
 | .val (.arr n q) a,.val u b=>eqA E T op (.arr n q) a u b s
 | x,y=>a6v E T op x y s

def unA (op:UnOp) (x:AV) (s:St):OR :=
 match op,x with
 | .not,.val .bool b=>.ok (.val .bool (!b)) s
 | .neg,.val (.int k) a=>arith k (0 - a) s
 | .xor,.val (.int k) a=>.ok (.val (.int k) (b0l k (if k.signed then -1 else k.max) a)) s
 | _,_=>.fail "unop"

def Q8 (t:Ty) (i:Nat):List Step :=
 match t with
 | .arr _ _=>[.idx i]
 | _=>[.i9 i]

def K2 (s:St):Sigma Ty.den→List (Nat×Operand)→Option (Sigma Ty.den×List Nat)
 | r,[]=>some (r,[])
 | ⟨t,x⟩,(i,v)::parts =>
  match i6 t x (Q8 t i) with
  | none=>none
  | some ⟨u0,_⟩=>match s.ev v with
   | .raw (.slice none 0 0)=>(match u0 with
    | .d0 o u'=>(match m0 t x (Q8 t i) (.d0 o u') ([]:List u'.den) with
     | some r=>K2 s r parts
     | none=>none)
    | _=>none)
   | v=>(match v.T8 s with
    | some (⟨u,z⟩,g)=>(match m0 t x (Q8 t i) u z with
     | some r=>(match K2 s r parts with
      | some (r,g')=>some (r,g++g')
      | none=>none)
     | none=>none)
    | none=>none)

def a7W (s:St) (n:Nat) (t:Ty) (parts:List (Nat×Operand)):Option (Sigma Ty.den×List Nat) :=
 match K2 s ⟨.arr n t,(Ty.arr n t).n6⟩ parts with
 | some r=>some r
 | none=>K2 s ⟨.arr n t.sh,(Ty.arr n t.sh).n6⟩ parts

def St.lay (s:St) (d:Nat) (g:List Nat) (t:Ty) (x:t.den):OR :=
 match a0o g && (g.all fun i=>!pinned i) && s.fresh d with
 | false=>.fail "lay: objects"
 | true=>match (St.p7 g s).fresh d with
  | true=>.ok (.at_ d []) ((St.p7 g s).o7 d (.own t x))
  | false=>.fail "lay: name"

def OR.n8 (p:Prop):OR→OR
 | .ok v s=>.B1 p v s
 | r=>r

def OR.a42 (p:Prop):OR→OR
 | .ok v s=>.B1 (p∧True) v s
 | .B1 q v s=>.B1 (p∧q) v s
 | .fail y=>.fail y

def a0P (t:Ty) (i:Nat):Bool :=
 match t with
 | .arr n _=>Nat.blt i n
 | _=>true

def b6q:Option TI→Bool
 | some ⟨.box _ none _,_⟩=>true
 | some ⟨.fn _,_⟩=>true
 | _=>false

def K9 (E:Env) (T:TypeId) (a:AV) (s:St):OR :=
 match a with
 | .N1 t x=>match D7 E T t with|true=>.ok (.val t x) s|false=>.fail "load: type"
 | .bx l=>match b6q (look T E.tt) with
  | true=>.ok l s
  | false=>.fail "load: pointer"
 | .ptr i p=>match s.part i p with
  | some ⟨u,y⟩=>(match D7 E T u with
   | true=>(match u.shared with|true=>.ok (.val u y) s|false=>.ok (.at_ i p) s)
   | false=>.fail "load: type")
  | none=>.fail "load: path"
 | _=>.fail "load"

def Ty.X8:Ty→Ty
 | .pair a b=>.pair a.X8 b.X8
 | .d0 o t=>match o with
  | true=>.hole t
  | false=>.d0 false t
 | t=>t
def a9b:(t:Ty)→t.den→t.X8.den
 | .int _,x=>x
 | .bool,x=>x
 | .str,x=>x
 | .unit,x=>x
 | .fn _,x=>x
 | .map _ _ _,x=>x
 | .box _ _ _,x=>x
 | .pair a b,x=>(a9b a x.1,a9b b x.2)
 | .arr _ _,x=>x
 | .d0 true _,_=>[]
 | .d0 false _,x=>x
 | .hole _,x=>x
 | .r7 _,x=>x

def D5 (E:Env) (T:TypeId) (i:Nat) (p:List Step) (x:AV) (s:St):OR :=
 match s.obj i with
 | none=>.fail "store: object"
 | some e=>match i6 e.ty e.x p with
  | none=>.fail "store: path"
  | some ⟨u,y⟩=>match D7 E T u with
   | false=>.fail "store: type"
   | true=>match x with
    | .raw (.slice none 0 0)=>(match u with
     | .d0 o u'=>(match m0 e.ty e.x p (.d0 o u') ([]:List u'.den) with
      | some r=>.ok (.raw undef) ((s.kill i e.kd p).o7 i (e.w4 r))
      | none=>.fail "store: nil")
     | .r7 a=>(match m0 e.ty e.x p (.r7 a) ((1,([],[])):Nat×(List a.den×List a.den)) with
      | some r=>.ok (.raw undef) ((s.kill i e.kd p).o7 i (e.w4 r))
      | none=>.fail "store: nil")
     | _=>.fail "store: nil of what")
    | .sub j q lo hi=>(match u,y with
     | .d0 true u',(y:List u'.den)=>(match m0 e.ty e.x p (.d0 true u') (G1 lo hi y) with
      | some r=>(match Nat.beq i j with
       | true=>.B1 (q=p∧True) (.raw undef) ((s.kill i e.kd p).o7 i (e.w4 r))
       | false=>.fail "store: a view of another")
      | none=>.fail "store: view")
     | _,_=>.fail "store: view of what")
    | x=>(match x.T8 s with
     | some (q,g)=>(match m0 e.ty e.x p (F9 u q).1 (F9 u q).2 with
      | some r=>(match !g.contains i && a0o g && g.all fun i=>!pinned i with
       | true=>.ok (.raw undef) (((St.p7 g s).kill i e.kd p).o7 i (e.w4 r))
       | false=>.fail "store: itself")
      | none=>.fail "store: value")
     | none=>(match x with
      | .at_ j q=>(match s.part j q with
       | some ⟨u',y'⟩=>(match m0 e.ty e.x p u'.X8 (a9b u' y') with
        | some r=>(match u'.X8.shared && !u'.shared && !Nat.beq i j with
         | true=>.ok (.raw undef) ((s.kill i e.kd p).o7 i (e.w4 r))
         | false=>.fail "store: what")
        | none=>.fail "store: value")
       | none=>.fail "store: what")
      | _=>.fail "store: what"))

def AV.els (s:St):AV→Option (Sigma fun t:Ty=>List t.den)
 | .val (.d0 _ t) l=>some ⟨t,l⟩
 | .at_ i p=>match s.part i p with
  | some ⟨.d0 _ t,l⟩=>some ⟨t,l⟩
  | _=>none
 | .sub i p lo hi=>s.view i p lo hi
 | _=>none

def AV.T6 (s:St) (t0:Ty):AV→Option (Sigma (fun t:Ty=>List t.den)×List Nat)
 | .raw (.slice none 0 0)=>some (⟨t0,[]⟩,[])
 | .val .str y=>some (⟨.int .u8,(List.map (fun b:UInt8=>(b.toNat:Int)) y:List Int)⟩,[])
 | v=>match v.els s with
  | none=>none
  | some ⟨t,l⟩=>match t.shared with
   | true=>some (⟨t,l⟩,[])
   | false=>match v.L6 s with
    | some (⟨.d0 true u,m⟩,g)=>some (⟨u,m⟩,g)
    | _=>none

def O6 {t u:Ty} (h:t=u) (l:List t.den):List u.den:=h▸l

def U6 (E:Env) (T:TypeId) (x y:AV) (dst:Option Nat) (s:St):OR :=
 match look T E.tt,dst with
 | some ⟨.d0 _ t0,_⟩,some d=>match y.T6 s t0 with
  | none=>.fail "append: what"
  | some (⟨t,m⟩,g) =>
   let own (l:List t0.den) (f:List Nat):OR :=
    if h:t=t0 then (s.lay d (f++g) (.d0 true t0) (l++O6 h m)).n8 ((l.length+m.length:Nat)≤140737488355328∧(l.length+m.length:Nat)*(t0.wb:Nat)≤140737488355328)
    else .fail "append: type"
   match x with
   | .raw (.slice none 0 0)=>own [] []
   | .val (.d0 true u) _=>(match D7 E T (.d0 true u) with|true=>own [] []|false=>.fail "append: type")
   | x=>match x.L6 s with
    | some (⟨.d0 true u,l⟩,f)=>if h:u=t0 then own (O6 h l) f else .fail "append: type"
    | _=>.fail "append: to what"
 | _,_=>.fail "append"

def Ty.a5t:Ty→Bool
 | .r7 _=>true
 | _=>false

def a9a (s:St):AV→Bool
 | .at_ i []=>(match s.obj i with
  | some (.own (.r7 _) _)=>true
  | _=>false)
 | _=>false

def a7l (E:Env) (T:TypeId) (x y:AV) (dst:Option Nat) (s:St):OR :=
 match look T E.tt,dst,x,y with
 | some ⟨.d0 true t,_⟩,some d,.val (.int _) n,.val (.int _) m=>(s.lay d [] (.r7 t) (2,List.replicate (Int.toNat n) t.n6,List.replicate (Int.toNat m - Int.toNat n) t.n6)).n8 (1≤m∧0≤n∧n≤m∧m≤140737488355328∧m*(t.wb:Nat)≤140737488355328)
 | _,_,_,_=>.fail "makeSlice"

def a34 (E:Env) (T:TypeId) (x y:AV) (dst:Option Nat) (s:St):OR :=
 match look T E.tt,dst,x with
 | some ⟨.d0 _ t0,_⟩,some d,.at_ i []=>(match s.obj i,y.T6 s t0 with
  | some (.own (.r7 u) z),some (⟨t,m⟩,[]) =>
   if hu:u=t0 then if ht:t=t0 then (match t0.shared with
    | true=>(s.lay d [i] (.r7 t0) (2,O6 hu z.2.1++O6 ht m,(O6 hu z.2.2).drop m.length)).n8 (z.1=2∧m.length≤z.2.2.length)
    | false=>.fail "append: elements") else .fail "append: type" else .fail "append: type"
  | _,_=>.fail "append: to what")
 | _,_,_=>.fail "append"

def a33 (E:Env) (T:TypeId) (x y:AV) (dst:Option Nat) (s:St):OR :=
 match E.rs.any Ty.a5t && a9a s x with
 | true=>a34 E T x y dst s
 | false=>U6 E T x y dst s

def a14 (E:Env) (T:TypeId) (x y:AV) (dst:Option Nat) (s:St):OR :=
 match look T E.tt,dst,x,y with
 | some ⟨.d0 true t0,_⟩,some d,.raw (.slice none 0 0),.val (.int _) n =>
  (s.lay d [] (.d0 true t0) (List.replicate n.toNat t0.n6)).n8 (0≤n∧n≤140737488355328∧n*(t0.wb:Nat)≤140737488355328)
 | _,_,_,_=>.fail "append: zeros"

def AV.b6m:AV→AV→Bool
 | .sub i _ _ _,.sub j _ _ _=>Nat.beq i j
 | _,_=>false

/-! ### maps -/
def posOf {α β:Type} (f:α→α→Bool) (a:α):List (α×β)→Nat→Option (Nat×β)
 | [],_=>none
 | (x,y)::l,i=>match f a x with|true=>some (i,y)|false=>posOf f a l (i+1)
def a1C {α β:Type} (f:α→α→Bool) (a:α) (l:List (α×β)):Option β:=(posOf f a l 0).map (·.2)
def a4B {α β:Type} (f:α→α→Bool) (a:α) (y:β) (l:List (α×β)):List (α×β) :=
 match posOf f a l 0 with
 | some (i,_)=>l.set i (a,y)
 | none=>l++[(a,y)]

def Ty.key:Ty→Bool
 | .int _|.bool|.str=>true
 | .arr _ (.int _)=>true
 | _=>false

def a89 (E:Env) (T:TypeId) (k v:Ty):Bool :=
 match look T E.tt,E.P.underlying T with
 | some ⟨.map _ k' v',_⟩,some (.map K _)=>decide (k'=k) && decide (v'=v) && k.key && M3 E.P 100 K k
 | _,_=>false

def AV.mp (s:St):AV→Option (Sigma fun q:Ty×Ty=>Option (List (q.1.den×q.2.den)))
 | .val (.map _ k v) m=>some ⟨(k,v),m⟩
 | .at_ i p=>match s.part i p with
  | some ⟨.map _ k v,m⟩=>some ⟨(k,v),m⟩
  | _=>none
 | _=>none

def a09 (E:Env) (T:TypeId) (x i:AV) (ok:Bool) (s:St):OR :=
 match x.mp s,i with
 | some ⟨(k,v),m⟩,.val u a =>
  if h:u=k then
   (match a89 E T k v with
   | true=>match ok with
    | true=>.ok (.F0 (.cons (.val v ((a1C (G0 k) (D8 h a) (m.getD [])).getD v.n6)) (.cons (.val .bool (a1C (G0 k) (D8 h a) (m.getD [])).isSome) .nil))) s
    | false=>.ok (.val v ((a1C (G0 k) (D8 h a) (m.getD [])).getD v.n6)) s
   | false=>.fail "lookup: type")
  else .fail "lookup: key"
 | _,_=>.fail "lookup"

def a4l (E:Env) (T:TypeId) (x i z:AV) (s:St):OR :=
 match x,i,z with
 | .at_ j [],.val u a,.val u' y=>(match s.obj j with
  | some (.own (.map true k v) (some l)) =>
   if h:u=k then
    if h':u'=v then
     (match a89 E T k v with
     | true=>.ok (.raw undef) ((s.N0 j true).o7 j (.own (.map true k v) (some (a4B (G0 k) (D8 h a) (D8 h' y) l))))
     | false=>.fail "update: type")
    else .fail "update: value"
   else .fail "update: key"
  | _=>.fail "update: of what")
 | _,_,_=>.fail "update"

/-! ### copy, clear -/
def a3U (e:f9) (p:List Step) (r:Sigma Ty.den):Bool :=
 match e with
 | .var t _=>decide (r.1=t)
 | .own (.d0 true t) _=>decide (r.1=.d0 true t) && (match p with
  | []=>true
  | .idx _::_=>true
  | _=>false)
 | _=>false

def X9 (s:St) (i:Nat) (p:List Step) (lo:Nat) (t:Ty) (m:List t.den):Option St :=
 match s.obj i with
 | some e=>(match i6 e.ty e.x p with
  | some ⟨.d0 true u,l⟩ =>
   if h:t=u then
    (match m0 e.ty e.x p (.d0 true u) (List.take lo l++O6 h m++List.drop (lo+m.length) l) with
    | some r=>(match t.shared && a3U e p r with
     | true=>some ((s.N0 i e.O5).o7 i (e.w4 r))
     | false=>none)
    | none=>none)
   else none
  | _=>none)
 | none=>none

def AV.a1D (s:St):AV→Option (Nat×List Step×Int×Int)
 | .at_ i p=>match s.part i p with
  | some ⟨.d0 true _,l⟩=>some (i,p,0,(List.length l:Int))
  | _=>none
 | .sub i p lo hi=>match s.part i p with
  | some ⟨.d0 true _,_⟩=>some (i,p,lo,hi)
  | _=>none
 | _=>none

def a5y (E:Env) (T:TypeId) (x y:AV) (s:St):OR :=
 match x.a1D s,y.els s with
 | some (i,p,lo,hi),some ⟨t,m⟩=>(match X9 s i p lo.toNat t (List.take (hi - lo).toNat m),D7 E T (.d0 true t) with
  | some s',true=>.ok (.val (.int .i64) ((List.take (hi - lo).toNat m).length:Int)) s'
  | _,_=>.fail "copy")
 | _,_=>.fail "copy: what"

def a3l (E:Env) (T:TypeId) (x:AV) (s:St):OR :=
 match x.a1D s,look T E.tt with
 | some (i,p,lo,hi),some ⟨.d0 _ t,_⟩=>(match X9 s i p lo.toNat t (List.replicate (hi - lo).toNat t.n6) with
  | some s'=>.ok (.raw (.tuple #[])) s'
  | none=>.fail "clear")
 | _,_=>.fail "clear: what"

def U5 (E:Env) (T:TypeId) (x y:AV) (s:St):OR :=
 match x,look T E.tt with
 | .sub i [] lo hi,some ⟨.d0 _ t0,_⟩=>(match y.T6 s t0,s.obj i with
  | some (⟨t,m⟩,[]),some (.own (.d0 true u) l)=>(match X9 s i [] hi.toNat t m,D7 E T (.d0 true t),decide (t=u) with
   | some s',true,true=>.B1 (hi+(List.length m:Int)≤(List.length l:Int)) (.sub i [] lo (hi+(List.length m:Int))) s'
   | _,_,_=>.fail "append: in place")
  | _,_=>.fail "append: in place")
 | _,_=>.fail "append: in place"

def S6 (s:St) (d:Int):Option Operand→Option Int
 | none=>some d
 | some x=>match s.ev x with
  | .val (.int _) n=>some n
  | _=>none

def a1r (E:Env) (T:TypeId) (x:AV) (lo hi max:Option Operand) (s:St):OR :=
 match S6 s 0 lo with
 | none=>.fail "slice: low"
 | some a =>
 match x with
 | .val .str y=>(match S6 s (List.length y:Int) hi,max with
  | some b,none=>(match D7 E T .str with|true=>.B1 (0≤a∧a≤b∧b≤(List.length y:Int)) (.val .str (G1 a b y)) s|false=>.fail "slice: type")
  | _,_=>.fail "slice: bounds")
 | .val (.d0 false t) y=>(match S6 s (List.length y:Int) hi,max with
  | some b,none=>(match D7 E T (.d0 false t) with|true=>.B1 (0≤a∧a≤b∧b≤(List.length y:Int)) (.val (.d0 false t) (G1 a b y)) s|false=>.fail "slice: type")
  | some b,some _=>(match D7 E T (.d0 false t) && hi.isSome,S6 s 0 max with
   | true,some c=>.B1 (a=0∧b=0∧c=0) (.val (.d0 true t) ([]:List t.den)) s
   | _,_=>.fail "slice: type")
  | _,_=>.fail "slice: bounds")
 | .val (.r7 t) y=>(match S6 s (List.length y.2.1:Int) hi,max with
  | some b,none=>(match D7 E T (.d0 false t) with|true=>.B1 (y.1=3∧0≤a∧a≤b∧b≤(List.length y.2.1+List.length y.2.2:Nat)) (.val (.d0 false t) (G1 a b (y.2.1++y.2.2))) s|false=>.fail "slice: type")
  | _,_=>.fail "slice: bounds")
 | .raw (.slice none 0 0)=>(match S6 s 0 hi,max,look T E.tt with
  | some b,none,some ⟨.d0 _ _,_⟩=>.B1 (a=0∧b=0) (.raw (.slice none 0 0)) s
  | _,_,_=>.fail "slice: nil")
 | .at_ i p=>(match s.part i p with
  | some ⟨.d0 true t,y⟩=>(match S6 s (List.length y:Int) hi,max with
   | some b,none=>(match D7 E T (.d0 true t) with|true=>.B1 (0≤a∧a≤b∧b≤(List.length y:Int)) (.sub i p a b) s|false=>.fail "slice: type")
   | some b,some _=>(match D7 E T (.d0 true t) && hi.isSome,S6 s 0 max with
    | true,some c=>(match lo.isSome with
     | false=>.B1 (a=0∧b=0∧c=0) (.val (.d0 true t) ([]:List t.den)) s
     | true=>.B1 (0≤a∧a≤b∧b≤c∧c≤(List.length y:Int)) .any s)
    | _,_=>.fail "slice: type")
   | _,_=>.fail "slice: bounds")
  | _=>.fail "slice: of what")
 | .sub i p a0 b0=>(match s.part i p with
  | some ⟨.d0 true t,y⟩=>(match S6 s (b0 - a0) hi,max with
   | some b,none=>(match D7 E T (.d0 true t) with|true=>.B1 (0≤a∧a≤b∧a0+b≤(List.length y:Int)) (.sub i p (a0+a) (a0+b)) s|false=>.fail "slice: type")
   | _,_=>.fail "slice: bounds")
  | some ⟨.arr _ t,_⟩=>(match S6 s (b0 - a0) hi,max with
   | some b,none=>(match D7 E T (.d0 true t) with|true=>.B1 (0≤a∧a≤b∧b≤b0 - a0) (.sub i p (a0+a) (a0+b)) s|false=>.fail "slice: type")
   | _,_=>.fail "slice: bounds")
  | _=>.fail "slice: view")
 | .ptr i p=>(match s.part i p with
  | some ⟨.arr n t,_⟩=>(match S6 s (n:Int) hi,max with
   | some b,none=>(match b7O E T (.arr n t) && Nat.ble n 1000000 with|true=>.B1 (0≤a∧a≤b∧b≤(n:Int)) (.sub i p a b) s|false=>.fail "slice: type")
   | _,_=>.fail "slice: bounds")
  | _=>.fail "slice: of what")
 | _=>.fail "slice"
where
 b7O (E:Env) (T:TypeId) (u:Ty):Bool :=
  match E.P.underlying T with
  | some (.pointer A)=>D7 E A u
  | some (.array _ _)=>D7 E T u
  | _=>false

def foldI (s:St) (k:IntKind) (f:Int→Int→Int):Int→List Operand→OR
 | a,[]=>.ok (.val (.int k) a) s
 | a,x::l=>match s.ev x with
  | .val (.int k') b=>if k=k' then foldI s k f (f a b) l else .fail "max"
  | _=>.fail "max"

def l4 (E:Env) (o:Oper) (s:St):OR :=
 match o.op with
 | .move x=>.ok (s.ev x) s
 | .assign x=>.ok (s.ev x) s
 | .alloc T=>match look T E.tt,o.dst with
  | some t,some d=>(match s.fresh d with
   | true=>.ok (.ptr d []) (s.o7 d (.var t.ty t.ty.n6))
   | false=>.fail "alloc: name")
  | _,_=>.fail "alloc"
 | .box T x=>match look T E.tt,o.dst with
  | some t,some d=>(match s.fresh d with
   | true=>(match (s.ev x).T8 s with
    | some (⟨u,y⟩,g)=>if u.J9.sh=t.ty.J9.sh then (match a0o g && !g.contains d && g.all fun i=>!pinned i with
     | true=>.ok (.ptr d []) ((St.p7 g s).o7 d (.var u y))
     | false=>.fail "box: objects") else .fail "box: value"
    | none=>(match s.ev x,t.ty with
     | .raw (.slice none 0 0),.d0 o u=>.ok (.ptr d []) (s.o7 d (.var (.d0 o u) ([]:List u.den)))
     | .ptr i p,.box _ none _=>.ok (.bx (.ptr i p)) s
     | _,_=>.fail "box: what"))
   | false=>.fail "box: name")
  | _,_=>.fail "box"
 | .build T parts=>match look T E.tt with
  | some t=>(match t.ty.agg && parts.toList.all (fun q=>a0P t.ty q.1) with
   | true=>(match K2 s ⟨t.ty,t.ty.n6⟩ parts.toList,o.dst with
    | some (⟨u,y⟩,[]),_=>.ok (.val u y) s
    | some (⟨u,y⟩,g),some d=>s.lay d g u y
    | _,_=>.fail "build: parts")
   | false=>.fail "build: index")
  | none=>.fail "build"
 | .buildSlice T n parts=>match look T E.tt,o.dst with
  | some ⟨.d0 true t,_⟩,some d=>(match s.fresh d && parts.toList.all (fun q=>Nat.blt q.1 n) && Nat.ble (n*t.size) 16777216 with
   | true=>(match a7W s n t parts.toList with
    | some (⟨.arr _ t',l⟩,g)=>s.lay d g (.d0 true t') l
    | _=>.fail "buildSlice: parts")
   | false=>.fail "buildSlice: name")
  | _,_=>.fail "buildSlice"
 | .load T a=>K9 E T (s.ev a) s
 | .store T a x=>match s.ev a with
  | .ptr i p=>D5 E T i p (s.ev x) s
  | _=>.fail "store"
 | .nilCheck x=>match s.ev x with
  | .ptr i p=>.ok (.ptr i p) s
  | .N1 t y=>.ok (.N1 t y) s
  | .val (.box false none t) y=>.B1 ((y:Option t.den).isSome=true) (.N1 t (Option.getD (y:Option t.den) t.n6)) s
  | .val (.box false (some f) t) y=>.B1 ((y:Option t.den).isSome=true) (.val (.box false (some f) t) y) s
  | .y7 f l=>.ok (.y7 f l) s
  | .val (.fn f) b=>.B1 ((b:Bool)=true) (.val (.fn f) b) s
  | _=>.fail "nilCheck"
 | .fieldAddr T x n=>match s.ev x with
  | .ptr i p=>(match s.part i p with
   | some ⟨u,z⟩=>(match D7 E T u,i6 u z [.i9 n] with
    | true,some _=>.ok (.ptr i (p++[.i9 n])) s
    | _,_=>.fail "fieldAddr: type")
   | none=>.fail "fieldAddr: path")
  | .N1 t y=>match D7 E T t,i6 t y [.i9 n] with
   | true,some ⟨u,z⟩=>.ok (.N1 u z) s
   | _,_=>.fail "fieldAddr"
  | .val (.box false none t) y=>match D7 E T t,i6 t (Option.getD (y:Option t.den) t.n6) [.i9 n] with
   | true,some ⟨u,z⟩=>.B1 ((y:Option t.den).isSome=true) (.N1 u z) s
   | _,_=>.fail "fieldAddr"
  | _=>.fail "fieldAddr"
 | .indexAddr T x i=>match s.ev x,s.ev i with
  | .ptr d p,.val (.int _) n=>(match s.part d p with
   | some ⟨.arr m u,_⟩=>(match D7 E T (.arr m u) with
    | true=>.B1 (0≤n∧n<m) (.ptr d (p++[.idx n])) s
    | false=>.fail "indexAddr: type")
   | _=>.fail "indexAddr: type")
  | .N1 (.arr m t) y,.val (.int _) n=>(match D7 E T (.arr m t) with
   | true=>.B1 (0≤n∧n<m) (.N1 t (List.getD y (Int.toNat n) t.n6)) s
   | false=>.fail "indexAddr: type")
  | .val (.d0 false t) y,.val (.int _) n=>(match D7 E T (.d0 false t) with
   | true=>.B1 (0≤n∧n<List.length y) (.N1 t (List.getD y (Int.toNat n) t.n6)) s
   | false=>.fail "indexAddr: type")
  | .at_ d p,.val (.int _) n=>(match s.part d p with
   | some ⟨.d0 true u,z⟩=>(match D7 E T (.d0 true u) with
    | true=>.B1 (0≤n∧n<List.length z) (.ptr d (p++[.idx n])) s
    | false=>.fail "indexAddr: type")
   | _=>.fail "indexAddr: type")
  | .sub d p lo hi,.val (.int _) n=>(match s.view d p lo hi with
   | some ⟨u,_⟩=>(match D7 E T (.d0 true u) with
    | true=>.B1 (0≤n∧n<hi - lo) (.ptr d (p++[.idx (lo+n)])) s
    | false=>.fail "indexAddr: type")
   | none=>.fail "indexAddr: view")
  | _,_=>.fail "indexAddr"
 | .field T x n=>match s.ev x with
  | .val t y=>(match D7 E T t,i6 t y [.i9 n] with
   | true,some ⟨u,z⟩=>.ok (.val u z) s
   | _,_=>.fail "field")
  | .at_ i p=>(match s.part i p with
   | some ⟨t,y⟩=>(match D7 E T t,i6 t y [.i9 n] with
    | true,some ⟨u,z⟩=>(match u.shared with|true=>.ok (.val u z) s|false=>.ok (.at_ i (p++[.i9 n])) s)
    | _,_=>.fail "field")
   | none=>.fail "field: part")
  | _=>.fail "field"
 | .index T x i=>match s.ev x,s.ev i with
  | .val .str y,.val (.int _) n=>(match D7 E T .str with
   | true=>.B1 (0≤n∧n<List.length y) (.val (.int .u8) ((List.getD y (Int.toNat n) 0).toNat:Int)) s
   | false=>.fail "index: type")
  | .val (.arr m t) y,.val (.int _) n=>(match D7 E T (.arr m t) with
   | true=>.B1 (0≤n∧n<m) (.val t (List.getD y (Int.toNat n) t.n6)) s
   | false=>.fail "index: type")
  | .at_ i p,.val (.int _) n=>(match s.part i p with
   | some ⟨.arr m t,y⟩=>(match D7 E T (.arr m t) with
    | true=>(match t.shared with
     | true=>.B1 (0≤n∧n<m) (.val t (List.getD y (Int.toNat n) t.n6)) s
     | false=>.B1 (0≤n∧n<m) (.at_ i (p++[.idx n])) s)
    | false=>.fail "index: type")
   | _=>.fail "index: of what")
  | _,_=>.fail "index"
 | .binOp op T x y _=>a3Y E T op (s.ev x) (s.ev y) s
 | .unOp op _ x=>unA op (s.ev x) s
 | .convert T' T x=>match s.ev x,look T' E.tt,look T E.tt with
  | .val (.int _) n,some ⟨.int _,_⟩,some ⟨.int k,_⟩=>.ok (.val (.int k) (k.wrap n)) s
  | .val .str y,some ⟨.str,_⟩,some ⟨.d0 true (.int .u8),_⟩=>(match o.dst with
   | some d=>s.lay d [] (.d0 true (.int .u8)) (List.map (fun b:UInt8=>(b.toNat:Int)) y:List Int)
   | none=>.fail "convert")
  | v,some ⟨.d0 true (.int .u8),_⟩,some ⟨.str,_⟩=>(match v.els s with
   | some ⟨.int .u8,l⟩=>.ok (.val .str (List.map (fun n:Int=>UInt8.ofNat n.toNat) l)) s
   | _=>match v with
    | .raw (.slice none 0 0)=>.ok (.val .str []) s
    | _=>.fail "convert: bytes")
  | _,_,_=>.fail "convert"
 | .extract x i=>match s.ev x with
  | .F0 l=>match nth i l with
   | some v=>.ok v s
   | none=>.fail "extract"
  | _=>.fail "extract"
 | .makeSlice T x y=>match E.rs.any Ty.a5t with
  | true=>a7l E T (s.ev x) (s.ev y) o.dst s
  | false=>match look T E.tt,o.dst,s.ev x,s.ev y with
  | some ⟨.d0 true t,_⟩,some d,.val (.int _) n,.val (.int _) m=>(s.lay d [] (.d0 true t) (List.replicate n.toNat t.n6)).n8 (0≤n∧n≤m∧m≤140737488355328∧m*(t.wb:Nat)≤140737488355328)
  | _,_,_,_=>.fail "makeSlice"
 | .slice T x lo hi max=>a1r E T (s.ev x) lo hi max s
 | .makeMap T r=>match r,look T E.tt,o.dst with
  | none,some ⟨.map true k v,_⟩,some d=>s.lay d [] (.map true k v) (some ([]:List (k.den×v.den)))
  | _,_,_=>.fail "makeMap"
 | .lookup T x i ok=>a09 E T (s.ev x) (s.ev i) ok s
 | .mapUpdate T m i x=>a4l E T (s.ev m) (s.ev i) (s.ev x) s
 | .makeFunc (.func f) first caps=>match first.toList with
  | []=>.ok (.y7 f (s.C8 caps.toList)) s
  | _=>.fail "makeFunc"
 | .call c=>match c.callee with
  | .value f=>match s.ev f with
   | .y7 f caps=>H7 E f ((s.C8 c.args.toList).app caps) o.dst s
   | .val (.fn f) b=>(H7 E f ((s.C8 c.args.toList).app .nil) o.dst s).a42 ((b:Bool)=true)
   | .val (.box false (some f) t) y=>(H7 E f ((s.C8 c.args.toList).app (.cons (.N1 t (Option.getD (y:Option t.den) t.n6)) .nil)) o.dst s).a42 ((y:Option t.den).isSome=true)
   | _=>.fail "call of what"
  | .builtin .len=>match c.args.toList,c.argTypes.toList with
   | [x],[T]=>(match s.ev x with
    | .val (.d0 q u) y=>(match D7 E T (.d0 q u) with|true=>.ok (.val (.int .i64) (List.length y:Int)) s|false=>.fail "len")
    | .val (.r7 u) y=>(match D7 E T (.d0 false u) with|true=>.ok (.val (.int .i64) (List.length y.2.1:Int)) s|false=>.fail "len")
    | .val .str y=>(match D7 E T .str with|true=>.ok (.val (.int .i64) (List.length y:Int)) s|false=>.fail "len")
    | .val (.arr n u) _=>(match D7 E T (.arr n u) with|true=>(if (n:Int)≤9223372036854775807 then .ok (.val (.int .i64) (n:Int)) s else .fail "len")|false=>.fail "len")
    | .at_ d p=>(match s.part d p with
     | some ⟨.d0 q u,z⟩=>(match D7 E T (.d0 q u) with|true=>.ok (.val (.int .i64) (List.length z:Int)) s|false=>.fail "len")
     | some ⟨.r7 u,z⟩=>(match D7 E T (.d0 false u) with|true=>.ok (.val (.int .i64) (List.length z.2.1:Int)) s|false=>.fail "len")
     | _=>.fail "len")
    | .sub d p lo hi=>(match s.view d p lo hi with
     | some ⟨u,_⟩=>(match D7 E T (.d0 true u) with|true=>.ok (.val (.int .i64) (hi - lo)) s|false=>.fail "len")
     | none=>.fail "len")
    | .raw (.slice none 0 0)=>(match look T E.tt with|some ⟨.d0 _ _,_⟩=>.ok (.val (.int .i64) 0) s|_=>.fail "len")
    | _=>.fail "len")
   | _,_=>.fail "len"
  | .builtin .cap=>match c.args.toList,c.argTypes.toList with
   | [x],[T]=>(match s.ev x,look T E.tt with
    | .raw (.slice none 0 0),some ⟨.d0 _ _,_⟩=>.ok (.val (.int .i64) 0) s
    | _,_=>.fail "cap")
   | _,_=>.fail "cap"
  | .builtin .append=>match c.args.toList,c.argTypes.toList with
   | [x,y],[T,U]=>(match look U E.tt with
    | some ⟨.d0 _ _,_⟩=>(match (s.ev x).b6m (s.ev y) with
     | true=>U5 E T (s.ev x) (s.ev y) s
     | false=>a33 E T (s.ev x) (s.ev y) o.dst s)
    | some ⟨.str,_⟩=>U6 E T (s.ev x) (s.ev y) o.dst s
    | some ⟨.int _,_⟩=>a14 E T (s.ev x) (s.ev y) o.dst s
    | _=>.fail "append: of what type")
   | _,_=>.fail "append"
  | .builtin .max=>match c.args.toList with
   | x::l=>(match s.ev x with
    | .val (.int k) a=>foldI s k (fun a b=>if a<b then b else a) a l
    | _=>.fail "max")
   | _=>.fail "max"
  | .builtin .min=>match c.args.toList with
   | x::l=>(match s.ev x with
    | .val (.int k) a=>foldI s k (fun a b=>if b<a then b else a) a l
    | _=>.fail "min")
   | _=>.fail "min"
  | .builtin .copy=>match c.args.toList,c.argTypes.toList with
   | [x,y],[T,_]=>a5y E T (s.ev x) (s.ev y) s
   | _,_=>.fail "copy"
  | .builtin .clear=>match c.args.toList,c.argTypes.toList with
   | [x],[T]=>a3l E T (s.ev x) s
   | _,_=>.fail "clear"
  | _=>.fail "builtin"
 | _=>.fail "op"
where nth:Nat→AV→Option AV
 | 0,.cons a _=>some a
 | n+1,.cons _ b=>nth n b
 | _,_=>none

def a0x (ops:Array Oper) (j:Nat):Option Nat:=(ops[j]?).bind (·.dst)

def x3 (n:Nat):Option Nat→Bool
 | some d=>Nat.blt d n
 | none=>true

def a3C (E:Env) (o:Oper) (s:St) (k:St→Tree (E.rs++u6 E.ps)):Tree (E.rs++u6 E.ps) :=
 match x3 E.nt o.dst with
 | false=>.stuck "slot"
 | true =>
 match o.op with
 | .pick c a b=>match s.ev c with
  | .val .bool g=>cond g (k (s.put o.dst (s.ev a))) (k (s.put o.dst (s.ev b)))
  | _=>.stuck "pick"
 | _=>match l4 E o s with
  | .fail why=>.stuck why
  | .ok v s'=>k (s'.put o.dst v)
  | .B1 p v s'=>.n8 p (k (s'.put o.dst v))

def U0 (E:Env) (ops:Array Oper) (o:Oper) (s:St) (k:St→Tree (E.rs++u6 E.ps)):Tree (E.rs++u6 E.ps) :=
 match o.guard with
 | none=>a3C E o s k
 | some (j,want)=>match a0x ops j with
  | none=>.stuck "guard"
  | some g=>match s.ev (.tmp g) with
   | .raw (.tuple _)=>match x3 E.nt o.dst with
    | true=>k (s.put o.dst (.raw undef))
    | false=>.stuck "slot"
   | .val .bool b=>match x3 E.nt o.dst with
    | false=>.stuck "slot"
    | true=>cond b
     (match want with
      | true=>a3C E o (s.put (some g) (.val .bool true)) k
      | false=>k ((s.put (some g) (.val .bool true)).put o.dst (.raw undef)))
     (match want with
      | false=>a3C E o (s.put (some g) (.val .bool false)) k
      | true=>k ((s.put (some g) (.val .bool false)).put o.dst (.raw undef)))
   | _=>.stuck "guard value"

def brA (E:Env) (s:St) (o:Oper):Option (Prop×AV×AV) :=
 match o.op with
 | .binOp op T x y _=>match op with
  | .eql=>(match s.ev y,look T E.tt with
   | .raw (.slice none 0 0),some ⟨.d0 _ _,_⟩=>(match (s.ev x).els s with
    | some r=>some (r.2=[],.val .bool true,.val .bool false)
    | none=>none)
   | _,_=>none)
  | .neq=>(match s.ev y,look T E.tt with
   | .raw (.slice none 0 0),some ⟨.d0 _ _,_⟩=>(match (s.ev x).els s with
    | some r=>some (r.2=[],.val .bool false,.val .bool true)
    | none=>none)
   | _,_=>none)
  | _=>none
 | _=>none

/-! ### append to a place: the append, the address again, the store, as one step -/
def a3c:Op→Bool
 | .fieldAddr _ _ _=>true
 | .indexAddr _ _ _=>true
 | .nilCheck _=>true
 | _=>false

def a4y (o:Oper):List Nat:=o.op.operands.toList.filterMap fun|.tmp t=>some t|_=>none

def a3w (e:f9) (p:List Step) (r:Sigma Ty.den):Bool :=
 match e with
 | .var t _=>decide (r.1=t)
 | .own (.d0 true t) _=>(match p with
  | .idx _::_=>decide (r.1=.d0 true t)
  | _=>false)
 | _=>false

def a40 (E:Env) (T U T2:TypeId) (x y ad:AV) (d:Nat) (s:St):Option (Prop×St) :=
 match x,ad,look T E.tt,look U E.tt with
 | .at_ i p,.ptr j q,some ⟨.d0 _ t0,_⟩,some ⟨u1,_⟩=>(match s.obj i,Nat.beq i j && (match u1 with|.d0 _ _=>true|.str=>true|_=>false) with
  | some e,true=>(match i6 e.ty e.x p with
   | some ⟨.d0 true u,l⟩=>(match y.T6 s t0 with
    | some (⟨t,m⟩,g) =>
     if hu:u=t0 then
      if ht:t=t0 then
       (match m0 e.ty e.x p (.d0 true t0) (O6 hu l++O6 ht m) with
        | some r=>(match D7 E T2 (.d0 true t0) && a3w e p r && !g.contains i && a0o g && g.all (fun i=>!pinned i) with
         | true=>some (q=p∧(l.length+m.length:Nat)≤140737488355328∧(l.length+m.length:Nat)*(t0.wb:Nat)≤140737488355328,
          ((St.p7 g (s.put (some d) .any)).kill i e.kd p).o7 i (e.w4 r))
         | false=>none)
        | none=>none)
      else none
     else none
    | none=>none)
   | _=>none)
  | _,_=>none)
 | _,_,_,_=>none

def a7b (E:Env) (T U:TypeId) (x y:Operand) (d:Nat):List Oper→St→Option (Prop×St×Nat)
 | [],_=>none
 | o::rest,s=>match o.guard,x3 E.nt o.dst with
  | none,true=>(match a3c o.op with
   | true=>(match o.dst with
    | some d1=>(match !Nat.beq d1 d && !(a4y o).contains d && (match x with|.tmp t=>!Nat.beq t d1|_=>true) && (match y with|.tmp t=>!Nat.beq t d1|_=>true),(match l4 E o s with|.fail _=>none|.ok v _=>some (True,v)|.B1 p v _=>some (p,v)) with
     | true,some (p,v)=>(match a7b E T U x y d rest (s.put (some d1) v) with
      | some (p2,s2,n)=>some (p∧p2,s2,n+1)
      | none=>none)
     | _,_=>none)
    | none=>none)
   | false=>(match o.op with
    | .store T2 ad (.tmp d')=>(match Nat.beq d' d && (match ad with|.tmp t=>!Nat.beq t d|_=>true) with
     | true=>(match a40 E T U T2 (s.ev x) (s.ev y) (s.ev ad) d s with
      | some (p,s2)=>some (p,s2.put o.dst (.raw undef),1)
      | none=>none)
     | false=>none)
    | _=>none))
  | _,_=>none

def b6z (E:Env) (o:Oper) (rest:List Oper) (s:St):Option (Prop×St×Nat) :=
 match o.guard,o.dst,x3 E.nt o.dst,o.op with
 | none,some d,true,.call c=>(match c.callee,c.args.toList,c.argTypes.toList with
  | .builtin .append,[x,y],[T,U]=>(match s.ev x with
   | .at_ i p=>(match (AV.at_ i p).L6 s with
    | some _=>none
    | none=>a7b E T U x y d rest s)
   | _=>none)
  | _,_,_=>none)
 | _,_,_,_=>none

def a30 (s:St) (ks:List PK) (i:Nat) (e:f9) (p:List Step) (t:Ty) (ys:List Operand):Option (DK ks×List Nat×List Nat) :=
 match (H7.loose ks (s.C8 ys)).contains i with
 | false=>AV.T5 s ks (s.C8 ys)
 | true=>match e with
  | .var u x=>(match m0 u x p (.hole t) ([]:List t.den) with
   | some r=>AV.T5 ((s.kill i (f9.var u x).kd p).o7 i (.var r.1 r.2)) ks (((s.kill i (f9.var u x).kd p).o7 i (.var r.1 r.2)).C8 ys)
   | none=>none)
  | _=>none

def b3B (E:Env) (T2:TypeId) (g:FuncId) (x:AV) (ys:List Operand) (ad:AV) (d:Nat) (s:St):Option (Prop×St) :=
 match look g E.G8,x,ad with
 | some ⟨.own (.d0 true t)::ks,[.d0 true t'],pre,fn,_,_⟩,.at_ i p,.ptr j q=>(match s.obj i,Nat.beq i j && (match u6 ks with|[]=>true|_=>false) && (Ty.d0 true t').E2 && D7 E T2 (.d0 true t) with
  | some e,true=>(match i6 e.ty e.x p,a30 s ks i e p t ys with
   | some ⟨u,l⟩,some (y,[],[]) =>
    if h:u=.d0 true t then
     (match m0 e.ty e.x p (.d0 true t') (fn (D8 h l,y)).1 with
     | some r=>(match D7 E T2 (.d0 true t') && a3w e p r with
      | true=>some (q=p∧pre (D8 h l,y),((s.put (some d) .any).N0 i e.O5).o7 i (e.w4 r))
      | false=>none)
     | none=>none)
    else none
   | _,_=>none)
  | _,_=>none)
 | _,_,_=>none

def a5w (E:Env) (g:FuncId) (x:Operand) (ys:List Operand) (d:Nat):List Oper→St→Option (Prop×St×Nat)
 | [],_=>none
 | o::rest,s=>match o.guard,x3 E.nt o.dst with
  | none,true=>(match a3c o.op with
   | true=>(match o.dst with
    | some d1=>(match !Nat.beq d1 d && !(a4y o).contains d && (x::ys).all (fun z=>match z with|.tmp t=>!Nat.beq t d1|_=>true),(match l4 E o s with|.fail _=>none|.ok v _=>some (True,v)|.B1 p v _=>some (p,v)) with
     | true,some (p,v)=>(match a5w E g x ys d rest (s.put (some d1) v) with
      | some (p2,s2,n)=>some (p∧p2,s2,n+1)
      | none=>none)
     | _,_=>none)
    | none=>none)
   | false=>(match o.op with
    | .store T2 ad (.tmp d')=>(match Nat.beq d' d && (match ad with|.tmp t=>!Nat.beq t d|_=>true) with
     | true=>(match b3B E T2 g (s.ev x) ys (s.ev ad) d s with
      | some (p,s2)=>some (p,s2.put o.dst (.raw undef),1)
      | none=>none)
     | false=>none)
    | _=>none))
  | _,_=>none

def b6y (E:Env) (o:Oper) (rest:List Oper) (s:St):Option (Prop×St×Nat) :=
 match o.guard,o.dst,x3 E.nt o.dst,o.op with
 | none,some d,true,.call c=>(match c.callee,c.args.toList with
  | .value (.func g),x::ys=>(match s.ev x with
   | .at_ i p=>(match (AV.at_ i p).L6 s with
    | some _=>none
    | none=>a5w E g x ys d rest s)
   | _=>none)
  | _,_=>none)
 | _,_,_,_=>none

def muV (t:Ty) (u:Ty) (y:u.den):Option (Prop×List t.den) :=
 match u,y with
 | .d0 true b,y=>if h:b=t then some (True,h▸y) else none
 | .r7 b,y=>if h:b=t then (match b.shared with|true=>some (1≤y.1∧y.1≤2,h▸y.2.1)|false=>none) else none
 | _,_=>none

def muB (t:Ty) (u:Ty) (l:List t.den):Sigma Ty.den :=
 match u with
 | .r7 _=>⟨.r7 t,(1,l,[])⟩
 | _=>⟨.d0 true t,l⟩

def b3C (E:Env) (o:Oper) (s:St):Option (Prop×St) :=
 match o.guard,x3 E.nt o.dst,o.op with
 | none,true,.call c=>(match c.callee,c.args.toList with
  | .value (.func g),x::ys=>(match look g E.G8,s.ev x with
   | some ⟨.mu t::ks,[],pre,_,out,_⟩,.at_ i (st::p)=>(match s.obj i,(match u6 ks with|[]=>true|_=>false) && (Ty.d0 true t).E2 with
    | some e,true=>(match i6 e.ty e.x (st::p),a30 s ks i e (st::p) t ys with
     | some ⟨u,l0⟩,some (y,[],[])=>(match muV t u l0 with
      | some (q,l)=>(match m0 e.ty e.x (st::p) (muB t u (out (l,y)).1).1 (muB t u (out (l,y)).1).2 with
       | some r=>(match a3w e (st::p) r && (!u.a5t || !(H7.loose ks (s.C8 ys)).contains i) with
        | true=>some (q∧pre (l,y),((s.N0 i e.O5).o7 i (e.w4 r)).put o.dst (.F0 .nil))
        | false=>none)
       | none=>none)
      | none=>none)
     | _,_=>none)
    | _,_=>none)
   | _,_=>none)
  | _,_=>none)
 | _,_,_=>none

def PK.i7:PK→Bool
 | .own _|.rw _|.mu _=>true
 | _=>false

def a9Z:List Step→List Step→Option Int
 | [],[.idx k]=>some k
 | .i9 a::q,.i9 b::p=>match Nat.beq a b with|true=>a9Z q p|false=>none
 | _,_=>none

def E1 (s:St):AV→(ks:List PK)→Option Nat→Option (FuncId×Nat)→Option (DK ks×List Nat)
 | .rc f l,ks,_,none=>E1 s l ks none (some (f,0))
 | .nil,[],_,none=>some ((),[])
 | .nil,[.R8 g n],_,some (f,k)=>match Nat.beq g f && Nat.beq n k with
  | true=>some (((),()),[])
  | false=>none
 | .cons a b,.rw t::ks,_,tl=>match a.G4 s (.rw t),a with
  | some (x,[],m),.ptr i []=>(match E1 s b ks (some i) (tl.map fun q=>(q.1,q.2+1)) with
   | some (y,m')=>some ((x,y),m++m')
   | none=>none)
  | _,_=>none
 | .cons a b,.v t::ks,_,tl=>match a.G4 s (.v t) with
  | some (x,[],[])=>(match E1 s b ks none (tl.map fun q=>(q.1,q.2+1)) with
   | some (y,m')=>some ((x,y),m')
   | none=>none)
  | _=>none
 | .cons a b,.rd t::ks,_,tl=>match a.G4 s (.rd t) with
  | some (x,[],[])=>(match E1 s b ks none (tl.map fun q=>(q.1,q.2+1)) with
   | some (y,m')=>some ((x,y),m')
   | none=>none)
  | _=>none
 | .cons a b,.el q::ks,some j,tl=>match a with
  | .ptr i p=>(match Nat.beq i j,a9Z q p with
   | true,some k=>(match E1 s b ks none (tl.map fun q=>(q.1,q.2+1)) with
    | some (y,m')=>some ((k,y),m')
    | none=>none)
   | _,_=>none)
  | _=>none
 | _,_,_,_=>none

def a0j:AV→List PK→List Nat
 | .rc _ l,ks=>a0j l ks
 | .cons _ b,.rw _::ks=>a0j b ks
 | .cons _ b,.el _::ks=>a0j b ks
 | .cons a b,_::ks=>a.C2++a0j b ks
 | _,_=>[]

def wrL:(ks:List PK)→DL (u6 ks)→List Nat→Option (List (Nat×Sigma Ty.den))
 | [],_,[]=>some []
 | .rw t::ks,y,i::m=>match wrL ks y.2 m with
  | some l=>some ((i,⟨t,y.1⟩)::l)
  | none=>none
 | .v _::ks,y,m=>wrL ks y m
 | .rd _::ks,y,m=>wrL ks y m
 | .R8 _ _::ks,y,m=>wrL ks y m
 | .el _::ks,y,m=>wrL ks y m
 | _,_,_=>none

def AV.a66 (kp:List Step→Bool) (m:List Nat) (v:AV):AV :=
 match v with
 | .ptr j p=>(match m.contains j && !(a2k p || kp p) with|true=>.any|false=>.ptr j p)
 | .at_ j p=>(match m.contains j with|true=>.any|false=>.at_ j p)
 | .sub j p a b=>(match m.contains j with|true=>.any|false=>.sub j p a b)
 | v=>v

def a2U:List (Nat×Sigma Ty.den)→List (Nat×f9)→List (Nat×f9)
 | [],hp=>hp
 | (i,r)::l,hp=>Ex.put i (.var r.1 r.2) (a2U l hp)

def St.wrs (kp:List Step→Bool) (m:List Nat) (l:List (Nat×Sigma Ty.den)) (s:St):St:={ fr:=mapA (AV.map (AV.a66 kp m)) s.fr,hp:=a2U l s.hp }

def pm:List (Option Nat)→List Step→Bool
 | [],[]=>true
 | some n::q,.i9 m::p=>Nat.beq n m && pm q p
 | none::q,.idx _::p=>pm q p
 | _,_=>false

def b3i (pat:List (Option Nat)) (i:Nat):List (Nat×AV)→Option Nat
 | []=>none
 | (t,.ptr j p)::l=>(match Nat.beq j i && pm pat p with
  | true=>some t
  | false=>b3i pat i l)
 | (_,_)::l=>b3i pat i l

def a7I (E:Env) (g:FuncId) (ks:List PK) (m:List Nat) (av:AV) (s:St):Option (Nat×Nat×List Step) :=
 match look g E.keeps,ks,m,av with
 | some pat,.rw _::_,[i],.cons (.ptr _ []) _=>(match b3i pat i s.fr with
  | some t=>(match look t s.fr with
   | some (.ptr j p)=>(match Nat.beq j i && pm pat p with
    | true=>some (t,j,p)
    | false=>none)
   | _=>none)
  | none=>none)
 | _,_,_,_=>none

def St.b6w:Option (Nat×Nat×List Step)→St→St
 | some (t,j,p),s=>{ s with fr:=Ex.put t (.ptr j p) s.fr }
 | none,s=>s

def a9f (E:Env) (o:Oper) (s:St):Option (Prop×St) :=
 match o.guard,x3 E.nt o.dst,o.op with
 | none,true,.call c=>(match c.callee with
  | .value f=>(match s.ev f with
   | .y7 g caps=>(match look g E.G8 with
    | some ⟨ks,[],pre,_,out,_⟩=>(match E1 s ((s.C8 c.args.toList).app caps) ks none none with
     | some (x,m)=>(match a0o m && a92 m (a0j ((s.C8 c.args.toList).app caps) ks) && (u6 ks).all Ty.E2 with
      | true=>(match wrL ks (out x) m with
       | some l=>some (pre x,(St.b6w (a7I E g ks m ((s.C8 c.args.toList).app caps) s) (s.wrs (fun _=>false) m l)).put o.dst (.F0 .nil))
       | none=>none)
      | false=>none)
     | none=>none)
    | _=>none)
   | _=>none)
  | _=>none)
 | _,_,_=>none

def AV.b2Q (d:Nat) (r v:AV):AV :=
 match v.e8 d with
 | false=>v
 | true=>match v with
  | .ptr _ []=>r
  | _=>.any

def AV.a13 (d:Nat):AV→Option AV
 | .cons (.ptr j []) .nil=>match Nat.beq j d with|true=>some .nil|false=>none
 | .cons a b=>match a.e8 d,AV.a13 d b with
  | false,some l=>some (.cons a l)
  | _,_=>none
 | _=>none

def b2P (T:Option TI) (d:Nat) (u:Ty) (v:AV):Option AV :=
 match u,v,T with
 | .fn _,.y7 f caps,some ⟨.fn _,_⟩=>(match AV.a13 d caps with
  | some l=>some (.bx (.y7 f (.rc f l)))
  | none=>none)
 | .box _ none _,.ptr i p,some ⟨.box _ none _,_⟩=>(match Nat.beq i d with
  | false=>some (.bx (.ptr i p))
  | true=>none)
 | _,_,_=>none

def a86 (E:Env) (o:Oper) (s:St):Option St :=
 match E.ps.any PK.i7,o.guard,x3 E.nt o.dst,o.op with
 | false,none,true,.store T a x=>(match s.ev a with
  | .ptr d []=>(match s.obj d,pinned d with
   | some (.var u _),false=>(match b2P (look T E.tt) d u (s.ev x) with
    | some r=>some (({ fr:=mapA (AV.map (AV.b2Q d r)) s.fr,hp:=del d s.hp }:St).put o.dst (.raw undef))
    | none=>none)
   | _,_=>none)
  | _=>none)
 | _,_,_,_=>none

def b3R (E:Env) (o:Oper) (s:St):Option (Prop×St) :=
 match E.rs.any Ty.a5t,o.guard,x3 E.nt o.dst,o.dst with
 | true,none,true,some d=>(match o.op with
  | .makeSlice T x y=>(match look T E.tt,s.ev x,s.ev y with
   | some ⟨.d0 true t,_⟩,.val (.int _) n,.val (.int _) m=>(match s.lay d [] (.r7 t) (2,List.replicate (Int.toNat n) t.n6,List.replicate (Int.toNat m - Int.toNat n) t.n6) with
    | .ok v s'=>some (1≤m∧0≤n∧n≤m∧m≤140737488355328∧m*(t.wb:Nat)≤140737488355328,s'.put (some d) v)
    | _=>none)
   | _,_,_=>none)
  | .slice T x none (some hi) none=>(match s.ev x,S6 s 0 (some hi) with
   | .at_ i [],some n=>(match s.obj i with
    | some (.own (.r7 u) z)=>(match D7 E T (.d0 true u),s.lay d [i] (.r7 u) (2,(z.2.1++z.2.2).take n.toNat,(z.2.1++z.2.2).drop n.toNat) with
     | true,.ok v s'=>some (z.1=2∧0≤n∧n≤(z.2.1.length+z.2.2.length:Nat),s'.put (some d) v)
     | _,_=>none)
    | _=>none)
   | _,_=>none)
  | .call c=>(match c.callee,c.args.toList,c.argTypes.toList with
   | .builtin .append,[x,y],[T,U]=>(match E.P.underlying U,look T E.tt,s.ev x with
    | some (.slice _),some ⟨.d0 _ t0,_⟩,.at_ i []=>(match s.obj i,(s.ev y).T6 s t0 with
     | some (.own (.r7 u) z),some (⟨t,m⟩,[]) =>
      if hu:u=t0 then if ht:t=t0 then (match t0.shared,s.lay d [i] (.r7 t0) (2,O6 hu z.2.1++O6 ht m,(O6 hu z.2.2).drop m.length) with
       | true,.ok v s'=>some (z.1=2∧m.length≤z.2.2.length,s'.put (some d) v)
       | _,_=>none) else none else none
     | _,_=>none)
    | _,_,_=>none)
   | _,_,_=>none)
  | _=>none)
 | _,_,_,_=>none

def a5s (E:Env) (o:Oper) (s:St):Option (Prop×St) :=
 match a9f E o s with
 | some r=>some r
 | none=>match a86 E o s with
  | some s'=>some (True,s')
  | none=>b3R E o s

def a0q:Ty→Ty→Bool
 | .pair a b,.pair c d=>a0q a c && a0q b d
 | .arr n a,.arr m b=>Nat.beq n m && a0q a b
 | .d0 true a,.d0 true b=>a0q a b
 | .d0 _ a,.r7 b=>decide (a=b)
 | a,b=>decide (a=b)

def msV:(u t:Ty)→u.den→t.den
 | .pair a b,.pair c d,y=>(msV a c y.1,msV b d y.2)
 | .arr n a,.arr _ b,y=>if h:a=b then h▸y else List.map (msV a b) y
 | .d0 true a,.d0 true b,y=>if h:a=b then h▸y else List.map (msV a b) y
 | .d0 true a,.r7 b,y=>if h:a=b then (1,h▸y,[]) else (1,[],[])
 | .d0 false a,.r7 b,y=>if h:a=b then (0,h▸y,[]) else (0,[],[])
 | a,b,y=>if h:a=b then h▸y else b.n6

def a4Q:(u t:Ty)→u.den→Option t.den
 | .pair a b,.pair c d,y=>(match a4Q a c y.1,a4Q b d y.2 with
  | some x1,some x2=>some (x1,x2)
  | _,_=>none)
 | u,t,y=>if h:u=t then some (D8 h y) else if h:u.sh=t then (match u.M8 with
  | true=>some (cast ((A7 u).symm.trans (congrArg Ty.den h)) y)
  | false=>none) else (match a0q u t with
  | true=>some (msV u t y)
  | false=>none)

def AV.b6x (i:Nat) (v:AV):AV :=
 match v.e8 i with
 | false=>v
 | true=>match v with
  | .ptr j []=>.ptr j []
  | _=>.any

def St.a67 (i:Nat) (s:St):St:={ s with fr:=mapA (AV.map (AV.b6x i)) s.fr }

def AV.b7J (s:St) (i:Nat) (t:Ty) (v:AV):AV :=
 match v.e8 i with
 | false=>v
 | true=>match v.asV s t with
  | some x=>.val t x
  | none=>(match v with
   | .ptr j p=>(match s.a1a t j p with
    | some x=>.N1 t x
    | none=>.any)
   | _=>.any)

def St.a2j (i:Nat) (t:Ty) (s:St):St:={ fr:=mapA (AV.map (AV.b7J s i t)) s.fr,hp:=del i s.hp }

def a3I (s:St):List AV→Option (Nat×Ty)
 | []=>none
 | .sub i [] _ _::l=>(match s.obj i,l.any (·.e8 i),pinned i with
  | some (.own (.d0 true u) _),true,false=>some (i,.d0 false u.sh)
  | _,_,_=>a3I s l)
 | .at_ i []::l=>(match s.obj i,l.any (·.e8 i),pinned i with
  | some (.own (.d0 true u) _),true,false=>some (i,.d0 false u.sh)
  | _,_,_=>a3I s l)
 | _::l=>a3I s l

def b8k:AV→Bool
 | .val (.d0 false _) _=>true
 | _=>false

def a6l (s:St):List AV→Option (Nat×Ty)
 | []=>none
 | .at_ i []::l=>(match s.obj i,pinned i with
  | some (.own (.d0 true u) _),false=>some (i,.d0 false u.sh)
  | _,_=>a6l s l)
 | _::l=>a6l s l

def b6T (s:St) (l:List AV):Option (Nat×Ty) :=
 match a3I s l,l.any b8k with
 | some r,_=>some r
 | none,true=>a6l s l
 | none,false=>none

def St.a3R:List Nat→St→St
 | [],s=>s
 | i::l,s=>(match s.obj i,pinned i with
  | some (.own (.d0 true u) _),false=>St.a3R l (s.a2j i (.d0 false u.sh))
  | _,_=>St.a3R l s)

def a93 (E:Env) (o:Oper) (s:St):Option St :=
 match E.ps.any PK.i7,o.op with
 | false,.call c=>(match c.callee,c.args.toList with
  | .value (.func g),x::_=>(match look g E.G8,s.ev x with
   | some ⟨.rw t::_,_,_,_,_,_⟩,.ptr i []=>(match s.obj i with
    | some (.var u y)=>(match decide (u=t) with
     | true=>none
     | false=>(match a4Q u t y with
      | some z=>some ((s.a67 i).o7 i (.var t z))
      | none=>none))
    | _=>none)
   | some ⟨.rd t::_,rs,_,_,_,nw⟩,.ptr i []=>(match rs.all Ty.E2 || nw,pinned i,s.a1a t i [] with
    | false,false,some _=>some (s.a2j i t)
    | _,_,_=>none)
   | some ⟨ps,rs,_,_,_,nw⟩,_=>(match rs.all Ty.E2 || nw with
    | true=>none
    | false=>some (s.a3R (H7.loose ps (s.C8 c.args.toList))))
   | _,_=>none)
  | _,_=>none)
 | false,.buildSlice _ _ parts=>(match b6T s (parts.toList.map fun q=>s.ev q.2) with
  | some (i,t)=>(match pinned i with
   | false=>some (s.a2j i t)
   | true=>none)
  | none=>none)
 | _,_=>none

def PK.O5:PK→Bool
 | .own _=>true
 | _=>false

def a88 (E:Env) (o:Oper) (s:St):Option St :=
 match o.op with
 | .call c=>(match c.callee,c.args.toList with
  | .value (.func g),.tmp tx::_=>(match look g E.G8,look tx s.fr with
   | some ⟨.own (.d0 true t)::ks,rs,_,_,_,_⟩,some (.at_ i (st::p))=>(match s.obj i with
    | some (.var u y)=>(match i6 u y (st::p),m0 u y (st::p) (.hole t) ([]:List t.den) with
     | some ⟨v,l⟩,some r =>
      if h:v=.d0 true t then
       (match (ks.any PK.O5 || rs.isEmpty) && ((s.kill i (f9.var u y).kd (st::p)).o7 i (.var r.1 r.2)).fresh (1600000+tx) with
       | true=>some { ((s.kill i (f9.var u y).kd (st::p)).o7 i (.var r.1 r.2)).o7 (1600000+tx) (.own (.d0 true t) (D8 h l)) with fr:=Ex.put tx (.at_ (1600000+tx) []) ((s.kill i (f9.var u y).kd (st::p)).o7 i (.var r.1 r.2)).fr }
       | false=>none)
      else none
     | _,_=>none)
    | _=>none)
   | _,_=>none)
  | _,_=>none)
 | _=>none

def b26 (E:Env) (o:Oper) (s:St):St :=
 match o.op with
 | .call c=>(match c.callee,c.args.toList with
  | .value (.func g),x::_=>(match look g E.G8,s.ev x with
   | some ⟨.mu _::_,_,_,_,_,_⟩,.at_ i []=>(match s.obj i with
    | some (.own (.r7 t) z)=>(match Nat.ble 1 z.1 && Nat.ble z.1 2 with
     | true=>match t.shared with|false=>s|true=>{ fr:=mapA (AV.map fun v=>match v.e8 i with|false=>v|true=>match v with|.at_ j []=>.at_ j []|_=>.any) s.fr,hp:=Ex.put i (.own (.d0 true t) z.2.1) s.hp }
     | false=>s)
    | _=>s)
   | _,_=>s)
  | _,_=>s)
 | _=>s

def b6r (E:Env) (o:Oper) (s:St):St:=(a88 E o ((a93 E o s).getD s)).getD ((a93 E o s).getD s)
def b22 (E:Env) (o:Oper) (s:St):St:=b6r E o (b26 E o s)

def a1B (E:Env) (ops:Array Oper):Nat→List Oper→St→(St→Tree (E.rs++u6 E.ps))→Tree (E.rs++u6 E.ps)
 | _,[],s,k=>k s
 | n+1,_::rest,s,k=>a1B E ops n rest s k
 | 0,o::rest,s0,k=>let s:=b22 E o s0
  match b6z E o rest s with
  | some (p,s',n)=>.n8 p (a1B E ops n rest s' k)
  | none=>match b6y E o rest s with
  | some (p,s',n)=>.n8 p (a1B E ops n rest s' k)
  | none=>match b3C E o s with
  | some (p,s')=>.n8 p (a1B E ops 0 rest s' k)
  | none=>match a5s E o s with
  | some (p,s')=>.n8 p (a1B E ops 0 rest s' k)
  | none=>match o.guard,x3 E.nt o.dst,brA E s o with
   | none,true,some (p,v1,v2)=>.both p (a1B E ops 0 rest (s.put o.dst v1) k) (a1B E ops 0 rest (s.put o.dst v2) k)
   | _,_,_=>U0 E ops o s fun s'=>a1B E ops 0 rest s' k

/-! ### regions whose order is drawn -/
def OR.get:OR→Option (Prop×AV×St)
 | .fail _=>none
 | .ok v s=>some (True,v,s)
 | .B1 p v s=>some (p,v,s)

def F7 (E:Env) (o:Oper) (s:St):Option (Prop×St) :=
 match x3 E.nt o.dst with
 | false=>none
 | true =>
 match o.op with
 | .pick c a b=>match s.ev c with
  | .val .bool g=>some (True,s.put o.dst (match g with|true=>s.ev a|false=>s.ev b))
  | _=>none
 | _=>match (l4 E o s).get with
  | none=>none
  | some (p,v,s')=>some (p,s'.put o.dst v)

def q8 (E:Env) (ops:Array Oper) (o:Oper) (s:St):Option (Prop×St) :=
 match o.guard with
 | none=>F7 E o s
 | some (j,want)=>match a0x ops j with
  | none=>none
  | some g=>match s.ev (.tmp g) with
   | .raw (.tuple _)=>match x3 E.nt o.dst with
    | true=>some (True,s.put o.dst (.raw undef))
    | false=>none
   | .val .bool b=>match x3 E.nt o.dst with
    | false=>none
    | true=>match b == want with
     | true=>F7 E o (s.put (some g) (.val .bool b))
     | false=>some (True,(s.put (some g) (.val .bool b)).put o.dst (.raw undef))
   | _=>none

def looks (ops:Array Oper) (o:Oper):List Nat :=
 (o.op.operands.toList.filterMap fun|.tmp t=>some t|_=>none) ++
 (match o.guard with
 | some (g,_)=>(a0x ops g).toList
 | none=>[])

def b48 (ops:Array Oper) (x y:Oper):Bool :=
 (match x.dst with
 | some d=>!(looks ops y).contains d && (match y.dst with|some e=>!(Nat.beq d e)|none=>true)
 | none=>true) &&
 (match y.dst with
 | some d=>!(looks ops x).contains d
 | none=>true)

def indep (ops:Array Oper) (x y:Oper):Bool:=b48 ops x y && !(Nat.beq ((x.dst.getD 0) % 1000) ((y.dst.getD 0) % 1000))

def i7 (E:Env) (o:Oper) (s:St):List Nat :=
 match o.op with
 | .store _ a x=>(s.ev a).C2++(s.ev x).C2
 | .box _ x=>(s.ev x).C2
 | .build _ parts=>(s.C8 (parts.toList.map (·.2))).C2
 | .buildSlice _ _ parts=>(s.C8 (parts.toList.map (·.2))).C2
 | .mapUpdate _ m _ _=>(s.ev m).C2
 | .call c=>(match c.callee with
  | .value f=>(match s.ev f with
   | .y7 g caps=>(match look g E.G8 with
    | some c'=>(match c'.ps.any PK.i7 with
     | false=>[]
     | true=>((s.C8 c.args.toList).app caps).C2)
    | none=>[])
   | .val (.fn g) _=>(match look g E.G8 with
    | some c'=>(match c'.ps.any PK.i7 with
     | false=>[]
     | true=>((s.C8 c.args.toList).app .nil).C2)
    | none=>[])
   | .val (.box false (some g) t) y=>(match look g E.G8 with
    | some c'=>(match c'.ps.any PK.i7 with
     | false=>[]
     | true=>((s.C8 c.args.toList).app (.cons (.N1 t (Option.getD (y:Option t.den) t.n6)) .nil)).C2)
    | none=>[])
   | _=>[])
  | .builtin .append=>(s.C8 c.args.toList).C2
  | .builtin .copy=>(s.C8 c.args.toList).C2
  | .builtin .clear=>(s.C8 c.args.toList).C2
  | _=>[])
 | _=>[]

structure Met where
 i:Nat
 o:Oper
 s:St
 T:List Nat

def x7 (o:Oper) (v:AV):AV :=
 match o.guard,o.op with
 | none,.extract _ j=>(match v with
  | .F0 l=>(match l4.nth j l with
   | some v=>.F0 (.cons v .nil)
   | none=>.any)
  | _=>.any)
 | _,_=>v

def a3H (ops:Array Oper) (e:Met) (y:Oper) (Ty:List Nat):Bool :=
 (match e.T with
  | []=>true
  | T=>((looks ops y).all fun m=>T.all fun i=>!(x7 y (e.s.get m)).e8 i) && T.all fun i=>!(Nat.beq (i % 1000) ((y.dst.getD 0) % 1000))) &&
 (match Ty with
  | []=>true
  | T=>(looks ops e.o).all fun m=>T.all fun i=>!(x7 e.o (e.s.get m)).e8 i)

def s4:List Oper→List Nat→List Nat
 | [],acc=>acc
 | o::l,acc=>s4 l (acc++[o.after.toList.foldl (fun m e=>match Region.binds .any e with|true=>Nat.lor (Nat.lor m (2^e.on)) (acc.getD e.on 0)|false=>m) 0])

def b6C (_:List Nat) (o:Oper) (_ i:Nat):Bool :=
 o.after.toList.all fun e=>!Region.binds .any e || Nat.blt e.on i

def b4x (M:List Nat) (o:Oper) (m n:Nat):Bool :=
 (List.range n).all fun j=>!(m.testBit j) || o.after.toList.any fun e=>Region.binds .any e && (Nat.beq e.on j || (M.getD e.on 0).testBit j)

def M4 (ops:Array Oper):Bool :=
 let M:=s4 ops.toList []
 let L:=ops.toList
 let n:=L.length
 (List.range n).all fun i=>match L[i]? with
  | none=>false
  | some o=>b6C M o (M.getD i 0) i && b4x M o (M.getD i 0) n &&
   (List.range i).all fun j=>match L[j]? with
    | none=>false
    | some x=>(M.getD i 0).testBit j || indep ops x o

def AV.clean:AV→Bool
 | .ptr _ _|.at_ _ _|.sub _ _ _ _=>false
 | .cons a b=>a.clean && b.clean
 | .F0 l|.y7 _ l|.bx l|.rc _ l=>l.clean
 | _=>true

def a5k {α:Type _}:List (Nat×α)→Bool
 | []=>true
 | (n,_)::l=>(match l with
  | []=>true
  | (m,_)::_=>Nat.blt n m) && a5k l

def Q0:List Nat→Bool
 | []=>true
 | a::l=>!l.contains a && Q0 l

def a1c (ops:List Oper):List Nat:=ops.filterMap (·.dst)

def a0d (ops:Array Oper) (s:St):Bool :=
 a5k s.fr && Q0 (a1c ops.toList) && (a1c ops.toList.dropLast).all fun d=>(s.get d).clean

def a1b (ops:Array Oper) (j:Nat):Bool:=(List.range ops.size).all fun i=>!Nat.blt j i || ((s4 ops.toList []).getD i 0).testBit j

def a6o (ops:Array Oper) (s:St):Bool :=
 a5k s.fr && Q0 (a1c ops.toList) && (List.range ops.size).all fun j=>a1b ops j || (match ops[j]? with
  | some o=>(match o.dst with
   | some d=>(s.get d).clean
   | none=>true)
  | none=>true)

def I5:Code→Nat
 | .region id _ _=>id
 | .seq a _=>I5 a
 | .block _ c=>I5 c
 | .loop c=>I5 c
 | .cond _ a _=>I5 a
 | _=>0

structure Y1 where
 k:Nat
 x:Operand
 y:Operand
 T:TypeId
 U:TypeId
 d:Nat

def b3O (E:Env) (o:Oper) (s:St) (i:Nat):Option Y1 :=
 match o.guard,o.dst,x3 E.nt o.dst,o.op with
 | none,some d,true,.call c=>(match c.callee,c.args.toList,c.argTypes.toList with
  | .builtin .append,[x,y],[T,U]=>(match s.ev x with
   | .at_ j p=>(match (AV.at_ j p).L6 s with
    | some _=>none
    | none=>some ⟨i,x,y,T,U,d⟩)
   | _=>none)
  | _,_,_=>none)
 | _,_,_,_=>none

def a9M (o:Oper):Bool:=match o.guard,o.op with|none,.store _ _ _=>true|_,_=>false

def quiet (o:Oper):Bool :=
 o.guard.isNone && (match o.op with
  | .move _=>true
  | .load _ _=>true
  | .fieldAddr _ _ _=>true
  | .indexAddr _ _ _=>true
  | .nilCheck _=>true
  | _=>false)

def a5r (d:Option Nat) (L:List Nat):Bool :=
 match d with
 | some e=>!L.contains e
 | none=>true

def a6S (ops:Array Oper) (M:List Nat) (k n:Nat):Bool :=
 Nat.beq (n+1) ops.size && Nat.blt k n && (match ops[k]? with
  | some ok=>(List.range n).all fun j=>(M.getD n 0).testBit j && (Nat.beq j k || (match ops[j]? with
   | some o=>a5r o.dst ok.dst.toList && ((M.getD k 0).testBit j || ((quiet o || a9M o) && a5r o.dst (looks ops ok)))
   | none=>false))
  | none=>false)

def a2g (ops:Array Oper) (q:Y1) (n j:Nat) (o:Oper) (s:St):Bool :=
 match o.op with
 | .store _ ad x=>(match s.ev ad,s.ev x with
  | .ptr j0 _,.val _ _=>!(s.ev q.x).e8 j0 && !(s.ev q.y).e8 j0
  | _,_=>false) && o.guard.isNone && o.dst.isNone && (List.range n).all fun j'=>Nat.ble j' j || (match ops[j']? with
   | some o'=>a5r o'.dst (looks ops o)
   | none=>true)
 | _=>false

def a62 (ops:Array Oper) (M:List Nat) (q:Y1) (n:Nat) (s:St):Bool :=
 (List.range n).all fun j=>Nat.beq j q.k || (match ops[j]? with
  | some o=>(M.getD q.k 0).testBit j || quiet o || a2g ops q n j o s
  | none=>true)

def a7N (E:Env) (ops:Array Oper) (M:List Nat) (q:Y1) (i:Nat) (o:Oper) (s:St):Option (Prop×St) :=
 match o.guard,o.op with
 | none,.store T2 ad (.tmp d')=>(match Nat.beq d' q.d && (match ad with|.tmp t=>!Nat.beq t q.d|_=>true) && a6S ops M q.k i && a62 ops M q i s && x3 E.nt o.dst with
  | true=>(match a40 E q.T q.U T2 (s.ev q.x) (s.ev q.y) (s.ev ad) q.d s with
   | some (p,s2)=>some (p,s2.put o.dst (.raw undef))
   | none=>none)
  | false=>none)
 | _,_=>none

def a9y (E:Env) (ops:Array Oper) (M:List Nat) (q:Y1):Nat→List Oper→St→List Met→(St→Tree (E.rs++u6 E.ps))→Tree (E.rs++u6 E.ps)
 | _,[],_,_,_=>.stuck "draw: pending"
 | i,[o],s,_,k=>(match a7N E ops M q i o s with
  | some (p,s2)=>.n8 p (k s2)
  | none=>.stuck "draw: append")
 | i,o::o2::rest,s,acc,k =>
  match acc.all fun e=>(M.getD i 0).testBit e.i || a3H ops e o (i7 E o s) with
  | false=>.stuck "draw: objects"
  | true=>U0 E ops o s fun s'=>a9y E ops M q (i+1) (o2::rest) s' (⟨i,o,s,i7 E o s⟩::acc) k

def b2U (E:Env) (ops:Array Oper) (M:List Nat):Nat→List Oper→St→List Met→(St→Tree (E.rs++u6 E.ps))→Tree (E.rs++u6 E.ps)
 | _,[],s,_,k=>k s
 | i,o::rest,s,acc,k =>
  match b3O E o s i with
  | some q=>a9y E ops M q (i+1) rest s acc k
  | none=>match acc.all fun e=>(M.getD i 0).testBit e.i || a3H ops e o (i7 E o s) with
   | false=>.stuck "draw: objects"
   | true=>U0 E ops o s fun s'=>b2U E ops M (i+1) rest s' (⟨i,o,s,i7 E o s⟩::acc) k

def b2T (E:Env) (ops:Array Oper) (M:List Nat):Nat→List Oper→St→List Met→(St→Tree (E.rs++u6 E.ps))→Tree (E.rs++u6 E.ps)
 | _,[],s,_,k=>k s
 | i,o::rest,s,acc,k =>
  match acc.all fun e=>(M.getD i 0).testBit e.i || a3H ops e o (i7 E o s) with
  | false=>.stuck "draw: objects"
  | true=>U0 E ops o s fun s'=>b2T E ops M (i+1) rest s' (⟨i,o,s,i7 E o s⟩::acc) k

def b5v (ops:Array Oper) (s:St) (t:Nat):Option Nat :=
 ops.toList.findSome? fun o=>match o.dst,o.op with
  | some d,.slice _ (.tmp a) _ _ _=>(match Nat.beq d t with
   | true=>ops.toList.findSome? fun o2=>(match o2.dst,o2.op with
    | some d2,.move (.tmp x)=>(match Nat.beq d2 a,look x s.fr with
     | true,some (.at_ i [])=>some i
     | _,_=>none)
    | _,_=>none)
   | false=>none)
  | _,_=>none

def b6G (ops:Array Oper) (s:St):Option Nat :=
 ops.toList.findSome? fun o=>match o.op with
  | .buildSlice _ _ parts=>(match parts.toList.filterMap fun q=>(match q.2 with|.tmp t=>b5v ops s t|_=>none) with
   | i::j::_=>(match Nat.beq i j with|true=>some i|false=>none)
   | _=>none)
  | _=>none

def a3j (E:Env):List (Nat×Option Ty)→St→St
 | [],s=>s
 | (m,some t)::l,s=>a3j E l (match E.ps.any PK.i7,s.get m with
  | false,.ptr i []=>(match s.obj i with
   | some (.var u y)=>(match decide (u=t) with
    | true=>s
    | false=>(match a4Q u t y with
     | some z=>(s.a67 i).o7 i (.var t z)
     | none=>s))
   | _=>s)
  | _,_=>s)
 | (_,none)::l,s=>a3j E l s

def b4n (ops:Array Oper):Nat:=(ops.toList.findSome? fun o=>o.dst).getD 0

def b2Z (E:Env) (ops:Array Oper) (s:St):St :=
 match look (998000+b4n ops) E.J6 with
 | some l=>a3j E l s
 | none=>s

def b20 (E:Env) (ops:Array Oper) (s:St):St :=
 match E.ps.any PK.i7,b6G ops s with
 | false,some i=>(match s.obj i,pinned i with
  | some (.own (.d0 true u) _),false=>s.a2j i (.d0 false u.sh)
  | _,_=>s)
 | _,_=>s

def a3G (E:Env) (ops:Array Oper) (s:St):St:=b20 E ops (b2Z E ops s)

def a9v (E:Env) (ops:Array Oper) (M:List Nat):Nat→List Oper→St→List Met→(St→Tree (E.rs++u6 E.ps))→Tree (E.rs++u6 E.ps)
 | _,[],_,_,_=>.stuck "draw: nothing"
 | i,[o],s,_,k=>match (List.range i).all (fun j=>(M.getD i 0).testBit j),a5s E o s with
  | true,some (p,s2)=>.n8 p (k s2)
  | _,_=>.stuck "draw: last"
 | i,o::o2::rest,s,acc,k =>
  match acc.all fun e=>(M.getD i 0).testBit e.i || a3H ops e o (i7 E o s) with
  | false=>.stuck "draw: objects"
  | true=>U0 E ops o s fun s'=>a9v E ops M (i+1) (o2::rest) s' (⟨i,o,s,i7 E o s⟩::acc) k

def PK.b8m:PK→Bool
 | .el _=>true
 | _=>false

def b8d (E:Env) (ops:Array Oper):Bool :=
 match ops.toList.getLast? with
 | some o=>(match o.guard,o.op with
  | none,.call c=>(match c.callee with
   | .value (.tmp t)=>ops.toList.any fun x=>(match x.dst,x.op with
    | some d,.load T _=>Nat.beq d t && (match look T E.tt with
     | some ⟨.fn _,_⟩=>true
     | _=>false)
    | _,_=>false)
   | .value (.func g)=>(match look g E.G8 with
    | some c=>(match c.rs with
     | []=>c.ps.any PK.b8m
     | _=>false)
    | none=>false)
   | _=>false)
  | _,_=>false)
 | none=>false

def Ty.U3:Ty→Bool
 | .int _|.bool|.str|.unit=>true
 | .pair a b=>a.U3 && b.U3
 | _=>false

def M7 (o:Oper) (s:St):Bool :=
 match o.guard,o.op with
 | none,.store _ a x=>(match s.ev a,s.ev x with
  | .ptr _ _,.val t _=>t.U3
  | _,_=>false)
 | _,_=>false

def a3o (o:Oper):Bool :=
 match o.guard,o.op with
 | none,.indexAddr _ _ _=>true
 | none,.fieldAddr _ _ _=>true
 | _,_=>false

def G7 (o:Oper) (s:St):Bool :=
 match o.guard,o.op with
 | none,.indexAddr _ a i=>(match s.ev a,s.ev i with
  | .at_ _ _,.val (.int _) _=>true
  | _,_=>false)
 | none,.fieldAddr _ a _=>(match s.ev a with
  | .ptr _ _=>true
  | _=>false)
 | _,_=>false

def a0f (o:Oper) (s:St):Option (Nat×(Bool×Ty)×List Step) :=
 match M7 o s,o.op with
 | true,.store _ a _=>(match s.ev a with
  | .ptr j q=>(look j s.hp).map fun e=>(j,e.kd,q)
  | _=>none)
 | _,_=>none

def B2:Ty→List Step→Option Ty
 | t,[]=>some t
 | .pair a _,.i9 0::p=>B2 a p
 | .pair _ b,.i9 (n+1)::p=>B2 b (.i9 n::p)
 | .arr _ t,.idx _::p=>B2 t p
 | .d0 true t,.idx _::p=>B2 t p
 | _,_=>none

def a2G (j:Nat) (kd:Bool×Ty) (q:List Step) (v:AV):Bool :=
 match v with
 | .ptr i p=>!Nat.beq j i || kp q p
 | .at_ i p=>!Nat.beq j i || (match AV.a0b j kd q (.at_ i p) with|.at_ _ _=>true|_=>false)
 | .val _ _=>true
 | _=>false

def N5 (s:St) (i:Nat):Option (Bool×Ty):=(look i s.hp).map f9.kd

def a1O (o:Oper) (s:St) (j:Nat) (kd:Bool×Ty) (q:List Step):Bool :=
 match o.guard,o.op with
 | none,.move a=>a2G j kd q (s.ev a)
 | none,.fieldAddr _ a n=>(match s.ev a with
  | .ptr i p=>a2G j kd q (.ptr i p) && a2G j kd q (.ptr i (p++[.i9 n]))
  | _=>false)
 | none,.load _ a=>(match s.ev a with
  | .ptr i p=>a2G j kd q (.ptr i p) && a2G j kd q (.at_ i p) && (match N5 s i with
   | some k=>(match B2 k.2 p with
    | some u=>!u.shared
    | none=>false)
   | none=>false)
  | _=>false)
 | _,_=>false

def b3d (e:Met) (y:Oper) (s:St):Bool :=
 match a0f y s with
 | some (j,kd,q)=>a1O e.o e.s j kd q
 | none=>false

def b8l (o:Oper):Bool:=match o.guard,o.op with|none,.move _=>true|none,.fieldAddr _ _ _=>true|none,.load _ _=>true|_,_=>false
def b8n (o:Oper):Bool:=match o.op with
 | .call c=>(match c.callee with|.builtin .append=>true|_=>false)
 | _=>false

def a70 (ops:Array Oper):List Nat:=ops.toList.filterMap fun o=>match a3o o with|true=>o.dst|false=>none

def a87 (ops:Array Oper) (e:Met) (y:Oper) (Ty:List Nat) (s:St):Bool :=
 (a3H ops e y Ty && (match e.T with|[]=>true|_=>(looks ops y).all fun m=>!(a70 ops).contains m)) || (M7 e.o e.s && G7 y s) || b3d e y s

def b8a (ops:Array Oper) (M:List Nat):Bool :=
 ((List.range ops.size).any fun i=>match ops[i]? with
  | some o=>a3o o && (List.range i).any fun j=>!(M.getD i 0).testBit j && (match ops[j]? with
   | some x=>a9M x
   | none=>false)
  | none=>false) ||
 (!(ops.toList.any b8n) && Nat.blt 1 (ops.toList.filter a9M).length && (List.range ops.size).any fun i=>match ops[i]? with
  | some o=>a9M o && (List.range i).any fun j=>!(M.getD i 0).testBit j && (match ops[j]? with
   | some x=>b8l x
   | none=>false)
  | none=>false)

def b2V (E:Env) (ops:Array Oper) (M:List Nat):Nat→List Oper→St→List Met→(St→Tree (E.rs++u6 E.ps))→Tree (E.rs++u6 E.ps)
 | _,[],s,_,k=>k s
 | i,o::rest,s,acc,k =>
  match acc.all fun e=>(M.getD i 0).testBit e.i || a87 ops e o (i7 E o s) s with
  | false=>.stuck "draw: addresses"
  | true=>U0 E ops o s fun s'=>b2V E ops M (i+1) rest s' (⟨i,o,s,i7 E o s⟩::acc) k

def E0:List Oper→St→St
 | [],s=>s
 | o::l,s=>match o.op with
  | .call c=>(match c.callee,o.dst with
   | .builtin .append,some d=>E0 l { s with fr:=Ex.put d .any s.fr }
   | _,_=>E0 l s)
  | _=>E0 l s

def b4a (i:Nat) (s:St):List Nat→Bool
 | []=>false
 | t::l=>(s.get t).e8 i || b4a i s l

def I4 (live:List Nat) (s0:St):List (Nat×f9)→St→St
 | [],s=>s
 | (i,_)::l,s=>match pinned i || b4a i s0 live with
  | true=>I4 live s0 l s
  | false=>I4 live s0 l (s.drop i)

def AV.ren (i j:Nat):AV→AV:=AV.map fun v =>
 match v.e8 i with
 | false=>v
 | true=>match v with
  | .ptr _ p=>.ptr j p
  | .at_ _ p=>.at_ j p
  | .sub _ p a b=>.sub j p a b
  | _=>.any

def settle (m:Nat) (t:Ty) (s:St):St :=
 match s.get m with
 | .raw (.slice none 0 0)=>(match t,s.fresh (1000000+m) with
  | .d0 true u,true=>{ s.o7 (1000000+m) (.own (.d0 true u) ([]:List u.den)) with fr:=Ex.put m (.at_ (1000000+m) []) s.fr }
  | _,_=>s)
 | .at_ i []=>(match s.obj i with
  | some (.own u x)=>(match pinned i || !s.fresh (1000000+m) with
   | true=>s
   | false=>{ fr:=mapA (AV.ren i (1000000+m)) s.fr,hp:=Ex.put (1000000+m) (.own u x) (del i s.hp) })
  | _=>s)
 | .sub i [] lo hi=>(match (AV.sub i [] lo hi).L6 s with
  | some (⟨u,x⟩,_)=>(match pinned i || !(s.drop i).fresh (1000000+m) with
   | true=>s
   | false=>{ (s.drop i).o7 (1000000+m) (.own u x) with fr:=Ex.put m (.at_ (1000000+m) []) (s.drop i).fr })
  | none=>s)
 | .val u x=>(match decide (u=t) && s.fresh (1000000+m) with
  | true=>{ s.o7 (1000000+m) (.own u x) with fr:=Ex.put m (.at_ (1000000+m) []) s.fr }
  | false=>s)
 | _=>s

def Q4:List (Nat×Option Ty)→St→St
 | [],s=>s
 | (_,none)::l,s=>Q4 l s
 | (m,some t)::l,s=>Q4 l (settle m t s)

def canon (live:List (Nat×Option Ty)) (s:St):St :=
 let ts:=live.map (·.1)
 let s:=I4 ts s s.hp s
 let s:=Q4 live s
 let s:=I4 ts s s.hp s
 { fr:=ts.map fun t=>(t,s.get t),hp:=s.hp }

def St.cutAt (E:Env) (c:Code) (s:St):St:=canon ((look (I5 c) E.J6).getD []) (a3j E ((look (I5 c) E.J6).getD []) s)

def a4s (E:Env) (s:St):List ResultVar→Option AV
 | []=>some .nil
 | .tmp t::l=>match a4s E s l with|some v=>some (.cons (s.ev (.tmp t)) v)|none=>none
 | .cell a T::l=>match s.ev (.tmp a) with
  | .ptr i p=>(match s.part i p with
   | some ⟨u,y⟩=>(match D7 E T u with
    | true=>(match a4s E s l with
     | some v=>(match u.shared with|true=>some (.cons (.val u y) v)|false=>some (.cons (.at_ i p) v))
     | none=>none)
    | false=>none)
   | none=>none)
  | _=>none

def a9t (s:St) (t:Ty) (used:List Nat) (a:AV):Option (t.den×List Nat) :=
 match a with
 | .at_ i []=>(match used.contains i || pinned i with
  | true=>none
  | false=>match s.obj i with
   | some (.var u x)=>if h:u=t then some (D8 h x,i::used) else none
   | some (.own u x)=>if h:u=t then some (D8 h x,i::used) else none
   | _=>none)
 | .sub i [] lo hi=>(match used.contains i || pinned i with
  | true=>none
  | false=>match (AV.sub i [] lo hi).L6 s with
   | some (⟨u,x⟩,_)=>if h:u=t then some (D8 h x,i::used) else none
   | none=>none)
 | .ptr i []=>(match used.contains i || pinned i with
  | true=>none
  | false=>match s.obj i with
   | some (.var u x)=>if h:Ty.box true none u=t then some (D8 h (some x),i::used) else none
   | _=>none)
 | .y7 f (.cons (.ptr i []) .nil)=>(match used.contains i || pinned i with
  | true=>none
  | false=>match s.obj i with
   | some (.var u x)=>if h:Ty.box true (some f) u=t then some (D8 h (some x),i::used) else none
   | _=>none)
 | a=>match a.as t with
  | some x=>some (x,used)
  | none=>none

def a9u (s:St):(rs:List Ty)→List Nat→AV→Option (DL rs)
 | [],_,.nil=>some ()
 | t::ts,used,.cons a b=>match a9t s t used a with
  | some (x,used')=>match a9u s ts used' b with
   | some y=>some (x,y)
   | none=>none
  | none=>none
 | _,_,_=>none

def Y8 (s:St):(ks:List PK)→Nat→Option (DL (u6 ks))
 | [],_=>some ()
 | .rw t::ks,j=>match s.obj (2000000+j),Y8 s ks (j+1) with
  | some (.var u x),some y=>if h:u=t then some (D8 h x,y) else none
  | _,_=>none
 | .mu t::ks,j=>match s.obj (2000000+j),Y8 s ks (j+1) with
  | some (.own u x),some y=>if h:u=.d0 true t then some (D8 h x,y) else none
  | _,_=>none
 | .v _::ks,j=>Y8 s ks (j+1)
 | .rd _::ks,j=>Y8 s ks (j+1)
 | .y7 _ _::ks,j=>Y8 s ks (j+1)
 | .own _::ks,j=>Y8 s ks (j+1)
 | .L5::ks,j=>Y8 s ks (j+1)
 | .R8 _ _::ks,j=>Y8 s ks (j+1)
 | .el _::ks,j=>Y8 s ks (j+1)

def finish (E:Env) (s:St):Tree (E.rs++u6 E.ps) :=
 match a4s E s E.res with
 | none=>.stuck "result"
 | some l=>match a9u s E.rs [] l,Y8 s E.ps 0 with
  | some y,some z=>.ret (DL.app y z)
  | _,_=>.stuck "result: type"

def a19:List ResultVar→List Ty→List (Nat×Option Ty)
 | .cell a _::l,t::ts=>(a,some t)::a19 l ts
 | _::l,_::ts=>a19 l ts
 | _,_=>[]

def a7M (E:Env) (s:St):Tree (E.rs++u6 E.ps) :=
 match E.gp with
 | none=>finish E s
 | some p=>match look D9 s.fr with
  | some (.ptr i q)=>.n8 (i=2000000∧q=p∧E.nt≤D9) (finish E s)
  | _=>.stuck "ghost"

def b2l (E:Env) (s:St):Tree (E.rs++u6 E.ps):=a7M E (a3j E (a19 E.res E.rs) s)

/-! ### drawn regions that store what they read ('return put, told, s, r, true' where these are the results' names) -/
def Y0 (o:Oper):Option (Nat×Option TypeId×Nat) :=
 match o.guard,o.op,o.dst with
 | none,.move (.tmp x),some d=>some (d,none,x)
 | none,.load T (.tmp x),some d=>some (d,some T,x)
 | _,_,_=>none

def a3F (o:Oper):Option (Nat×Option TypeId×Nat) :=
 match o.guard,o.op,o.dst with
 | none,.assign (.tmp d),some x=>some (d,none,x)
 | none,.store T (.tmp x) (.tmp d),none=>some (d,some T,x)
 | _,_,_=>none

def a1K (ops:Array Oper):List Nat:=ops.toList.dropLast.filterMap fun o=>(Y0 o).map (·.1)

def a0z (o:Oper) (j:Nat):Bool:=o.after.toList.any fun e=>Region.binds .any e && Nat.beq e.on j

def a6J (E:Env) (ops:Array Oper) (s:St) (D:List Nat) (i:Nat) (o:Oper):Bool :=
 match Y0 o with
 | some (d,q,x)=>x3 E.nt (some d) && !D.contains x && (match q with
  | none=>true
  | some T=>(match s.ev (.tmp x) with
   | .ptr j p=>(match s.part j p with
    | some ⟨u,_⟩=>D7 E T u
    | none=>false)
   | _=>false))
 | none=>(match a3F o with
  | some c=>(List.range i).any fun j=>(match ops[j]? with
   | some o'=>decide (Y0 o'=some c) && a0z o j
   | none=>false)
  | none=>false)

def a5o (E:Env) (ops:Array Oper) (s:St):Bool :=
 Nat.blt 1 ops.size && Q0 (a1K ops) && (ops.toList.any fun o=>(a3F o).isSome) && E.P.follows .mixedOrders &&
 (List.range (ops.size - 1)).all (fun i=>match ops[i]? with
  | some o=>a6J E ops s (a1K ops) i o && o.after.toList.all (fun e=>!Region.binds .any e || Nat.blt e.on i)
  | none=>false) &&
 (match ops[ops.size - 1]? with
  | some oz=>oz.guard.isNone && (List.range (ops.size - 1)).all (fun j=>a0z oz j) && oz.after.toList.all (fun e=>!Region.binds .any e || Nat.blt e.on (ops.size - 1))
  | none=>false)

def W4 (D:List Nat) (s:St):St :=
 match D with
 | []=>s
 | d::D=>{ W4 D s with fr:=Ex.put d .any (W4 D s).fr }

/-! ### drawn regions whose quiet operations go ahead -/
def X7:Op→List Operand
 | .move x=>[x]
 | .assign x=>[x]
 | .load _ a=>[a]
 | .fieldAddr _ a _=>[a]
 | .store _ a x=>[a,x]
 | .build _ parts=>parts.toList.map (·.2)
 | _=>[]

def a5q (o:Oper):Bool:=match o.guard,o.op with
 | none,.move _=>true
 | none,.assign _=>true
 | none,.build _ _=>true
 | none,.store _ (.tmp _) _=>true
 | _,_=>false

def a0H (o:Oper):Bool:=match o.guard,o.dst,o.op with
 | none,some _,.move _=>true
 | none,some _,.load _ _=>true
 | none,some _,.fieldAddr _ _ _=>true
 | _,_,_=>false

def b7D:List Oper→List Bool→List Bool
 | [],acc=>acc
 | o::l,acc=>b7D l (acc++[a0H o && o.after.toList.all fun e=>!Region.binds .any e || acc.getD e.on false])

def a9z (ops:Array Oper):List Bool:=b7D ops.toList []

def b76 (o:Oper):List Nat:=(X7 o.op).filterMap fun|.tmp t=>some t|_=>none

def a6V (x:Oper) (m:Nat):Bool:=match x.dst with
 | some d=>!Nat.beq d m
 | none=>true

def a7Z (ops:Array Oper) (f:Nat→Oper→Bool):Bool:=(List.range ops.size).all fun j=>match ops[j]? with
 | some x=>f j x
 | none=>false

def qtB (ops:Array Oper) (qs:List Bool):Bool :=
 Q0 (a1c ops.toList) && a7Z ops fun i o =>
  (match qs.getD i false with
   | true=>a0H o && o.after.toList.all fun e=>!Region.binds .any e || qs.getD e.on false
   | false=>a5q o && (match o.op with
    | .store _ (.tmp m) _=>a7Z ops fun j x=>a6V x m || qs.getD j false
    | _=>true)) &&
  (b76 o).all fun m=>a7Z ops fun j x=>a6V x m || (qs.getD j false && a0z o j) || (!qs.getD i false && !qs.getD j false)

def a61 (o:Oper) (s:St):Option (List Nat):=match o.op with
 | .load _ a=>(match s.ev a with
  | .ptr j _=>some [j]
  | .N1 _ _=>some []
  | _=>none)
 | _=>some []

def b7N (ops:Array Oper) (qs:List Bool) (s:St) (js:List Nat):Bool :=
 a5k s.fr && a7Z ops fun i o=>qs.getD i false || ((match o.dst with
  | some d=>(s.get d).clean
  | none=>true) && (match o.op with
  | .store _ a _=>(match s.ev a with
   | .ptr k _=>!js.contains k
   | _=>false)
  | _=>true))

def a9x (E:Env) (ops:Array Oper) (qs:List Bool):Nat→List Oper→St→List Nat→(St→List Nat→Tree (E.rs++u6 E.ps))→Tree (E.rs++u6 E.ps)
 | _,[],s,js,k=>k s js
 | i,o::rest,s,js,k=>match qs.getD i false with
  | false=>a9x E ops qs (i+1) rest s js k
  | true=>match a61 o s with
   | none=>.stuck "draw: load"
   | some l=>U0 E ops o s fun s'=>a9x E ops qs (i+1) rest s' (l++js) k

def a9w (E:Env) (ops:Array Oper) (M:List Nat) (qs:List Bool):Nat→List Oper→St→List Met→(St→Tree (E.rs++u6 E.ps))→Tree (E.rs++u6 E.ps)
 | _,[],s,_,k=>k s
 | i,o::rest,s,acc,k=>match qs.getD i false with
  | true=>a9w E ops M qs (i+1) rest s acc k
  | false=>match acc.all fun e=>(M.getD i 0).testBit e.i || a87 ops e o (i7 E o s) s with
   | false=>.stuck "draw: addresses"
   | true=>U0 E ops o s fun s'=>a9w E ops M qs (i+1) rest s' (⟨i,o,s,i7 E o s⟩::acc) k

def b8b (E:Env) (ops:Array Oper):Bool:=(look (2000000+b4n ops) E.J6).isSome

def b5z (E:Env) (ops:Array Oper) (s:St) (k:St→Tree (E.rs++u6 E.ps)):Tree (E.rs++u6 E.ps) :=
 match M4 ops && qtB ops (a9z ops) && E.P.follows .mixedOrders with
 | true=>a9x E ops (a9z ops) 0 ops.toList s [] fun sQ js=>match b7N ops (a9z ops) sQ js with
  | true=>a9w E ops (s4 ops.toList []) (a9z ops) 0 ops.toList sQ [] k
  | false=>.stuck "draw: ahead"
 | false=>.stuck "draw: quiet"

def exec (E:Env):Nat→List Item→St→Tree (E.rs++u6 E.ps)
 | 0,_,_=>.stuck "fuel"
 | n+1,k,s =>
  match k with
  | []=>b2l E s
  | .inBlock _::k=>exec E n k s
  | .inLoop c::k=>.cut c k (s.cutAt E c)
  | .code c::k =>
   match c with
   | .skip=>exec E n k s
   | .seq a b=>exec E n (.code a::.code b::k) s
   | .cond c a b=>match s.ev c with
    | .val .bool g=>cond g (exec E n (.code a::k) s) (exec E n (.code b::k) s)
    | _=>.stuck "cond"
   | .block id c=>exec E n (.code c::.inBlock id::k) s
   | .loop c=>.cut c k (s.cutAt E c)
   | .exit id=>match exitTo id k with
    | some k'=>exec E n k' s
    | none=>.stuck "exit"
   | .ret=>b2l E s
   | .region _ ops draw=>match draw with
    | false=>a1B E ops 0 ops.toList (b2Z E ops s) fun s'=>exec E n k s'
    | true=>match b8b E ops with
     | true=>b5z E ops (a3G E ops s) fun s'=>exec E n k s'
     | false=>match a5o E ops s,ops[ops.size - 1]? with
     | true,some oz=>U0 E ops oz (W4 (a1K ops) s) fun s'=>exec E n k s'
     | _,_=>match M4 ops && a0d ops (E0 ops.toList (a3G E ops s)) && E.P.follows .mixedOrders with
     | true=>match b8d E ops with
      | true=>a9v E ops (s4 ops.toList []) 0 ops.toList (E0 ops.toList (a3G E ops s)) [] fun s'=>exec E n k s'
      | false=>match b8a ops (s4 ops.toList []) with
      | true=>b2V E ops (s4 ops.toList []) 0 ops.toList (E0 ops.toList (a3G E ops s)) [] fun s'=>exec E n k s'
      | false=>b2U E ops (s4 ops.toList []) 0 ops.toList (E0 ops.toList (a3G E ops s)) [] fun s'=>exec E n k s'
     | false=>match M4 ops && a6o ops (E0 ops.toList (a3G E ops s)) && E.P.follows .mixedOrders with
      | true=>b2T E ops (s4 ops.toList []) 0 ops.toList (E0 ops.toList (a3G E ops s)) [] fun s'=>exec E n k s'
      | false=>.stuck "draw"
   | _=>.stuck "code"
  | _::_=>.stuck "item"

def a2n:Code→List Item→List (Nat×(Code×List Item))
 | .seq a b,k=>a2n a (.code b::k)++a2n b k
 | .cond _ a b,k=>a2n a k++a2n b k
 | .block id c,k=>a2n c (.inBlock id::k)
 | .loop c,k=>(I5 c,(c,k))::a2n c (.inLoop c::k)
 | _,_=>[]

def j8 (c:Code) (r:Nat):Code×List Item:=(look r (a2n c [])).getD (.skip,[])

def N7:(ks:List PK)→DK ks→Nat→List (Nat×AV)
 | [],_,_=>[]
 | .v t::ks,x,i=>(i,.val t x.1)::N7 ks x.2 (i+1)
 | .rd t::ks,x,i=>(i,.N1 t x.1)::N7 ks x.2 (i+1)
 | .y7 f ts::ks,x,i=>(i,.y7 f (rdA ts x.1))::N7 ks x.2 (i+1)
 | .own _::ks,x,i=>(i,.at_ (1500000+i) [])::N7 ks x.2 (i+1)
 | .rw _::ks,x,i=>(i,.ptr (2000000+i) [])::N7 ks x.2 (i+1)
 | .mu _::ks,x,i=>(i,.at_ (2000000+i) [])::N7 ks x.2 (i+1)
 | .L5::ks,x,i=>(i,.raw (.slice none 0 0))::N7 ks x.2 (i+1)
 | .R8 _ _::ks,x,i=>(i,.any)::N7 ks x.2 (i+1)
 | .el _::ks,x,i=>(i,.any)::N7 ks x.2 (i+1)
where rdA:(ts:List Ty)→DL ts→AV
 | [],_=>.nil
 | t::ts,x=>.cons (.N1 t x.1) (rdA ts x.2)

def B0:(ks:List PK)→DK ks→Nat→List (Nat×f9)
 | [],_,_=>[]
 | .own t::ks,x,i=>Ex.put (1500000+i) (.own t x.1) (B0 ks x.2 (i+1))
 | .rw t::ks,x,i=>Ex.put (2000000+i) (.var t x.1) (B0 ks x.2 (i+1))
 | .mu t::ks,x,i=>Ex.put (2000000+i) (.own (.d0 true t) x.1) (B0 ks x.2 (i+1))
 | .v _::ks,x,i=>B0 ks x.2 (i+1)
 | .rd _::ks,x,i=>B0 ks x.2 (i+1)
 | .y7 _ _::ks,x,i=>B0 ks x.2 (i+1)
 | .L5::ks,x,i=>B0 ks x.2 (i+1)
 | .R8 _ _::ks,x,i=>B0 ks x.2 (i+1)
 | .el _::ks,x,i=>B0 ks x.2 (i+1)

def b3h (fr:List (Nat×AV)):Nat→Nat→AV
 | _,0=>.nil
 | j,n+1=>.cons ((look j fr).getD .any) (b3h fr (j+1) n)

def W5:(ks:List PK)→DK ks→Nat→List (Nat×AV)→List (Nat×AV)
 | [],_,_,fr=>fr
 | .R8 f n::ks,x,i,fr=>W5 ks x.2 (i+1) (Ex.put i (.bx (.y7 f (.rc f (b3h fr (i - n) n)))) fr)
 | .el q::ks,x,i,fr=>W5 ks x.2 (i+1) (Ex.put i (.ptr (2000000+(i - 1)) (q++[.idx x.1])) fr)
 | .v _::ks,x,i,fr=>W5 ks x.2 (i+1) fr
 | .rd _::ks,x,i,fr=>W5 ks x.2 (i+1) fr
 | .y7 _ _::ks,x,i,fr=>W5 ks x.2 (i+1) fr
 | .own _::ks,x,i,fr=>W5 ks x.2 (i+1) fr
 | .rw _::ks,x,i,fr=>W5 ks x.2 (i+1) fr
 | .mu _::ks,x,i,fr=>W5 ks x.2 (i+1) fr
 | .L5::ks,x,i,fr=>W5 ks x.2 (i+1) fr

def G9 (ks:List PK) (x:DK ks):St:={ fr:=W5 ks x 0 (N7 ks x 0),hp:=B0 ks x 0 }

end Go.Ex

namespace Go.Ex

/-! ### lists by number -/
theorem a0U {n m:Nat} (h:n≠m):Nat.beq n m=false:=by
 cases e:Nat.beq n m with
 | true=>exact absurd (Nat.eq_of_beq_eq_true e) h
 | false=>rfl

section
variable {α:Type _}
theorem l7 (n m:Nat) (x:α):∀ l:List (Nat×α),look n (put m x l)=if n=m then some x else look n l
 | []=>by
  simp only [put,look]
  by_cases h:n=m
  ·subst h; simp
  ·rw [if_neg h]; have:Nat.beq n m=false:=a0U h
   simp [this]
 | (k,y)::l=>by
  simp only [put]
  cases hk:Nat.beq m k with
  | true =>
   have:m=k:=Nat.eq_of_beq_eq_true hk
   subst this
   simp only [look]
   by_cases h:n=m
   ·subst h; simp
   ·rw [if_neg h]; have:Nat.beq n m=false:=a0U h
    simp [this]
  | false =>
   have hmk:m≠k:=fun e=>by subst e; simp at hk
   cases Nat.blt m k with
   | true =>
    simp only [look]
    by_cases h:n=m
    ·subst h; simp
    ·rw [if_neg h]; have:Nat.beq n m=false:=a0U h
     simp [this]
   | false =>
    simp only [look]
    cases hn:Nat.beq n k with
    | true =>
     have:n=k:=Nat.eq_of_beq_eq_true hn
     subst this
     simp [Ne.symm hmk]
    | false=>exact l7 n m x l

theorem E3 (n m:Nat):∀ l:List (Nat×α),look n (del m l)=if n=m then none else look n l
 | []=>by simp [del,look]
 | (k,y)::l=>by
  simp only [del]
  cases hk:Nat.beq m k with
  | true =>
   have:m=k:=Nat.eq_of_beq_eq_true hk
   subst this
   simp only [look,E3 n m l]
   by_cases h:n=m
   ·simp [h]
   ·have:Nat.beq n m=false:=a0U h
    simp [h,this]
  | false =>
   have hmk:m≠k:=fun e=>by subst e; simp at hk
   simp only [look]
   cases hn:Nat.beq n k with
   | true =>
    have:n=k:=Nat.eq_of_beq_eq_true hn
    subst this
    simp [Ne.symm hmk]
   | false=>exact E3 n m l

theorem D3 (n:Nat) (f:α→α):∀ l:List (Nat×α),look n (mapA f l)=(look n l).map f
 | []=>rfl
 | (k,y)::l=>by
  simp only [mapA,look]
  cases Nat.beq n k with
  | true=>rfl
  | false=>exact D3 n f l
end

theorem a0k {d:Nat}:∀ {l:List (Nat×AV)},U1 d l=true→∀ {n:Nat} {v:AV},look n l=some v→v.e8 d=false
 | [],_,_,_,h=>by cases h
 | (k,y)::l,h,n,v,hv=>by
  simp only [U1,Bool.and_eq_true,Bool.not_eq_true'] at h
  simp only [look] at hv
  cases hk:Nat.beq n k with
  | true=>rw [hk] at hv; cases hv; exact h.1
  | false=>rw [hk] at hv; exact a0k h.2 hv

def AV.ref:AV→Bool
 | .ptr _ _|.at_ _ _|.sub _ _ _ _=>true
 | _=>false

theorem AV.map_congr {f g:AV→AV}:∀ {v:AV},(∀ u:AV,u.ref=true→(∀ i,u.e8 i=true→v.e8 i=true)→f u=g u)→v.map f=v.map g:=by
 intro v
 induction v with
 | ptr i p=>intro h; exact h _ rfl (fun _ h=>h)
 | at_ i p=>intro h; exact h _ rfl (fun _ h=>h)
 | sub i p a b=>intro h; exact h _ rfl (fun _ h=>h)
 | cons a b iha ihb =>
  intro h
  simp only [AV.map]
  rw [iha (fun u hu hm=>h u hu (fun i hi=>by simp [AV.e8,hm i hi])),ihb (fun u hu hm=>h u hu (fun i hi=>by simp [AV.e8,hm i hi]))]
 | F0 l ih=>intro h; simp only [AV.map]; rw [ih h]
 | y7 f l ih=>intro h; simp only [AV.map]; rw [ih h]
 | bx l ih=>intro h; simp only [AV.map]; rw [ih h]
 | rc f l ih=>intro h; simp only [AV.map]; rw [ih h]
 | _=>intro _; rfl

theorem AV.map_id:∀ v:AV,v.map (fun u=>u)=v:=by
 intro v
 induction v with
 | cons a b iha ihb=>simp only [AV.map,iha,ihb]
 | F0 l ih=>simp only [AV.map,ih]
 | y7 f l ih=>simp only [AV.map,ih]
 | bx l ih=>simp only [AV.map,ih]
 | rc f l ih=>simp only [AV.map,ih]
 | _=>rfl

theorem AV.b5F {f:AV→AV} {v:AV} (h:∀ u:AV,u.ref=true→(∀ i,u.e8 i=true→v.e8 i=true)→f u=u):v.map f=v:=by
 rw [AV.map_congr (g:=fun u=>u) h,AV.map_id]

theorem a5L {d:Nat} {ow:Bool×Ty} {q:List Step} {v:AV} (h:v.e8 d=false):v.kill d ow q=v:=by
 refine AV.b5F (fun u _ hm=>?_)
 have:u.e8 d=false:=by
  cases e:u.e8 d with
  | false=>rfl
  | true=>rw [hm d e] at h; cases h
 simp only [AV.a0b,this]

/-! ### where a part lies, under another root -/
theorem b5E {H H':Array Go.Obj} {S:Nat→Prop}:∀ {t:Ty} {p:List Step} {r off r' off':Nat} {O:List Nat} {x:t.den},d9 H S t O (d8 H r off t.size) x→off+t.size≤(o6 H r).length→s6 t x p →
  d8 H' r' off' t.size=d8 H r off t.size→(∀ c∈O,H'[c]?=H[c]?)→∀ {u:Ty} {y:u.den},i6 t x p=some ⟨u,y⟩ →
  (∃ k,s9 H t p r off=some (r,off+k)∧s9 H' t p r' off'=some (r',off'+k)∧k+u.size≤t.size)∨(∃ b o,s9 H t p r off=some (b,o)∧s9 H' t p r' off'=some (b,o)∧b∈O):=by
 intro t
 have sub:∀ {r off r' off' n o m:Nat},d8 H' r' off' n=d8 H r off n→o+m≤n→d8 H' r' (off'+o) m=d8 H r (off+o) m:=by
  intro r off r' off' n o m h hm
  have e:∀ (K:Array Go.Obj) (c d:Nat),d8 K c (d+o) m=((d8 K c d n).drop o).take m:=by
   intro K c d
   rw [l6,l5 _ _ _ _ (by omega)]
  rw [e H',e H,h]
 have shift:∀ {a:Ty} {q:List Step} {r off r' off' d n s:Nat} {O:List Nat},(∃ k,s9 H a q r (off+d)=some (r,off+d+k)∧s9 H' a q r' (off'+d)=some (r',off'+d+k)∧k+s≤n)∨(∃ b o,s9 H a q r (off+d)=some (b,o)∧s9 H' a q r' (off'+d)=some (b,o)∧b∈O) →
   ∀ {m:Nat} {O':List Nat},d+n≤m→(∀ c∈O,c∈O')→(∃ k,s9 H a q r (off+d)=some (r,off+k)∧s9 H' a q r' (off'+d)=some (r',off'+k)∧k+s≤m)∨(∃ b o,s9 H a q r (off+d)=some (b,o)∧s9 H' a q r' (off'+d)=some (b,o)∧b∈O'):=by
  intro a q r off r' off' d n s O h m O' hm hO
  rcases h with ⟨k,h1,h2,h3⟩|⟨b,o,h1,h2,h3⟩
  ·exact .inl ⟨d+k,by rw [h1,Nat.add_assoc],by rw [h2,Nat.add_assoc],by omega⟩
  ·exact .inr ⟨b,o,h1,h2,hO b h3⟩
 induction t with
 | pair a c iha ihc =>
  intro p r off r' off' O x hR hb ho hc hO u y hg
  match p,ho,hg with
  | [],_,hg=>simp only [i6,Option.some.injEq] at hg; cases hg; exact .inl ⟨0,rfl,rfl,by omega⟩
  | .i9 0::p,ho,hg =>
   obtain ⟨P1,P2,rfl,h1,h2⟩:=hR
   simp only [Ty.size] at *
   rw [l5 _ _ _ _ (by omega)] at h1
   have:=iha h1 (by omega) ho (by have:=sub (o:=0) (m:=a.size) hc (by omega); simpa using this) (fun c hc=>hO c (by simp [hc])) hg
   exact shift (d:=0) this (by omega) (fun c hc=>by simp [hc])
  | .i9 (n+1)::p,ho,hg =>
   obtain ⟨P1,P2,rfl,h1,h2⟩:=hR
   simp only [Ty.size] at *
   rw [l6,Nat.add_sub_cancel_left] at h2
   have:=ihc h2 (by omega) ho (sub (o:=a.size) (m:=c.size) hc (by omega)) (fun c hc=>hO c (by simp [hc])) hg
   exact shift (d:=a.size) this (by omega) (fun c hc=>by simp [hc])
  | .idx i::p,ho,_=>simp [s6] at ho
 | arr n t ih =>
  intro p r off r' off' O x hR hb ho hc hO u y hg
  match p,ho,hg with
  | [],_,hg=>simp only [i6,Option.some.injEq] at hg; cases hg; exact .inl ⟨0,rfl,rfl,by omega⟩
  | .idx i::p,ho,hg =>
   obtain ⟨hi,ho⟩:=ho
   obtain ⟨hl,hR⟩:=hR
   simp only [Ty.size] at *
   obtain ⟨b1,b2,b3,b4⟩:=x5 (sz:=t.size) hi
   obtain ⟨P1,P2,P3,rfl,g1,g2,g3⟩:=i5.split (d:=t.n6) (i:=i.toNat) (by rw [hl]; exact b1) hR
   rw [l6,l5 _ _ _ _ (by omega)] at g2
   have:=ih g2 (by omega) ho (sub (o:=i.toNat*t.size) (m:=t.size) hc (by omega)) (fun c hc=>hO c (by simp [hc])) hg
   exact shift (d:=i.toNat*t.size) this (by omega) (fun c hc=>by simp [hc])
  | .i9 i::p,ho,_=>simp [s6] at ho
 | d0 o t ih =>
  intro p r off r' off' O x hR hb ho hc hO u y hg
  match p,ho,hg with
  | [],_,hg=>refine .inl ⟨0,by cases o<;>rfl,by cases o<;>rfl,?_⟩; have hg:some (⟨.d0 o t,x⟩:Sigma Ty.den)=some ⟨u,y⟩:=(by cases o<;>exact hg); cases hg; omega
  | .idx i::p,ho,hg =>
   cases o with
   | false=>simp [s6] at ho
   | true =>
    obtain ⟨hi,ho⟩:=ho
    rcases hR with ⟨_,_,hn⟩|⟨b1,o1,cap,O',c1,c2,c3,c4,c5,rfl,c6⟩
    ·subst hn; simp at hi; omega
    ·simp only [Ty.size] at *
     have hh:=(H4 r off _).1 c1
     have hh':=(H4 r' off' _).1 (hc.trans c1)
     obtain ⟨b1',b2,b3,b4⟩:=x5 (sz:=t.size) hi
     obtain ⟨P1,P2,P3,rfl,g1,g2,g3⟩:=i5.split (d:=t.n6) (i:=i.toNat) b1' c5
     rw [l6,l5 _ _ _ _ (by omega)] at g2
     have hcap:List.length x*t.size≤cap*t.size:=Nat.mul_le_mul_right _ c2
     have:=ih g2 (by omega) ho (r':=b1) (off':=o1+i.toNat*t.size) (j6 (hO b1 (by simp)) _ _) (fun c hc=>hO c (by simp [hc])) hg
     simp only [s9,hh,hh']
     rcases this with ⟨k,h1,h2,h3⟩|⟨b,o,h1,h2,h3⟩
     ·exact .inr ⟨b1,_,h1,h2,by simp⟩
     ·exact .inr ⟨b,o,h1,h2,by simp [h3]⟩
  | .i9 i::p,ho,_=>cases o<;>simp [s6] at ho
 | _ =>
  intro p r off r' off' O x hR hb ho hc hO u y hg
  match p,ho,hg with
  | [],_,hg=>simp only [i6,Option.some.injEq] at hg; cases hg; exact .inl ⟨0,rfl,rfl,by omega⟩
  | .i9 i::p,ho,_=>simp [s6] at ho
  | .idx i::p,ho,_=>simp [s6] at ho



/-! ### what abstract values say -/
structure Ix where
 root:Nat→Nat×Nat
 cells:Nat→List Value
 own:Nat→List Nat

def gh (H:Array Go.Obj) (cs:List Value):Array Go.Obj:=H.push (.cells cs.toArray 0)

def VH (H:Array Go.Obj) (ι:Ix) (i:Nat):f9→Array Go.Obj
 | .own _ _=>gh H (ι.cells i)
 | _=>H
def VR (H:Array Go.Obj) (ι:Ix) (i:Nat):f9→Nat×Nat
 | .own _ _=>(H.size,0)
 | _=>ι.root i

def Place (H:Array Go.Obj) (ι:Ix) (i:Nat) (e:f9) (p:List Step):Option (Nat×Nat) :=
 match e with
 | .E8=>none
 | e=>s9 (VH H ι i e) e.ty p (VR H ι i e).1 (VR H ι i e).2

theorem C3 {H:Array Go.Obj} {ι:Ix} {i:Nat} {e:f9} {p:List Step} (he:e≠.E8):Place H ι i e p=s9 (VH H ι i e) e.ty p (VR H ι i e).1 (VR H ι i e).2:=by
 cases e<;>first|rfl|exact absurd rfl he
theorem a1y {H:Array Go.Obj} {ι:Ix} {i:Nat} {e:f9} {p:List Step} {r:Nat×Nat} (h:Place H ι i e p=some r):e≠.E8:=by
 rintro rfl; cases h

def Loc (H:Array Go.Obj) (ι:Ix) (i:Nat) (e:f9) (p:List Step):Option (Nat×Nat) :=
 match Place H ι i e p with
 | some (b,off)=>if b<H.size then some (b,off) else none
 | none=>none

def Cells (H:Array Go.Obj) (ι:Ix) (i:Nat) (e:f9) (p:List Step) (u:Ty) (cs:List Value):Prop :=
 ∃ b off,Place H ι i e p=some (b,off)∧cs=d8 (VH H ι i e) b off u.size

def b0t (sz:Nat) (a:Option Addr) (cap:Nat) (lo hi:Int) (v:Value):Prop :=
 ∃ c A,v=.slice A (hi - lo).toNat c∧(c≠0→A=a.map (·.add (lo.toNat*sz)))∧(hi - lo).toNat≤c∧lo.toNat+c=cap

def VX (H:Array Go.Obj) (S:Nat→Prop) (ι:Ix) (hp:List (Nat×f9)):AV→List Value→Prop
 | .any,vs=>∃ v,vs=[v]
 | .raw v,vs=>vs=[v]
 | .val t x,vs=>∃ cs,vs=[j7 t cs]∧d9 H S t [] cs x
 | .ptr i p,vs=>∃ e b off,look i hp=some e∧s6 e.ty e.x p∧Loc H ι i e p=some (b,off)∧vs=[.pointer (some ⟨b,off,none⟩)]
 | .N1 t x,vs=>∃ b off,vs=[.pointer (some ⟨b,off,none⟩)]∧S b∧off+t.size≤(o6 H b).length∧d9 H S t [] (d8 H b off t.size) x
 | .at_ i p,vs=>∃ e u y cs,look i hp=some e∧s6 e.ty e.x p∧i6 e.ty e.x p=some ⟨u,y⟩∧Cells H ι i e p u cs∧vs=[j7 u cs]
 | .sub i p lo hi,vs=>∃ e v,look i hp=some e∧s6 e.ty e.x p∧vs=[v]∧0≤lo∧lo≤hi ∧
   ((∃ t l a cap,i6 e.ty e.x p=some ⟨.d0 true t,l⟩∧hi≤(List.length l:Int)∧Cells H ι i e p (.d0 true t) [.slice a (List.length l) cap]∧b0t t.size a cap lo hi v) ∨
   (∃ n t l b off,i6 e.ty e.x p=some ⟨.arr n t,l⟩∧(hi≤(n:Int)∧n≤maxLen)∧Loc H ι i e p=some (b,off)∧b0t t.size (some ⟨b,off,none⟩) n lo hi v))
 | .nil,vs=>vs=[]
 | .cons a b,vs=>∃ v us,vs=v::us∧VX H S ι hp a [v]∧VX H S ι hp b us
 | .F0 l,vs=>∃ us,vs=[.tuple us.toArray]∧VX H S ι hp l us
 | .y7 f l,vs=>∃ us,vs=[.func (.func f) #[] us.toArray]∧VX H S ι hp l us
 | .bx l,vs=>∃ b off u,vs=[.pointer (some ⟨b,off,none⟩)]∧S b∧off+1≤(o6 H b).length∧d8 H b off 1=[u]∧VX H S ι hp l [u]
 | .rc f l,vs=>∃ b off us,vs=us++[.pointer (some ⟨b,off,none⟩)]∧S b∧off+1≤(o6 H b).length∧d8 H b off 1=[.func (.func f) #[] (us++[.pointer (some ⟨b,off,none⟩)]).toArray]∧VX H S ι hp l us

def OB (H:Array Go.Obj) (S:Nat→Prop) (ι:Ix) (i:Nat):f9→Prop
 | .var t x=>(∃ O,O.Perm (ι.own i)∧d9 H S t O (d8 H (ι.root i).1 (ι.root i).2 t.size) x)∧I2 H (ι.root i).1 ((ι.root i).2+t.size)∧((ι.root i).1::ι.own i).Nodup
 | .own t x=>(∃ O,O.Perm (ι.own i)∧d9 H S t O (ι.cells i) x)∧(ι.own i).Nodup
 | .E8=>(ι.own i).Nodup

def i8 (ι:Ix) (i:Nat):f9→List Nat
 | .var _ _=>(ι.root i).1::ι.own i
 | .own _ _=>ι.own i
 | .E8=>ι.own i

structure y9 where
 w0:World
 S0:Nat→Prop
 M:Nat→Prop
 n:Nat
 pins:List (Nat×(Nat×Nat)×List Value)
 gv:Value:=undef

def K3 (w w':World):Prop:=w'.tape=w.tape∧w.drawn≤w'.drawn
theorem K3.refl (w:World):K3 w w:=⟨rfl,Nat.le_refl _⟩
theorem K3.trans {w w' w'':World} (h':K3 w' w'') (h:K3 w w'):K3 w w'':=⟨h'.1.trans h.1,Nat.le_trans h.2 h'.2⟩
theorem K3.of {w w':World} (h:w'.tape=w.tape) (h2:w'.drawn=w.drawn):K3 w w':=⟨h,by rw [h2]; exact Nat.le_refl _⟩

structure HS (B:y9) (S:Nat→Prop) (ι:Ix) (hp:List (Nat×f9)) (w:World):Prop where
 os:w.os=B.w0.os
 tape:K3 B.w0 w
 out:w.output=B.w0.output
 size:B.w0.heap.size≤w.heap.size
 frame:∀ c,c<B.w0.heap.size→¬ B.M c→w.heap[c]?=B.w0.heap[c]?
 slt:∀ b,S b→b<w.heap.size
 s0:∀ b,B.S0 b→S b
 s1:∀ b,S b→B.S0 b∨B.w0.heap.size≤b
 ob:∀ i e,look i hp=some e→OB w.heap S ι i e
 bl:∀ i e,look i hp=some e→∀ b∈i8 ι i e,¬ S b∧(B.w0.heap.size≤b∨B.M b)∧b<w.heap.size
 dj:∀ i j ei ej,look i hp=some ei→look j hp=some ej→i≠j→∀ b∈i8 ι i ei,b∉i8 ι j ej
 pin:∀ q∈B.pins,pinned q.1=true∧(∃ e,look q.1 hp=some e)∧ι.root q.1=q.2.1∧ι.cells q.1=q.2.2

def y9.gd (B:y9) (t:Nat):Value:=match Nat.beq t D9 with|true=>B.gv|false=>undef

structure RS (B:y9) (S:Nat→Prop) (ι:Ix) (s:St) (a:Act) (w:World):Prop where
 hs:HS B S ι s.hp w
 W7:a.defers=[]
 sz:a.tmps.size=B.n
 fr:∀ t v,look t s.fr=some v→VX w.heap S ι s.hp v [a.tmps.getD t (B.gd t)]

section
variable {H H':Array Go.Obj} {S S':Nat→Prop} {ι ι':Ix} {hp hp':List (Nat×f9)}

theorem VX.map {f:AV→AV} (hH:∀ b,S b→H'[b]?=H[b]?) (hS:∀ b,S b→S' b):∀ {v:AV} {vs:List Value},
  (∀ u vs,u.ref=true→(∀ i,u.e8 i=true→v.e8 i=true)→VX H S ι hp u vs→VX H' S' ι' hp' (f u) vs)→VX H S ι hp v vs→VX H' S' ι' hp' (v.map f) vs:=by
 intro v
 induction v with
 | any=>intro vs _ h; exact h
 | raw v=>intro vs _ h; exact h
 | val t x=>rintro vs _ ⟨cs,e,h⟩; exact ⟨cs,e,h.o4 (fun b hb=>by rcases hb with hb|hb; cases hb; exact hH b hb) hS⟩
 | ptr i p=>intro vs hf h; exact hf _ vs rfl (fun _ h=>h) h
 | N1 t x =>
  rintro vs _ ⟨b,off,e,hb,h3,h4⟩
  refine ⟨b,off,e,hS b hb,by rw [I3 (hH b hb)]; exact h3,?_⟩
  rw [j6 (hH b hb)]
  exact h4.o4 (fun b hb=>by rcases hb with hb|hb; cases hb; exact hH b hb) hS
 | at_ i p=>intro vs hf h; exact hf _ vs rfl (fun _ h=>h) h
 | sub i p a b=>intro vs hf h; exact hf _ vs rfl (fun _ h=>h) h
 | nil=>intro vs _ h; exact h
 | cons a b iha ihb=>rintro vs hf ⟨v,us,e,ha,hb⟩; exact ⟨v,us,e,iha (fun u vs hu hm=>hf u vs hu (fun i hi=>by simp [AV.e8,hm i hi])) ha,ihb (fun u vs hu hm=>hf u vs hu (fun i hi=>by simp [AV.e8,hm i hi])) hb⟩
 | F0 l ih=>rintro vs hf ⟨us,e,h⟩; exact ⟨us,e,ih hf h⟩
 | y7 f l ih=>rintro vs hf ⟨us,e,h⟩; exact ⟨us,e,ih hf h⟩
 | bx l ih=>rintro vs hf ⟨b,off,u,e,hb,h1,h2,h⟩; exact ⟨b,off,u,e,hS b hb,by rw [I3 (hH b hb)]; exact h1,by rw [j6 (hH b hb)]; exact h2,ih hf h⟩
 | rc f l ih=>rintro vs hf ⟨b,off,us,e,hb,h1,h2,h⟩; exact ⟨b,off,us,e,hS b hb,by rw [I3 (hH b hb)]; exact h1,by rw [j6 (hH b hb)]; exact h2,ih hf h⟩

theorem VX.one {v:AV} {vs:List Value} (hr:v.ref=true) (h:VX H S ι hp v vs):∃ x,vs=[x]:=by
 cases v<;>simp only [AV.ref] at hr<;>try cases hr
 ·obtain ⟨e,b,off,_,_,_,h4⟩:=h; exact ⟨_,h4⟩
 ·obtain ⟨e,u,y,cs,_,_,_,_,h5⟩:=h; exact ⟨_,h5⟩
 ·obtain ⟨e,v,_,_,h3,_⟩:=h; exact ⟨_,h3⟩

theorem a3f {cs:List Value} {b:Nat} (h:b<H.size):(gh H cs)[b]?=H[b]?:=by
 rw [gh,Array.getElem?_push,if_neg (by omega)]
theorem a7a {cs:List Value}:(gh H cs)[H.size]?=some (.cells cs.toArray 0):=by simp [gh]
theorem W6 {cs:List Value}:o6 (gh H cs) H.size=cs:=by simp [o6,a7a]
theorem a3e {cs:List Value}:(gh H cs).size=H.size+1:=by simp [gh]

theorem I2.lt {b n:Nat} (h:I2 H b n):b<H.size:=by
 obtain ⟨arr,T,⟨fz,e,_⟩,_⟩:=h
 exact (Array.getElem?_eq_some_iff.1 e).1

theorem OB.I9 {i:Nat} {e:f9} (he:e≠.E8) (ho:OB H S ι i e) {c:Nat} (hc:c∈ι.own i):c<H.size:=by
 cases e with
 | var t x=>obtain ⟨⟨O,hO,hR⟩,_⟩:=ho; exact hR.a3L c (hO.mem_iff.2 hc)
 | own t x=>obtain ⟨⟨O,hO,hR⟩,_⟩:=ho; exact hR.a3L c (hO.mem_iff.2 hc)
 | E8=>exact absurd rfl he

theorem OB.see {i:Nat} {e:f9} (he:e≠.E8) (ho:OB H S ι i e) (hS:∀ c,S c→c<H.size):∃ O,O.Perm (ι.own i)∧d9 (VH H ι i e) S e.ty O (d8 (VH H ι i e) (VR H ι i e).1 (VR H ι i e).2 e.ty.size) e.x ∧
  (VR H ι i e).2+e.ty.size≤(o6 (VH H ι i e) (VR H ι i e).1).length∧((VR H ι i e).1::ι.own i).Nodup∧(VR H ι i e).1<(VH H ι i e).size∧(¬ S (VR H ι i e).1∨∃ t x,e=.var t x)∧I2 (VH H ι i e) (VR H ι i e).1 ((VR H ι i e).2+e.ty.size):=by
 cases e with
 | var t x =>
  obtain ⟨⟨O,hO,hR⟩,hf,hnd⟩:=ho
  exact ⟨O,hO,hR,hf.o6,hnd,hf.lt,.inr ⟨t,x,rfl⟩,hf⟩
 | own t x =>
  have hlt:=fun c hc=>OB.I9 (c:=c) he ho hc
  obtain ⟨⟨O,hO,hR⟩,hnd⟩:=ho
  have hl:=hR.length
  have hcells:d8 (gh H (ι.cells i)) H.size 0 t.size=ι.cells i:=by
   simp only [d8,W6,List.drop_zero]
   exact List.take_of_length_le (by omega)
  refine ⟨O,hO,?_,?_,?_,by simp [VR,VH,a3e],.inl (fun h=>Nat.lt_irrefl _ (hS _ h)),⟨_,_,⟨_,a7a,.inl rfl⟩,by simp [VR,f9.ty,hl]⟩⟩
  ·simp only [VH,VR,f9.ty,f9.x,hcells]
   exact hR.o4 (fun c hc=>a3f (hc.elim (fun h=>hlt c (hO.mem_iff.1 h)) (hS c))) (fun _ h=>h)
  ·simp only [VH,VR,f9.ty,W6]; omega
  ·exact List.nodup_cons.2 ⟨fun h=>Nat.lt_irrefl _ (hlt _ h),hnd⟩
 | E8=>exact absurd rfl he

theorem B7 {i:Nat} {e:f9} {c:Nat} (h:c<H.size):(VH H ι i e)[c]?=H[c]?:=by
 cases e<;>first|rfl|exact a3f h

theorem U9 {i:Nat} {e:f9} {t:Ty} {O:List Nat} {cs:List Value} {x:t.den} (hO:∀ c∈O,c<H.size) (hS:∀ c,S c→c<H.size):d9 (VH H ι i e) S t O cs x↔d9 H S t O cs x :=
 ⟨fun h=>h.o4 (fun c hc=>(B7 (hc.elim (hO c) (hS c))).symm) (fun _ h=>h),fun h=>h.o4 (fun c hc=>B7 (hc.elim (hO c) (hS c))) (fun _ h=>h)⟩

theorem OB.part {i:Nat} {e:f9} (he:e≠.E8) (ho:OB H S ι i e) (hS:∀ c,S c→c<H.size) {p:List Step} (hok:s6 e.ty e.x p) {u:Ty} {y:u.den} (hg:i6 e.ty e.x p=some ⟨u,y⟩) :
  ∃ b off O2,Place H ι i e p=some (b,off)∧(∀ c∈O2,c∈ι.own i)∧O2.Nodup∧d9 H S u O2 (d8 (VH H ι i e) b off u.size) y∧off+u.size≤(o6 (VH H ι i e) b).length ∧
   (b<H.size→b∈i8 ι i e∧I2 H b (off+u.size)):=by
 obtain ⟨O,hO,hR,hb,hnd,hlt,hns,hfr⟩:=ho.see he hS
 obtain ⟨O1,O2,b',off',e1,e2,e3,e4,e5,e6⟩:=focus hR hb hok hg
 have hm:∀ c,c∈O1∨c∈O2→c∈ι.own i:=fun c hc=>hO.mem_iff.1 (e1.mem_iff.2 (by simpa using hc))
 have hlt2:∀ c∈O2,c<H.size:=fun c hc=>ho.I9 he (hm c (.inr hc))
 refine ⟨b',off',O2,(C3 he).trans e3,fun c hc=>hm c (.inr hc),?_,(U9 hlt2 hS).1 e4,e5,fun hbl=>?_⟩
 ·exact (List.nodup_append.1 ((e1.nodup_iff).1 ((hO.nodup_iff).2 (List.nodup_cons.1 hnd).2))).2.1
 ·have hfree:I2 (VH H ι i e) b' (off'+u.size):=by
   rcases e6 with ⟨rfl,g1,g2⟩|⟨_,g⟩
   ·exact hfr.mono g2
   ·exact g
  refine ⟨?_,?_⟩
  ·rcases e6 with ⟨rfl,g1,g2⟩|⟨g,_⟩
   ·cases e with
    | var t x=>simp [i8,VR]
    | own t x=>simp [VR] at hbl
    | E8=>exact absurd rfl he
   ·have:=hm b' (.inl g)
    cases e<;>simp [i8,this]
  ·obtain ⟨arr,T,⟨fz,h1,h3⟩,h2⟩:=hfree
   rw [B7 hbl] at h1
   exact ⟨arr,T,⟨fz,h1,h3⟩,h2⟩

theorem r9 {i:Nat} {e:f9} {p:List Step} {b off:Nat} (h:Loc H ι i e p=some (b,off)):Place H ι i e p=some (b,off)∧b<H.size:=by
 unfold Loc at h
 split at h
 ·rename_i b' off' hp
  split at h
  ·rename_i hlt; cases h; exact ⟨hp,hlt⟩
  ·cases h
 ·cases h

theorem M5 {i:Nat} {e:f9} {p:List Step} {b off:Nat} (h:Place H ι i e p=some (b,off)) (hb:b<H.size):Loc H ι i e p=some (b,off):=by
 unfold Loc; rw [h]; simp [hb]

theorem F3 {i:Nat} {e:f9} (he:e≠.E8) (ho:OB H S ι i e) (hS:∀ c,S c→c<H.size) {p:List Step} (hok:s6 e.ty e.x p) {u:Ty} {y:u.den} (hg:i6 e.ty e.x p=some ⟨u,y⟩) {b off:Nat} (hl:Loc H ι i e p=some (b,off)) :
  ∃ O2,(∀ c∈O2,c∈ι.own i)∧O2.Nodup∧d9 H S u O2 (d8 H b off u.size) y∧off+u.size≤(o6 H b).length∧b∈i8 ι i e∧I2 H b (off+u.size):=by
 obtain ⟨b',off',O2,k1,k2,k3,k4,k5,k6⟩:=ho.part he hS hok hg
 obtain ⟨h1,h2⟩:=r9 hl
 rw [k1] at h1; cases h1
 rw [j6 (B7 h2)] at k4
 rw [I3 (B7 h2)] at k5
 exact ⟨O2,k2,k3,k4,k5,k6 h2⟩

theorem OB.o4 {i:Nat} {e:f9} (ho:OB H S ι i e) (hH:∀ b,b∈i8 ι i e∨S b→H'[b]?=H[b]?) (hS:∀ b,S b→S' b):OB H' S' ι i e:=by
 cases e with
 | var t x =>
  obtain ⟨⟨O,hO,hR⟩,⟨arr,T,⟨fz,hf,hf2⟩,hn⟩,hnd⟩:=ho
  have hr:H'[(ι.root i).1]?=H[(ι.root i).1]?:=hH _ (.inl (by simp [i8]))
  refine ⟨⟨O,hO,?_⟩,⟨arr,T,⟨fz,hr.trans hf,hf2⟩,hn⟩,hnd⟩
  rw [j6 hr]
  exact hR.o4 (fun b hb=>hH b (hb.imp (fun h=>by simp [i8,hO.mem_iff.1 h]) id)) hS
 | own t x =>
  obtain ⟨⟨O,hO,hR⟩,hnd⟩:=ho
  exact ⟨⟨O,hO,hR.o4 (fun b hb=>hH b (hb.imp (fun h=>hO.mem_iff.1 h) id)) hS⟩,hnd⟩
 | E8=>exact ho

theorem a48 {i:Nat} {e:f9} (he:e≠.E8) (ho:OB H S ι i e) (hSl:∀ c,S c→c<H.size) (hH:∀ b,b∈i8 ι i e→H'[b]?=H[b]?) {p:List Step} (hok:s6 e.ty e.x p) {u:Ty} {y:u.den} (hg:i6 e.ty e.x p=some ⟨u,y⟩) :
  ∃ b off b' off',Place H ι i e p=some (b,off)∧Place H' ι i e p=some (b',off')∧d8 (VH H' ι i e) b' off' u.size=d8 (VH H ι i e) b off u.size∧(b<H.size→b'=b∧off'=off∧b<H'.size)∧(¬ b<H.size→¬ b'<H'.size):=by
 have hlt:∀ c∈ι.own i,c<H.size∧c<H'.size:=fun c hc=>by
  have h1:=ho.I9 he hc
  refine ⟨h1,?_⟩
  have h2:=hH c (by cases e<;>simp [i8,hc])
  rw [Array.getElem?_eq_getElem h1] at h2
  exact (Array.getElem?_eq_some_iff.1 h2).1
 obtain ⟨O,hO,hR,hb,hnd,_,_,hfr⟩:=ho.see he hSl
 have hroot:d8 (VH H' ι i e) (VR H' ι i e).1 (VR H' ι i e).2 e.ty.size=d8 (VH H ι i e) (VR H ι i e).1 (VR H ι i e).2 e.ty.size:=by
  cases e with
  | var t x=>exact j6 (hH _ (by simp [i8,VR])) _ _
  | own t x=>simp only [VH,VR,d8,W6]
  | E8=>exact absurd rfl he
 have hown:∀ c∈O,(VH H' ι i e)[c]?=(VH H ι i e)[c]?:=fun c hc=>by
  have hc:=hO.mem_iff.1 hc
  rw [B7 (hlt c hc).2,B7 (hlt c hc).1]
  exact hH c (by cases e<;>simp [i8,hc])
 rcases b5E hR hb hok hroot hown hg with ⟨k,h1,h2,h3⟩|⟨b,o,h1,h2,h3⟩
 ·refine ⟨_,_,_,_,(C3 he).trans h1,(C3 he).trans h2,?_,?_,?_⟩
  ·have e0:∀ (K:Array Go.Obj) (r:Nat×Nat),d8 K r.1 (r.2+k) u.size=((d8 K r.1 r.2 e.ty.size).drop k).take u.size:=by
    intro K r
    rw [l6,l5 _ _ _ _ (by omega)]
   rw [e0,e0,hroot]
  ·intro hbl
   cases e with
   | var t x =>
    refine ⟨rfl,rfl,?_⟩
    have h2:=hH (ι.root i).1 (by simp [i8])
    have hbl:(ι.root i).1<H.size:=hbl
    rw [Array.getElem?_eq_getElem hbl] at h2
    exact (Array.getElem?_eq_some_iff.1 h2).1
   | own t x=>simp [VR] at hbl
   | E8=>exact absurd rfl he
  ·intro hbl
   cases e with
   | var t x=>exact absurd hfr.lt hbl
   | own t x=>simp [VR]
   | E8=>exact absurd rfl he
 ·have hc:=hO.mem_iff.1 h3
  refine ⟨b,o,b,o,(C3 he).trans h1,(C3 he).trans h2,?_,fun _=>⟨rfl,rfl,(hlt b hc).2⟩,fun hbl=>absurd (hlt b hc).1 hbl⟩
  exact j6 (hown b h3) _ _

theorem a1T {i:Nat} {e:f9} (he:e≠.E8) (ho:OB H S ι i e) (hSl:∀ c,S c→c<H.size) (hH:∀ b,b∈i8 ι i e→H'[b]?=H[b]?) {p:List Step} (hok:s6 e.ty e.x p) {r:Nat×Nat} (h:Loc H ι i e p=some r):Loc H' ι i e p=some r:=by
 obtain ⟨u,y,hg⟩:=a4H hok
 obtain ⟨b,off,b',off',h1,h2,h3,h4,h5⟩:=a48 (H':=H') he ho hSl hH hok hg
 obtain ⟨k1,k2⟩:=r9 (b:=r.1) (off:=r.2) h
 rw [h1] at k1; cases k1
 obtain ⟨rfl,rfl,h6⟩:=h4 k2
 exact M5 h2 h6

theorem a2w {i:Nat} {e:f9} (he:e≠.E8) (ho:OB H S ι i e) (hSl:∀ c,S c→c<H.size) (hH:∀ b,b∈i8 ι i e→H'[b]?=H[b]?) {p:List Step} (hok:s6 e.ty e.x p) {u:Ty} {y:u.den} (hg:i6 e.ty e.x p=some ⟨u,y⟩)
  {cs:List Value} (h:Cells H ι i e p u cs):Cells H' ι i e p u cs:=by
 obtain ⟨b0,off0,k1,k2⟩:=h
 obtain ⟨b,off,b',off',h1,h2,h3,h4,h5⟩:=a48 (H':=H') he ho hSl hH hok hg
 rw [h1] at k1; cases k1
 exact ⟨b',off',h2,k2.trans h3.symm⟩

theorem E6 {i:Nat} {e:f9} {p:List Step} {r:Nat×Nat} (h:Loc H ι i e p=some r):e≠.E8:=a1y (r9 (b:=r.1) (off:=r.2) h).1
theorem a1z {i:Nat} {e:f9} {p:List Step} {u:Ty} {cs:List Value} (h:Cells H ι i e p u cs):e≠.E8:=by obtain ⟨_,_,h,_⟩:=h; exact a1y h

theorem VX.grow (hH:∀ b,(∃ i e,look i hp=some e∧b∈i8 ι i e)∨S b→H'[b]?=H[b]?) (hS:∀ b,S b→S' b) (hSl:∀ c,S c→c<H.size) (hob:∀ i e,look i hp=some e→OB H S ι i e) {v:AV} {vs:List Value} (h:VX H S ι hp v vs) :
  VX H' S' ι hp v vs:=by
 have:=VX.map (H':=H') (S':=S') (ι':=ι) (hp':=hp) (f:=fun u=>u) (fun b hb=>hH b (.inr hb)) hS ?_ h
 ·rwa [AV.map_id] at this
 ·intro u vs hu _ h
  cases u<;>simp only [AV.ref] at hu<;>try cases hu
  ·obtain ⟨e,b,off,h1,h2,h3,h4⟩:=h
   exact ⟨e,b,off,h1,h2,a1T (E6 h3) (hob _ e h1) hSl (fun b hb=>hH b (.inl ⟨_,e,h1,hb⟩)) h2 h3,h4⟩
  ·obtain ⟨e,u,y,cs,h1,h2,h3,h4,h5⟩:=h
   exact ⟨e,u,y,cs,h1,h2,h3,a2w (a1z h4) (hob _ e h1) hSl (fun b hb=>hH b (.inl ⟨_,e,h1,hb⟩)) h2 h3 h4,h5⟩
  ·obtain ⟨e,v,h1,h2,h3,h4,h5,h6⟩:=h
   refine ⟨e,v,h1,h2,h3,h4,h5,?_⟩
   rcases h6 with ⟨t,l,a,cap,k1,k2,k3,k4⟩|⟨n,t,l,b,off,k1,k2,k3,k4⟩
   ·exact .inl ⟨t,l,a,cap,k1,k2,a2w (a1z k3) (hob _ e h1) hSl (fun b hb=>hH b (.inl ⟨_,e,h1,hb⟩)) h2 k1 k3,k4⟩
   ·exact .inr ⟨n,t,l,b,off,k1,k2,a1T (E6 k3) (hob _ e h1) hSl (fun b hb=>hH b (.inl ⟨_,e,h1,hb⟩)) h2 k3,k4⟩

end
end Go.Ex

namespace Go.Ex

/-! ### types against the table: what the check gives -/
theorem b6i:∀ t:Ty,zc t.sh=zc t:=by
 intro t
 induction t with
 | pair a b iha ihb=>simp only [Ty.sh,zc,iha,ihb]
 | arr n t ih=>simp only [Ty.sh,zc,ih]
 | _=>rfl

theorem b5c (t:Ty):t.sh.agg=t.agg:=by cases t<;>rfl

theorem b6j {u t:Ty} (h:u.sh=t.sh):zc u=zc t:=by rw [← b6i u,h,b6i]
theorem a7n {u t:Ty} (h:u.sh=t.sh):u.agg=t.agg:=by rw [← b5c u,h,b5c]
theorem a9m {u t:Ty} (h:u.sh=t.sh) (cs:List Value):j7 u cs=j7 t cs:=by simp only [j7,a7n h]

theorem b8e:∀ t:Ty,t.sh.al=t.al:=by
 intro t
 induction t with
 | pair a b iha ihb=>simp only [Ty.sh,Ty.al,iha,ihb]
 | arr n t ih=>simp only [Ty.sh,Ty.al,ih]
 | _=>rfl

theorem b6l:∀ t:Ty,t.sh.wb=t.wb∧∀ o,t.sh.a4z o=t.a4z o:=by
 intro t
 induction t with
 | pair a b iha ihb=>refine ⟨?_,fun o=>?_⟩<;>simp only [Ty.sh,Ty.wb,Ty.a4z,iha.1,ihb.2,b8e]
 | arr n t ih=>refine ⟨?_,fun o=>rfl⟩; simp only [Ty.sh,Ty.wb,ih.1]
 | d0 o t ih=>exact ⟨rfl,fun o=>rfl⟩
 | _=>exact ⟨rfl,fun o=>rfl⟩

theorem b74 {u t:Ty} (h:u.sh=t.sh):u.wb=t.wb:=by rw [← (b6l u).1,h,(b6l t).1]

theorem D0:∀ t:Ty,(zc t).length=t.size:=by
 intro t
 induction t with
 | pair a b iha ihb=>simp only [zc,Ty.size,List.length_append,iha,ihb]
 | arr n t ih=>simp [zc,Ty.size,ih]
 | _=>rfl

theorem b37:∀ t:Ty,zc t.J9=zc t:=by
 intro t
 induction t with
 | pair a b iha ihb=>simp only [Ty.J9,zc,iha,ihb]
 | arr n t ih=>simp only [Ty.J9,zc,ih]
 | _=>rfl
theorem b7i (t:Ty):t.J9.agg=t.agg:=by cases t<;>rfl
theorem b1P (t:Ty) (cs:List Value):j7 t.J9 cs=j7 t cs:=by simp only [j7,b7i]
theorem b7S:∀ t:Ty,t.J9.al=t.al:=by
 intro t
 induction t with
 | pair a b iha ihb=>simp only [Ty.J9,Ty.al,iha,ihb]
 | arr n t ih=>simp only [Ty.J9,Ty.al,ih]
 | _=>rfl
theorem b38:∀ t:Ty,t.J9.wb=t.wb∧∀ o,t.J9.a4z o=t.a4z o:=by
 intro t
 induction t with
 | pair a b iha ihb=>refine ⟨?_,fun o=>?_⟩<;>simp only [Ty.J9,Ty.wb,Ty.a4z,iha.1,ihb.2,b7S]
 | arr n t ih=>refine ⟨?_,fun o=>rfl⟩; simp only [Ty.J9,Ty.wb,ih.1]
 | _=>exact ⟨rfl,fun o=>rfl⟩
theorem a00:∀ t:Ty,t.J9.size=t.size:=by
 intro t
 induction t with
 | pair a b iha ihb=>simp only [Ty.J9,Ty.size,iha,ihb]
 | arr n t ih=>simp only [Ty.J9,Ty.size,ih]
 | _=>rfl

section
variable {P:Program}

theorem b5m:∀ {n:Nat} {T:TypeId} {t:Ty},n7 P n T t.J9=true→n7 P n T t=true:=by
 intro n
 induction n with
 | zero=>intro T t h; simp [n7] at h
 | succ n ih =>
  intro T t h
  have hfs:∀ (fs:List Field) (off:Nat) (t:Ty),l8 (n7 P n) fs off t.J9=true→l8 (n7 P n) fs off t=true:=by
   intro fs
   induction fs with
   | nil =>
    intro off t h
    cases t<;>simp [l8,Ty.J9] at h
    rfl
   | cons f fs ihf =>
    intro off t h
    cases t<;>simp [l8,Ty.J9] at h
    rename_i a b
    have h2:=ih h.1.1.2
    have h3:=ihf _ _ h.2
    rw [a00] at h h3
    simp only [l8,Bool.and_eq_true]
    refine ⟨⟨⟨⟨?_,?_⟩,h2⟩,?_⟩,h3⟩<;>simp [h.1]
  simp only [n7,Bool.and_eq_true] at h ⊢
  obtain ⟨h1,h2⟩:=h
  refine ⟨?_,?_⟩
  ·rw [a00,(b38 t).1,b1P,b37] at h1; exact h1
  ·cases hu:P.underlying T with
   | none=>simp [hu] at h2
   | some d =>
    cases t with
    | box o g t=>cases g<;>cases d<;>simp only [hu,Ty.J9] at h2 ⊢<;>first|exact (Bool.false_ne_true h2).elim|exact h2|exact ih h2|exact hfs _ _ _ h2
    | _ =>
     cases d<;>simp only [hu,Ty.J9] at h2 ⊢<;>first|exact (Bool.false_ne_true h2).elim|exact h2|exact hfs _ _ _ h2|skip
     all_goals (simp only [Bool.and_eq_true,a00] at h2; simp only [Bool.and_eq_true]; exact ⟨h2.1,ih h2.2⟩)

theorem b5n:∀ {n:Nat} {T:TypeId} {t:Ty},n7 P n T t=true→n7 P n T t.J9=true:=by
 intro n
 induction n with
 | zero=>intro T t h; simp [n7] at h
 | succ n ih =>
  intro T t h
  have hfs:∀ (fs:List Field) (off:Nat) (t:Ty),l8 (n7 P n) fs off t=true→l8 (n7 P n) fs off t.J9=true:=by
   intro fs
   induction fs with
   | nil =>
    intro off t h
    cases t<;>simp [l8] at h
    rfl
   | cons f fs ihf =>
    intro off t h
    cases t<;>simp [l8] at h
    rename_i a b
    have h2:=ih h.1.1.2
    have h3:=ihf _ _ h.2
    simp only [Ty.J9,l8,Bool.and_eq_true,a00]
    refine ⟨⟨⟨⟨?_,?_⟩,h2⟩,?_⟩,h3⟩<;>simp [h.1]
  simp only [n7,Bool.and_eq_true] at h ⊢
  obtain ⟨h1,h2⟩:=h
  refine ⟨?_,?_⟩
  ·rw [a00,(b38 t).1,b1P,b37]; exact h1
  ·cases hu:P.underlying T with
   | none=>simp [hu] at h2
   | some d =>
    cases t with
    | box o g t=>cases g<;>cases d<;>simp only [hu,Ty.J9] at h2 ⊢<;>first|exact (Bool.false_ne_true h2).elim|exact h2|exact ih h2|exact hfs _ _ _ h2
    | _ =>
     cases d<;>simp only [hu,Ty.J9] at h2 ⊢<;>first|exact (Bool.false_ne_true h2).elim|exact h2|exact hfs _ _ _ h2|skip
     all_goals (simp only [Bool.and_eq_true] at h2; simp only [Bool.and_eq_true,a00]; exact ⟨h2.1,ih h2.2⟩)

theorem a1Y:∀ {n:Nat} {T:TypeId} {t u:Ty},u.sh=t.sh→n7 P n T t=true→n7 P n T u=true:=by
 intro n
 induction n with
 | zero=>intro T t u _ h; simp [n7] at h
 | succ n ih =>
  intro T t u hs h
  have hfs:∀ (fs:List Field) (off:Nat) (t u:Ty),u.sh=t.sh→l8 (n7 P n) fs off t=true→l8 (n7 P n) fs off u=true:=by
   intro fs
   induction fs with
   | nil =>
    intro off t u hs h
    cases t<;>simp [l8] at h
    cases u<;>simp only [Ty.sh] at hs<;>try cases hs
    rfl
   | cons f fs ihf =>
    intro off t u hs h
    cases t<;>simp [l8] at h
    rename_i a b
    cases u<;>simp only [Ty.sh] at hs<;>try cases hs
    rename_i a' b'
    simp only [Ty.pair.injEq] at hs
    have h2:=ih hs.1 h.1.1.2
    have h3:=ihf _ _ _ hs.2 h.2
    simp only [l8,C5 hs.1,Bool.and_eq_true]
    refine ⟨⟨⟨⟨?_,?_⟩,h2⟩,?_⟩,h3⟩<;>simp [h.1]
  simp only [n7,Bool.and_eq_true] at h ⊢
  obtain ⟨h1,h2⟩:=h
  refine ⟨?_,?_⟩
  ·rw [C5 hs,b74 hs,a9m hs,b6j hs]; exact h1
  ·cases t with
   | pair a b =>
    cases u<;>simp only [Ty.sh] at hs<;>try cases hs
    rename_i a' b'
    have hs':(Ty.pair a' b').sh=(Ty.pair a b).sh:=hs
    cases hu:P.underlying T with
    | none=>simp [hu] at h2
    | some d =>
     cases d<;>simp only [hu] at h2 ⊢<;>first|exact (Bool.false_ne_true h2).elim|skip
     exact hfs _ _ _ _ hs' h2
   | unit =>
    cases u<;>simp only [Ty.sh] at hs<;>try cases hs
    exact h2
   | arr m t =>
    cases u<;>simp only [Ty.sh] at hs<;>try cases hs
    rename_i m' t'
    simp only [Ty.arr.injEq] at hs
    cases hu:P.underlying T with
    | none=>simp [hu] at h2
    | some d =>
     cases d<;>simp only [hu] at h2 ⊢<;>first|exact (Bool.false_ne_true h2).elim|skip
     ·simp only [Bool.and_eq_true] at h2 ⊢
      rw [hs.1,C5 hs.2]
      exact ⟨h2.1,ih hs.2 h2.2⟩
     ·exact hfs _ _ _ _ (by simp only [Ty.sh,hs]) h2
   | d0 o t =>
    cases u<;>simp only [Ty.sh] at hs<;>try cases hs
    ·rename_i o' t'
     simp only [Ty.d0.injEq] at hs
     cases hu:P.underlying T with
     | none=>simp [hu] at h2
     | some d =>
      cases d<;>simp only [hu] at h2 ⊢<;>first|exact (Bool.false_ne_true h2).elim|skip
      ·simp only [Bool.and_eq_true] at h2 ⊢
       rw [C5 hs.2]
       exact ⟨h2.1,ih hs.2 h2.2⟩
      ·exact hfs _ _ _ _ (by simp only [Ty.sh,hs]) h2
    ·rename_i t'
     simp only [Ty.d0.injEq] at hs
     cases hu:P.underlying T with
     | none=>simp [hu] at h2
     | some d =>
      cases d<;>simp only [hu] at h2 ⊢<;>first|exact (Bool.false_ne_true h2).elim|skip
      ·simp only [Bool.and_eq_true] at h2 ⊢
       rw [C5 hs.2]
       exact ⟨h2.1,ih hs.2 h2.2⟩
      ·exact hfs _ _ _ _ (by simp only [Ty.sh,hs]) h2
   | hole t =>
    cases u<;>simp only [Ty.sh] at hs<;>try cases hs
    ·rename_i o' t'
     simp only [Ty.d0.injEq] at hs
     cases hu:P.underlying T with
     | none=>simp [hu] at h2
     | some d =>
      cases d<;>simp only [hu] at h2 ⊢<;>first|exact (Bool.false_ne_true h2).elim|skip
      ·simp only [Bool.and_eq_true] at h2 ⊢
       rw [C5 hs.2]
       exact ⟨h2.1,ih hs.2 h2.2⟩
      ·exact hfs _ _ _ _ (by simp only [Ty.sh,hs]) h2
    ·rename_i t'
     simp only [Ty.d0.injEq] at hs
     cases hu:P.underlying T with
     | none=>simp [hu] at h2
     | some d =>
      cases d<;>simp only [hu] at h2 ⊢<;>first|exact (Bool.false_ne_true h2).elim|skip
      ·simp only [Bool.and_eq_true] at h2 ⊢
       rw [C5 hs.2]
       exact ⟨h2.1,ih hs.2 h2.2⟩
      ·exact hfs _ _ _ _ (by simp only [Ty.sh,hs]) h2
   | r7 t =>
    cases u<;>simp only [Ty.sh] at hs<;>try cases hs
    rename_i t'
    simp only [Ty.r7.injEq] at hs
    cases hu:P.underlying T with
    | none=>simp [hu] at h2
    | some d =>
     cases d<;>simp only [hu] at h2 ⊢<;>first|exact (Bool.false_ne_true h2).elim|skip
     ·simp only [Bool.and_eq_true] at h2 ⊢
      rw [C5 hs]
      exact ⟨h2.1,ih hs h2.2⟩
     ·exact hfs _ _ _ _ (by simp only [Ty.sh,hs]) h2
   | map o k v =>
    cases u<;>simp only [Ty.sh] at hs<;>try cases hs
    cases hu:P.underlying T with
    | none=>simp [hu] at h2
    | some d =>
     cases d<;>simp only [hu] at h2 ⊢<;>first|exact (Bool.false_ne_true h2).elim|exact h2|skip
     ·exact hfs _ _ (.map o k v) _ rfl h2
   | box o g t =>
    cases u<;>simp only [Ty.sh] at hs<;>try cases hs
    rename_i o' g' t'
    simp only [Ty.box.injEq] at hs
    obtain ⟨_,rfl,hs⟩:=hs
    cases hu:P.underlying T with
    | none=>simp [hu] at h2
    | some d =>
     cases g'<;>cases d<;>simp only [hu] at h2 ⊢<;>first|exact (Bool.false_ne_true h2).elim|exact ih hs h2|exact hfs _ _ _ _ (by simp only [Ty.sh,hs]) h2|trivial
   | _ =>
    cases u<;>simp only [Ty.sh] at hs<;>try cases hs
    exact h2

theorem b4Q:∀ {a b:Value},eqS a b=true→a=b:=by
 intro a b h
 unfold eqS at h
 split at h
 ·simp at h; rw [h.1,h.2]
 ·simp at h; rw [h]
 ·rename_i a b
  cases a; cases b
  simp at h
  rw [h.1,h.2]
 ·rename_i a b c d
  simp only [Bool.and_eq_true] at h
  have h1:=Nat.eq_of_beq_eq_true h.1
  have h2:=Nat.eq_of_beq_eq_true h.2
  rw [h1,h2]
 ·rfl
 ·rfl
 ·rfl
 ·cases h

theorem b4R:∀ {a b:List Value},eqL a b=true→a=b
 | [],[],_=>rfl
 | a::l,b::m,h=>by
  simp only [eqL,Bool.and_eq_true] at h
  rw [b4Q h.1,b4R h.2]
 | [],_::_,h=>by simp [eqL] at h
 | _::_,[],h=>by simp [eqL] at h

theorem b7L {a b:Value} (h:eqV a b=true):a=b:=by
 unfold eqV at h
 split at h
 ·rename_i a b
  have:=b4R h
  rw [show a=b from Array.toList_inj.1 this]
 ·exact b4Q h

theorem K6 {n:Nat} {T:TypeId} {t:Ty} (h:n7 P n T t=true):∃ i,P.info? T=some i∧i.size=t.size∧i.zero=some (j7 t (zc t)):=by
 cases n with
 | zero=>simp [n7] at h
 | succ n =>
  simp only [n7,Bool.and_eq_true] at h
  obtain ⟨h1,_⟩:=h
  split at h1
  ·rename_i i hi
   simp only [Bool.and_eq_true] at h1
   refine ⟨i,hi,Nat.eq_of_beq_eq_true h1.1.1,?_⟩
   have h1:=h1.2
   split at h1
   ·rename_i z hz; rw [hz,b7L h1]
   ·cases h1
  ·cases h1

theorem a0E {n:Nat} {T:TypeId} {t:Ty} (h:n7 P n T t=true) {i:TypeInfo} (hi:P.info? T=some i):i.bytes=t.wb:=by
 cases n with
 | zero=>simp [n7] at h
 | succ n =>
  simp only [n7,Bool.and_eq_true] at h
  have h1:=h.1
  rw [hi] at h1
  simp only [Bool.and_eq_true] at h1
  exact Nat.eq_of_beq_eq_true h1.1.2

theorem I7 {n:Nat} {T:TypeId} {t:Ty} (h:n7 P n T t=true):∃ d,P.underlying T=some d∧t.agg=(match d with|.struct _=>true|.array _ _=>true|_=>false):=by
 cases n with
 | zero=>simp [n7] at h
 | succ n =>
  simp only [n7,Bool.and_eq_true] at h
  obtain ⟨_,h2⟩:=h
  cases hu:P.underlying T with
  | none=>simp [hu] at h2
  | some d =>
   refine ⟨d,rfl,?_⟩
   cases d<;>simp only [hu] at h2
   case struct fs =>
    cases hf:fs.toList with
    | nil=>rw [hf] at h2; cases t<;>simp [l8] at h2; rfl
    | cons f l=>rw [hf] at h2; cases t<;>simp [l8] at h2; rfl
   all_goals cases t<;>first|rfl|(exact (Bool.false_ne_true h2).elim)

variable {w:World}
theorem run_sizeOf {n:Nat} {T:TypeId} {t:Ty} (h:n7 P n T t=true):(sizeOf T).run P w=.ok t.size w:=by
 obtain ⟨i,h1,h2,_⟩:=K6 h
 simp [sizeOf,typeInfo,program,Sem.run,h1,h2]

theorem Y5 {n:Nat} {T:TypeId} {t:Ty} (h:n7 P n T t=true):(zeroValue T).run P w=.ok (j7 t (zc t)) w:=by
 obtain ⟨i,h1,_,h3⟩:=K6 h
 simp [zeroValue,typeInfo,program,Sem.run,h1,h3]

theorem n9 {T:TypeId} {d:TypeDesc} (h:P.underlying T=some d):(underlying T).run P w=.ok d w:=by
 simp [underlying,program,Sem.run,h]

theorem a2B {n:Nat} {T:TypeId} {t:Ty} (h:n7 P n T t=true):(isAgg T).run P w=.ok t.agg w:=by
 obtain ⟨d,h1,h2⟩:=I7 h
 rw [h2]
 simp only [isAgg,Sem.run_bind,n9 h1,Result.andThen]
 cases d<;>rfl

end

section
variable {H:Array Go.Obj} {S:Nat→Prop}
theorem d9.n6:∀ t:Ty,d9 H S t [] (zc t) t.n6:=by
 intro t
 induction t with
 | int k=>exact ⟨rfl,rfl,by unfold A4; cases k<;>decide⟩
 | bool=>exact ⟨rfl,rfl⟩
 | str=>exact ⟨rfl,rfl,Nat.zero_le _⟩
 | unit=>exact ⟨rfl,rfl⟩
 | fn f=>exact ⟨rfl,rfl⟩
 | hole t _=>exact ⟨rfl,_,rfl,rfl⟩
 | r7 t _=>exact .inl ⟨rfl,⟨none,0,rfl,fun _=>rfl⟩,rfl⟩
 | map o k v=>exact .inl ⟨rfl,rfl,rfl⟩
 | box o g t=>exact .inl ⟨rfl,rfl,rfl⟩
 | pair a b iha ihb =>
  refine ⟨[],[],rfl,?_,?_⟩
  ·simp only [zc,← D0 a,List.take_left']; exact iha
  ·simp only [zc,← D0 a,List.drop_left']; exact ihb
 | arr n t ih =>
  refine ⟨by simp [Ty.n6],?_⟩
  simp only [Ty.n6,zc]
  induction n with
  | zero=>exact ⟨rfl,rfl⟩
  | succ n ihn =>
   refine ⟨[],[],rfl,?_,?_⟩
   ·rw [List.replicate_succ,List.flatten_cons,List.take_left' (D0 t)]; exact ih
   ·rw [List.replicate_succ,List.flatten_cons,List.drop_left' (D0 t)]; exact ihn
 | d0 o t _=>exact .inl ⟨rfl,⟨none,0,rfl,fun _=>rfl⟩,rfl⟩

theorem b4d {t:Ty} {cs:List Value} (h:cs.length=t.size) (hn:∀ c∈cs,∀ a,c≠.agg a):(j7 t cs).cells=cs.toArray:=by
 unfold j7
 split
 ·rfl
 ·rename_i hg
  have:cs.length=1:=by rw [h]; cases t<;>simp_all [Ty.agg,Ty.size]
  match cs,this with
  | [c],_ =>
   simp only [List.headD_cons]
   have:=hn c (by simp)
   cases c<;>simp_all [Value.cells]

def Plain (v:Value):Prop:=v.oneCell'=true∧∀ a,v≠.agg a

theorem i5.plain {α:Type} {R:List Nat→List Value→α→Prop} {sz:Nat} (hR:∀ O cs x,R O cs x→∀ c∈cs,Plain c):∀ {l:List α} {O:List Nat} {cs:List Value},i5 R sz O cs l→∀ c∈cs,Plain c
 | [],_,_,⟨_,h⟩=>by rw [h]; simp
 | _::_,_,cs,⟨O1,O2,_,h1,h2⟩=>by
  intro c hc
  rw [← List.take_append_drop sz cs] at hc
  rcases List.mem_append.1 hc with h|h
  ·exact hR _ _ _ h1 c h
  ·exact i5.plain hR h2 c h

theorem d9.plain:∀ {t:Ty} {O:List Nat} {cs:List Value} {x:t.den},d9 H S t O cs x→∀ c∈cs,Plain c:=by
 intro t
 induction t with
 | int k=>rintro O cs x ⟨_,rfl,_⟩ c hc; simp at hc; subst hc; exact ⟨rfl,by simp⟩
 | bool=>rintro O cs x ⟨_,rfl⟩ c hc; simp at hc; subst hc; exact ⟨rfl,by simp⟩
 | str=>rintro O cs x ⟨_,rfl,_⟩ c hc; simp at hc; subst hc; exact ⟨rfl,by simp⟩
 | unit=>rintro O cs x ⟨_,rfl⟩ c hc; simp at hc
 | fn f =>
  rintro O cs x ⟨_,rfl⟩ c hc
  simp at hc; subst hc
  cases x<;>exact ⟨rfl,by simp [fnV]⟩
 | hole t _ =>
  rintro O cs x ⟨_,v,rfl,hv⟩ c hc
  simp at hc; subst hc
  cases c<;>first|exact ⟨rfl,by simp⟩|exact absurd hv (by simp [b3e])
 | r7 t _ =>
  rintro O cs ⟨n,l,m⟩ h c hc
  match n,h with
  | 0,h=>rcases h with ⟨_,⟨_,_,rfl,_⟩,_⟩|⟨b,off,cap,O',rfl,_⟩<;>(simp at hc; subst hc; exact ⟨rfl,by simp⟩)
  | 1,h=>rcases h with ⟨_,⟨_,_,rfl,_⟩,_⟩|⟨b,off,cap,O',rfl,_⟩<;>(simp at hc; subst hc; exact ⟨rfl,by simp⟩)
  | n+2,⟨b,off,O',h1,_⟩=>rw [h1] at hc; simp at hc; subst hc; exact ⟨rfl,by simp⟩
 | map o k v =>
  rintro O cs x (⟨_,_,rfl⟩|⟨l,b,es,ck,_,rfl,_⟩) c hc<;>(simp at hc; subst hc; exact ⟨rfl,by simp⟩)
 | box o g t =>
  rintro O cs x (⟨_,_,rfl⟩|⟨y,b,off,O',_,rfl,_⟩) c hc<;>(simp at hc; subst hc; cases g<;>exact ⟨rfl,by simp [a2Z,b3E]⟩)
 | pair a b iha ihb =>
  rintro O cs x ⟨O1,O2,_,h1,h2⟩ c hc
  rw [← List.take_append_drop a.size cs] at hc
  rcases List.mem_append.1 hc with h|h
  ·exact iha h1 c h
  ·exact ihb h2 c h
 | arr n t ih=>rintro O cs x ⟨_,h⟩; exact i5.plain (fun _ _ _ h=>ih h) h
 | d0 o t _ =>
  rintro O cs x h c hc
  rcases h with ⟨_,⟨_,_,rfl,_⟩,_⟩|⟨b,off,cap,O',rfl,_⟩<;>(simp at hc; subst hc; exact ⟨rfl,by simp⟩)

theorem d9.cells {t:Ty} {O:List Nat} {cs:List Value} {x:t.den} (h:d9 H S t O cs x):(j7 t cs).cells=cs.toArray :=
 b4d h.length fun c hc=>(h.plain c hc).2

end
end Go.Ex
