import Derived.Test.YtekbamiaenbhjaaExK1
import Derived.Laws.Entries

namespace Go.Ex

def look {α:Type _} (n:Nat):List (Nat×α)→Option α
 | []=>none
 | (m,x)::l=>match Nat.beq n m with|true=>some x|false=>look n l

def put {α:Type _} (n:Nat) (x:α) (l:List (Nat×α)):List (Nat×α) :=
 match l with
 | []=>[(n,x)]
 | (m,y)::l=>match Nat.beq n m with
  | true=>(n,x)::l
  | false=>match Nat.blt n m with
   | true=>(n,x)::(m,y)::l
   | false=>(m,y)::put n x l

def del {α:Type _} (n:Nat):List (Nat×α)→List (Nat×α)
 | []=>[]
 | (m,y)::l=>match Nat.beq n m with|true=>del n l|false=>(m,y)::del n l

/-! ### types against the program's table -/
structure TI where
 ty:Ty
 by_:Nat

def zc:Ty→List Value
 | .int k=>[.int k 0]
 | .bool=>[.bool false]
 | .str=>[.string ⟨#[]⟩]
 | .unit=>[]
 | .fn _=>[.nilFunc]
 | .map _ _ _=>[.map none]
 | .box _ g _=>[boxN g]
 | .pair a b=>zc a++zc b
 | .arr n t=>(List.replicate n (zc t)).flatten
 | .slc _ _|.hole _|.msl _=>[.slice none 0 0]

def eqS:Value→Value→Bool
 | .int k n,.int k' n'=>decide (k=k') && decide (n=n')
 | .bool a,.bool b=>a == b
 | .string a,.string b=>a.data.size == 0 && b.data.size == 0
 | .slice none a b,.slice none c d=>Nat.beq a c && Nat.beq b d
 | .nilFunc,.nilFunc=>true
 | .map none,.map none=>true
 | .pointer none,.pointer none=>true
 | _,_=>false

def eqL:List Value→List Value→Bool
 | [],[]=>true
 | a::l,b::m=>eqS a b && eqL l m
 | _,_=>false

def eqV:Value→Value→Bool
 | .agg a,.agg b=>eqL a.toList b.toList
 | a,b=>eqS a b

def Ty.al:Ty→Nat
 | .int k=>k.bits / 8
 | .bool=>1
 | .str|.slc _ _|.fn _|.map _ _ _|.box _ _ _|.hole _|.msl _=>8
 | .unit=>1
 | .pair a b=>Nat.max a.al b.al
 | .arr _ t=>t.al

def rup (n a:Nat):Nat:=(n+(a - 1)) / a*a

mutual
def Ty.wb:Ty→Nat
 | .int k=>k.bits / 8
 | .bool=>1
 | .str=>16
 | .slc _ _|.hole _|.msl _=>24
 | .fn _=>8
 | .map _ _ _=>8
 | .box _ _ _=>8
 | .unit=>0
 | .pair a b=>rup (b.offs (rup 0 a.al+a.wb)) (Nat.max a.al b.al)
 | .arr n t=>n*t.wb
def Ty.offs:Ty→Nat→Nat
 | .pair a b,o=>b.offs (rup o a.al+a.wb)
 | _,o=>o
end

def fieldsOk (ck:TypeId→Ty→Bool):List Field→Nat→Ty→Bool
 | [],_,.unit=>true
 | f::fs,off,.pair a b=>Nat.beq f.offset off && Nat.ble 1 a.size && ck f.type a && f.name != "_" && fieldsOk ck fs (off+a.size) b
 | _,_,_=>false

def tyOk (P:Program):Nat→TypeId→Ty→Bool
 | 0,_,_=>false
 | n+1,T,t =>
  (match P.info? T with
  | some i=>Nat.beq i.size t.size && Nat.beq i.bytes t.wb && (match i.zero with|some z=>eqV z (toV t (zc t))|none=>false)
  | none=>false) &&
  match P.underlying T,t with
  | some .bool,.bool=>true
  | some (.int k),.int k'=>decide (k=k')
  | some .string,.str=>true
  | some (.func _ _ _),.fn _=>true
  | some (.map K V),.map _ k v=>k.shared && v.shared && tyOk P n K k && tyOk P n V v
  | some (.pointer e),.box _ none t=>tyOk P n e t
  | some (.func _ _ _),.box _ (some _) _=>true
  | some (.struct fs),t=>fieldsOk (tyOk P n) fs.toList 0 t
  | some (.array m e),.arr m' t=>Nat.beq m m' && Nat.ble 1 t.size && tyOk P n e t
  | some (.slice e),.slc _ t=>Nat.ble 1 t.size && tyOk P n e t
  | some (.slice e),.hole t=>Nat.ble 1 t.size && tyOk P n e t
  | some (.slice e),.msl t=>Nat.ble 1 t.size && tyOk P n e t
  | _,_=>false

def tiOk (P:Program) (x:TypeId×TI):Bool:=tyOk P 100 x.1 x.2.ty && Nat.beq (P.bytesOf x.1) x.2.by_

/-! ### abstract values -/
inductive AV where
 | any
 | raw (v:Value)
 | val (t:Ty) (x:t.den)
 | ptr (i:Nat) (p:List Step)
 | rptr (t:Ty) (x:t.den)
 | at_ (i:Nat) (p:List Step)
 | sub (i:Nat) (p:List Step) (lo hi:Int)
 | nil
 | cons (a b:AV)
 | tup (l:AV)
 | clo (f:FuncId) (l:AV)
 | bx (l:AV)
 | rc (f:FuncId) (l:AV)

inductive Ent where
 | var (t:Ty) (x:t.den)
 | own (t:Ty) (x:t.den)
 | bag

def Ent.ty:Ent→Ty|.var t _=>t|.own t _=>t|.bag=>.unit
def Ent.x:(e:Ent)→e.ty.den|.var _ x=>x|.own _ x=>x|.bag=>()
def Ent.upd (e:Ent) (r:Sigma Ty.den):Ent:=match e with|.var _ _=>.var r.1 r.2|.own _ _=>.own r.1 r.2|.bag=>.bag
def Ent.isOwn:Ent→Bool|.own _ _=>true|_=>false
def Ent.kd (e:Ent):Bool×Ty:=(e.isOwn,e.ty)

structure St where
 fr:List (Nat×AV)
 hp:List (Nat×Ent)

def St.get (s:St) (t:Nat):AV:=(look t s.fr).getD .any
def St.obj (s:St) (i:Nat):Option Ent:=look i s.hp

def St.put (s:St) (d:Option Nat) (v:AV):St :=
 match d with
 | some t=>{ s with fr:=Ex.put t v s.fr }
 | none=>s

def AV.ment (i:Nat):AV→Bool
 | .ptr j _|.at_ j _|.sub j _ _ _=>Nat.beq i j
 | .cons a b=>a.ment i || b.ment i
 | .tup l|.clo _ l|.bx l|.rc _ l=>l.ment i
 | _=>false

def AV.map (f:AV→AV):AV→AV
 | .ptr j p=>f (.ptr j p)
 | .at_ j p=>f (.at_ j p)
 | .sub j p a b=>f (.sub j p a b)
 | .cons a b=>.cons (a.map f) (b.map f)
 | .tup l=>.tup (l.map f)
 | .clo g l=>.clo g (l.map f)
 | .bx l=>.bx (l.map f)
 | .rc g l=>.rc g (l.map f)
 | v=>v

def AV.drop (i:Nat):AV→AV:=AV.map fun v=>match v.ment i with|true=>.any|false=>v

def AV.kill1 (i:Nat) (ow:Bool×Ty) (q:List Step) (v:AV):AV :=
 match v.ment i with
 | false=>v
 | true=>match v with
  | .ptr j p=>match kp q p with|true=>.ptr j p|false=>.any
  | .at_ j []=>match ow.1,q with
   | true,.idx _::_=>.at_ j []
   | _,_=>match kc ow.2 q [] with|true=>.at_ j []|false=>.any
  | .at_ j (st::p)=>match kc ow.2 q (st::p) && kp q (st::p) with|true=>.at_ j (st::p)|false=>.any
  | .sub j [] a b=>match ow.1,q with
   | true,.idx _::_=>.sub j [] a b
   | _,_=>.any
  | _=>.any

def AV.kill (i:Nat) (ow:Bool×Ty) (q:List Step):AV→AV:=AV.map (AV.kill1 i ow q)

def mapA {α:Type _} (f:α→α):List (Nat×α)→List (Nat×α)
 | []=>[]
 | (n,x)::l=>(n,f x)::mapA f l

def St.drop (i:Nat) (s:St):St:={ fr:=mapA (AV.drop i) s.fr,hp:=del i s.hp }
def St.kill (i:Nat) (ow:Bool×Ty) (q:List Step) (s:St):St:={ s with fr:=mapA (AV.kill i ow q) s.fr }
def St.drops:List Nat→St→St
 | [],s=>s
 | i::l,s=>St.drops l (s.drop i)
def St.putE (s:St) (i:Nat) (e:Ent):St:={ s with hp:=Ex.put i e s.hp }

def noMent (i:Nat):List (Nat×AV)→Bool
 | []=>true
 | (_,v)::l=>!v.ment i && noMent i l

def St.fresh (s:St) (i:Nat):Bool:=(look i s.hp).isNone && noMent i s.fr

/-! ### contracts -/
inductive PK where
 | v (t:Ty)
 | rd (t:Ty)
 | clo (f:FuncId) (ts:List Ty)
 | own (t:Ty)
 | rw (t:Ty)
 | mu (t:Ty)
 | nilS
 | rcs (f:FuncId) (n:Nat)
 | el (q:List Step)

def DL:List Ty→Type
 | []=>Unit
 | t::ts=>t.den×DL ts

def PK.den:PK→Type
 | .v t=>t.den
 | .rd t=>t.den
 | .clo _ ts=>DL ts
 | .own t=>t.den
 | .rw t=>t.den
 | .mu t=>List t.den
 | .nilS=>Unit
 | .rcs _ _=>Unit
 | .el _=>Int

def DK:List PK→Type
 | []=>Unit
 | k::ks=>k.den×DK ks

def wts:List PK→List Ty
 | []=>[]
 | .rw t::ks=>t::wts ks
 | .mu t::ks=>.slc true t::wts ks
 | _::ks=>wts ks

def DL.app:{a b:List Ty}→DL a→DL b→DL (a++b)
 | [],_,_,y=>y
 | _::_,_,x,y=>(x.1,DL.app x.2 y)

structure Ctr where
 ps:List PK
 rs:List Ty
 pre:DK ps→Prop
 fn:DK ps→DL rs
 out:DK ps→DL (wts ps)
 new:Bool:=false

structure Env where
 P:Program
 tt:List (TypeId×TI)
 ctr:List (FuncId×Ctr)
 res:List ResultVar
 rs:List Ty
 ps:List PK
 cuts:List (Nat×List (Nat×Option Ty))
 nt:Nat
 keeps:List (FuncId×List (Option Nat)):=[]
 gp:Option (List Step):=none

inductive Tree (rs:List Ty) where
 | need (p:Prop) (t:Tree rs)
 | both (p:Prop) (a b:Tree rs)
 | cut (c:Code) (k:List Item) (s:St)
 | ret (y:DL rs)
 | stuck (why:String)

def Tree.holds {rs:List Ty} (L:Code→List Item→St→Prop) (R:DL rs→Prop):Tree rs→Prop
 | .need p t=>p∧(p→t.holds L R)
 | .both p a b=>(p→a.holds L R)∧b.holds L R
 | .cut c k s=>L c k s
 | .ret y=>R y
 | .stuck _=>False

inductive OR where
 | fail (why:String)
 | ok (v:AV) (s:St)
 | okN (p:Prop) (v:AV) (s:St)

theorem den_sh:∀ t:Ty,t.sh.den=t.den:=by
 intro t
 induction t with
 | pair a b iha ihb=>simp only [Ty.sh,Ty.den,iha,ihb]
 | arr n t ih=>simp only [Ty.sh,Ty.den,ih]
 | slc o t ih=>simp only [Ty.sh,Ty.den,ih]
 | hole t ih=>simp only [Ty.sh,Ty.den,ih]
 | msl t ih=>simp only [Ty.sh,Ty.den,ih]
 | box o g t ih=>simp only [Ty.sh,Ty.den,ih]
 | _=>rfl

theorem den_shH:∀ t:Ty,t.shH.den=t.den:=by
 intro t
 induction t with
 | pair a b iha ihb=>simp only [Ty.shH,Ty.den,iha,ihb]
 | slc o t ih=>simp only [Ty.shH,Ty.den,den_sh]
 | msl t ih=>simp only [Ty.shH,Ty.den,den_sh]
 | arr n t ih=>simp only [Ty.shH,Ty.den,den_sh]
 | box o g t ih=>simp only [Ty.shH,Ty.den,den_sh]
 | _=>rfl

def AV.as (t:Ty):AV→Option t.den
 | .val u x=>if h:u=t then some (h▸x) else none
 | .raw (.slice none 0 0)=>match t with
  | .slc _ _=>some []
  | _=>none
 | _=>none

def St.part (s:St) (i:Nat) (p:List Step):Option (Sigma Ty.den) :=
 match s.obj i with
 | some e=>getP e.ty e.x p
 | none=>none

def Ty.rdT:Ty→Ty
 | .pair a b=>.pair a.rdT b.rdT
 | .arr n t=>.arr n t.rdT
 | .slc _ t=>.slc false t.rdT
 | .msl t=>.slc false t.sh
 | t=>t.sh

def Ty.okM:Ty→Bool
 | .pair a b=>a.okM && b.okM
 | .arr _ t=>t.okM
 | .slc _ t=>t.okM
 | .msl t=>t.noH
 | t=>t.noH

theorem rdT_noH:∀ t:Ty,t.noH=true→t.rdT=t.sh:=by
 intro t
 induction t with
 | pair a b iha ihb=>intro h; simp only [Ty.noH,Bool.and_eq_true] at h; simp only [Ty.rdT,Ty.sh,iha h.1,ihb h.2]
 | arr n t ih=>intro h; simp only [Ty.rdT,Ty.sh,ih h]
 | slc o t ih=>intro h; simp only [Ty.rdT,Ty.sh,ih h]
 | msl t ih=>intro h; cases h
 | _=>intro h; rfl

theorem den_rdT {t:Ty} (h:t.noH=true):t.den=t.rdT.den:=by rw [rdT_noH t h,den_sh]

def rdV:(t:Ty)→t.den→t.rdT.den
 | .pair a b,x=>(rdV a x.1,rdV b x.2)
 | .arr _ t,l=>if h:t.noH=true then cast (congrArg List (den_rdT h)) l else List.map (rdV t) l
 | .slc _ t,l=>if h:t.noH=true then cast (congrArg List (den_rdT h)) l else List.map (rdV t) l
 | .msl t,x=>cast (congrArg List (den_sh t).symm) x.2.1
 | .int _,x=>x
 | .bool,x=>x
 | .str,x=>x
 | .unit,x=>x
 | .fn _,x=>x
 | .map _ _ _,x=>x
 | .box _ _ t,x=>cast (congrArg Option (den_sh t).symm) x
 | .hole t,x=>cast (congrArg List (den_sh t).symm) x

def shF (n:Nat):Nat:=match n with|0=>0|1=>0|_=>3

def rdS (a t:Ty) (x:(Ty.msl a).den):Option t.den :=
 match t with
 | .msl b=>if h:a.sh=b then (match a.noH with
  | true=>some (shF x.1,h▸cast (congrArg List (den_sh a).symm) x.2.1,h▸cast (congrArg List (den_sh a).symm) x.2.2)
  | false=>none) else none
 | _=>none

def rdM (t:Ty) (u:Ty) (y:u.den):Option t.den :=
 match u.okM with
 | true=>if h:u.rdT=t then some (h▸rdV u y) else (match u,y with
  | .msl a,y=>rdS a t y
  | _,_=>none)
 | false=>none

def lendP (t:Ty) (r:Option (Sigma Ty.den)):Option t.den :=
 match r with
 | some ⟨u,y⟩=>match u.okH with
  | true=>if h:u.shH=t then some (cast ((den_shH u).symm.trans (congrArg Ty.den h)) y) else none
  | false=>rdM t u y
 | none=>none

def fitM (u:Ty) (r:Sigma Ty.den):Sigma Ty.den :=
 match u,r with
 | .msl a,⟨.slc true b,z⟩=>if h:b=a then ⟨.msl a,(1,h▸z,[])⟩ else ⟨.slc true b,z⟩
 | .msl a,⟨.slc false b,z⟩=>if h:b=a then ⟨.msl a,(0,h▸z,[])⟩ else ⟨.slc false b,z⟩
 | _,r=>r

def St.lend (s:St) (t:Ty) (i:Nat) (p:List Step):Option t.den:=lendP t (s.part i p)

def cut2 {α:Type} (lo hi:Int) (l:List α):List α:=(l.drop lo.toNat).take (hi - lo).toNat

def St.view (s:St) (i:Nat) (p:List Step) (lo hi:Int):Option (Sigma fun t:Ty=>List t.den) :=
 match s.part i p with
 | some ⟨.slc _ t,l⟩=>some ⟨t,cut2 lo hi l⟩
 | some ⟨.arr _ t,l⟩=>some ⟨t,cut2 lo hi l⟩
 | _=>none

def AV.asV (s:St) (t:Ty):AV→Option t.den
 | .at_ i p=>s.lend t i p
 | .sub i p lo hi=>match s.view i p lo hi with
  | some ⟨u,l⟩=>lendP t (some ⟨.slc true u,l⟩)
  | none=>none
 | .val u x=>if h:u=t then some (h▸x) else lendP t (some ⟨u,x⟩)
 | v=>v.as t

def AV.asR (s:St) (t:Ty):AV→Option t.den
 | .ptr i p=>s.lend t i p
 | .rptr u x=>if h:u=t then some (h▸x) else none
 | .bx (.ptr i p)=>match t with
  | .box false none u=>(match s.lend u i p with
   | some x=>some (some x)
   | none=>none)
  | _=>none
 | _=>none

def AV.asRL (s:St):(ts:List Ty)→AV→Option (DL ts)
 | [],.nil=>some ()
 | t::ts,.cons a b=>match a.asR s t,AV.asRL s ts b with
  | some x,some y=>some (x,y)
  | _,_=>none
 | _,_=>none

def castD {u t:Ty} (h:u=t) (x:u.den):t.den:=h▸x

def AV.give (s:St):AV→Option (Sigma Ty.den×List Nat)
 | .val t x=>some (⟨t,x⟩,[])
 | .at_ i []=>match s.obj i with
  | some (.own t x)=>some (⟨t,x⟩,[i])
  | _=>none
 | .sub i [] lo hi=>match s.obj i with
  | some (.own (.slc true t) x)=>some (⟨.slc true t,cut2 lo hi x⟩,[i])
  | _=>none
 | _=>none

def AV.giveV (s:St) (v:AV):Option (Sigma Ty.den×List Nat) :=
 match v with
 | .at_ i []=>match s.obj i with
  | some (.var t x)=>some (⟨t,x⟩,[i])
  | _=>(AV.at_ i []).give s
 | .clo f .nil=>some (⟨.fn f,true⟩,[])
 | v=>v.give s

def AV.asK (s:St) (k:PK) (v:AV):Option (k.den×List Nat×List Nat) :=
 match k with
 | .v t=>match v.asV s t with|some x=>some (x,[],[])|none=>none
 | .rd t=>match v.asR s t with|some x=>some (x,[],[])|none=>none
 | .clo f ts=>match v with
  | .clo g l=>match Nat.beq f g with
   | true=>match AV.asRL s ts l with|some x=>some (x,[],[])|none=>none
   | false=>none
  | _=>none
 | .nilS=>match v with
  | .raw (.slice none 0 0)=>some ((),[],[])
  | _=>none
 | .own t=>match v with
  | .raw (.slice none 0 0)=>match v.as t with|some x=>some (x,[],[])|none=>none
  | v=>match v.giveV s with
   | some (⟨u,x⟩,l)=>if h:u=t then some (castD h x,l,[]) else none
   | none=>none
 | .rw t=>match v with
  | .ptr i []=>match s.obj i with
   | some (.var u x)=>if h:u=t then some (castD h x,[],[i]) else none
   | _=>none
  | _=>none
 | .mu t=>match v with
  | .at_ i []=>match s.obj i with
   | some (.own u x)=>if h:u=.slc true t then some (castD h x,[],[i]) else none
   | _=>none
  | _=>none
 | .rcs _ _=>none
 | .el _=>none

def AV.asKs (s:St):(ks:List PK)→AV→Option (DK ks×List Nat×List Nat)
 | [],.nil=>some ((),[],[])
 | k::ks,.cons a b=>match a.asK s k,AV.asKs s ks b with
  | some (x,g,m),some (y,g',m')=>some ((x,y),g++g',m++m')
  | _,_=>none
 | _,_=>none

def AV.lent:AV→List Nat
 | .at_ i _|.ptr i _|.sub i _ _ _=>[i]
 | .cons a b=>a.lent++b.lent
 | .tup l|.clo _ l|.bx l|.rc _ l=>l.lent
 | _=>[]

def Ty.noSh:Ty→Bool
 | .pair a b=>a.noSh && b.noSh
 | .arr _ t=>t.noSh
 | .slc o t=>o && t.noSh
 | .map o k v=>o && k.noSh && v.noSh
 | .box o _ t=>o && t.noSh
 | .msl _=>false
 | _=>true

def AV.lst:AV→Bool
 | .nil=>true
 | .cons _ b=>b.lst
 | _=>false

def AV.app:AV→AV→AV
 | .cons a b,l=>.cons a (b.app l)
 | _,l=>l

def rid (d j:Nat):Nat:=d+1000*(j+1)

def layE (t:Ty) (x:t.den) (i:Nat):Ent×AV :=
 match t,x with
 | .box true none u,some y=>(.var u y,.ptr i [])
 | .box true (some f) u,some y=>(.var u y,.clo f (.cons (.ptr i []) .nil))
 | t,x=>(.own t x,.at_ i [])

def layRes:(ts:List Ty)→DL ts→Nat→Nat→List (Nat×Ent)→Option (AV×List (Nat×Ent))
 | [],_,_,_,hp=>some (.nil,hp)
 | t::ts,x,d,j,hp =>
  match t.shared with
  | true=>match layRes ts x.2 d (j+1) hp with
   | some (l,hp')=>some (.cons (.val t x.1) l,hp')
   | none=>none
  | false=>match look (rid d j) hp with
   | some _=>none
   | none=>match layRes ts x.2 d (j+1) (Ex.put (rid d j) (layE t x.1 (rid d j)).1 hp) with
    | some (l,hp')=>some (.cons (layE t x.1 (rid d j)).2 l,hp')
    | none=>none

def AV.one:AV→AV
 | .cons a .nil=>a
 | l=>.tup l

def noMents (d:Nat):Nat→List (Nat×AV)→Bool
 | 0,_=>true
 | j+1,fr=>noMent (rid d j) fr && noMents d j fr

def noDup:List Nat→Bool
 | []=>true
 | a::l=>!l.contains a && noDup l

def disj:List Nat→List Nat→Bool
 | [],_=>true
 | a::l,m=>!m.contains a && disj l m

def nonesR (d:Nat):Nat→List (Nat×Ent)→Bool
 | 0,_=>true
 | j+1,hp=>(look (rid d j) hp).isNone && nonesR d j hp

def pinned (i:Nat):Bool:=Nat.ble 2000000 i

def flds:List Step→Bool
 | []=>true
 | .fld _::p=>flds p
 | .idx _::_=>false

def AV.killR1 (i:Nat) (ow:Bool) (v:AV):AV :=
 match v.ment i with
 | false=>v
 | true=>match v with
  | .ptr j p=>match flds p with|true=>.ptr j p|false=>.any
  | .at_ j []=>match ow with|true=>.at_ j []|false=>.any
  | .sub j [] a b=>match ow with|true=>.sub j [] a b|false=>.any
  | _=>.any

def St.killR (i:Nat) (ow:Bool) (s:St):St:={ s with fr:=mapA (AV.map (AV.killR1 i ow)) s.fr }

def wr (ks:List PK) (y:DL (wts ks)) (m:List Nat) (s:St):Option St :=
 match ks,y,m with
 | [],_,[]=>some s
 | .rw t::ks,y,[i]=>match wts ks with
  | []=>some ((s.killR i false).putE i (.var t y.1))
  | _=>none
 | .mu t::ks,y,[i]=>match wts ks with
  | []=>some ((s.killR i true).putE i (.own (.slc true t) y.1))
  | _=>none
 | .v _::ks,y,m=>wr ks y m s
 | .rd _::ks,y,m=>wr ks y m s
 | .clo _ _::ks,y,m=>wr ks y m s
 | .own _::ks,y,m=>wr ks y m s
 | .nilS::ks,y,m=>wr ks y m s
 | .rcs _ _::ks,y,m=>wr ks y m s
 | .el _::ks,y,m=>wr ks y m s
 | _,_,_=>none

def callA (E:Env) (f:FuncId) (args:AV) (dst:Option Nat) (s:St):OR :=
 match look f E.ctr with
 | none=>.fail "call: no contract"
 | some c=>match AV.asKs s c.ps args with
  | none=>.fail "call: arguments"
  | some (x,g,m)=>match noDup (g++m) && disj (g++m) (loose c.ps args) && (g.all fun i=>!pinned i) && (((c.rs.all Ty.noSh || c.new) && (wts c.ps).all Ty.noSh) || (match loose c.ps args with|[]=>true|_=>false)) && (noMents (dst.getD 0) c.rs.length s.fr && nonesR (dst.getD 0) c.rs.length s.hp) with
   | false=>.fail "call: objects"
   | true=>match wr c.ps (c.out x) m (St.drops g s) with
    | none=>.fail "call: writing"
    | some s=>match noMents (dst.getD 0) c.rs.length s.fr with
     | false=>.fail "call: names"
     | true=>match layRes c.rs (c.fn x) (dst.getD 0) 0 s.hp with
      | some (l,hp)=>.okN (c.pre x) l.one { s with hp:=hp }
      | none=>.fail "call: results"
where
 loose:List PK→AV→List Nat
  | .own _::ks,.cons _ b=>loose ks b
  | .rw _::ks,.cons _ b=>loose ks b
  | .mu _::ks,.cons _ b=>loose ks b
  | _::ks,.cons a b=>a.lent++loose ks b
  | _,_=>[]

/-! ### operations -/
def ofConst:Value→AV
 | .int k n=>if k.min≤n∧n≤k.max then .val (.int k) n else .raw (.int k n)
 | .bool b=>.val .bool b
 | .string s=>if s.data.size≤maxLen then .val .str s.data.toList else .raw (.string s)
 | v=>.raw v

abbrev ghostSlot:Nat:=5000000
def St.ev (s:St):Operand→AV
 | .tmp t=>match Nat.beq t ghostSlot with
  | true=>.any
  | false=>s.get t
 | .const v=>ofConst v
 | .global _=>.any
 | .func f=>.clo f .nil

def St.evs (s:St):List Operand→AV
 | []=>.nil
 | x::l=>.cons (s.ev x) (s.evs l)

def bAnd (k:IntKind) (x y:Int):Int:=k.wrap (BitVec.ofInt k.bits x &&& BitVec.ofInt k.bits y).toNat
def bOr (k:IntKind) (x y:Int):Int:=k.wrap (BitVec.ofInt k.bits x ||| BitVec.ofInt k.bits y).toNat
def bXor (k:IntKind) (x y:Int):Int:=k.wrap (BitVec.ofInt k.bits x ^^^ BitVec.ofInt k.bits y).toNat
def bAndNot (k:IntKind) (x y:Int):Int:=k.wrap (BitVec.ofInt k.bits x &&& ~~~(BitVec.ofInt k.bits y)).toNat

def arith (k:IntKind) (r:Int) (s:St):OR :=
 match k with
 | .i64=>.okN (inK .i64 r) (.val (.int .i64) r) s
 | k=>.ok (.val (.int k) (k.wrap r)) s

def binI (op:BinOp) (k:IntKind) (a:Int) (k':IntKind) (b:Int) (s:St):OR :=
 match op with
 | .shl=>.okN (0≤b) (.val (.int k) (k.wrap (a*2^(min b.toNat k.bits)))) s
 | .shr=>.okN (0≤b) (.val (.int k) (a / 2^(min b.toNat k.bits))) s
 | op =>
  if k=k' then
   match op with
   | .add=>arith k (a+b) s
   | .sub=>arith k (a - b) s
   | .mul=>arith k (a*b) s
   | .quo=>.okN (0<b) (.val (.int k) (Int.tdiv a b)) s
   | .rem=>.okN (0<b) (.val (.int k) (Int.tmod a b)) s
   | .and=>.ok (.val (.int k) (bAnd k a b)) s
   | .or=>.ok (.val (.int k) (bOr k a b)) s
   | .xor=>.ok (.val (.int k) (bXor k a b)) s
   | .andNot=>.ok (.val (.int k) (bAndNot k a b)) s
   | .eql=>.ok (.val .bool (decide (a=b))) s
   | .neq=>.ok (.val .bool (decide (a≠b))) s
   | .lss=>.ok (.val .bool (decide (a<b))) s
   | .leq=>.ok (.val .bool (decide (a≤b))) s
   | .gtr=>.ok (.val .bool (decide (b<a))) s
   | .geq=>.ok (.val .bool (decide (b≤a))) s
   | _=>.fail "binop int"
  else .fail "binop kinds"

def binS (op:BinOp) (a b:List UInt8) (s:St):OR :=
 match op with
 | .eql=>.ok (.val .bool (decide (a=b))) s
 | .neq=>.ok (.val .bool (decide (a≠b))) s
 | .add=>.okN (a.length+b.length≤maxLen) (.val .str (a++b)) s
 | _=>.fail "binop string"

def Ty.unM:Ty→Ty
 | .pair a b=>.pair a.unM b.unM
 | .arr n t=>.arr n t.unM
 | .slc o t=>.slc o t.unM
 | .box o g t=>.box o g t.unM
 | .msl t=>.slc false t.unM
 | t=>t

def chk (E:Env) (T:TypeId) (u:Ty):Bool :=
 match look T E.tt with
 | some i=>decide (i.ty.sh=u.unM.sh)
 | none=>false

def Ty.eqable:Ty→Bool
 | .int _|.bool|.str|.unit=>true
 | .pair a b=>a.eqable && b.eqable
 | .arr _ t=>t.eqable
 | _=>false

def eqD:(t:Ty)→t.den→t.den→Bool
 | .int _,x,y=>decide ((x:Int)=y)
 | .bool,x,y=>(x:Bool) == y
 | .str,x,y=>decide ((x:List UInt8)=y)
 | .unit,_,_=>true
 | .fn _,_,_=>false
 | .map _ _ _,_,_=>false
 | .box _ _ _,_,_=>false
 | .hole _,_,_=>false
 | .msl _,_,_=>false
 | .pair a b,x,y=>eqD a x.1 y.1 && eqD b x.2 y.2
 | .arr _ t,x,y=>eqDL (eqD t) x y
 | .slc _ _,_,_=>false
where eqDL {α:Type} (f:α→α→Bool):List α→List α→Bool
 | [],[]=>true
 | x::l,y::m=>f x y && eqDL f l m
 | _,_=>false

def binA (E:Env) (T:TypeId) (op:BinOp) (x y:AV) (s:St):OR :=
 match x,y with
 | .val (.int k) a,.val (.int k') b=>binI op k a k' b s
 | .val .bool a,.val .bool b =>
  match chk E T .bool,op with
  | true,.eql=>.ok (.val .bool (a == b)) s
  | true,.neq=>.ok (.val .bool (a != b)) s
  | _,_=>.fail "binop bool"
 | .val .str a,.val .str b=>binS op a b s
 | _,_=>.fail "binop"

def Ty.ht:Ty→Nat
 | .pair a b=>max (a.ht+1) b.ht
 | .arr _ t=>t.ht+1
 | _=>0

def eqFs (ck:TypeId→Ty→Bool):List Field→Ty→Bool
 | [],.unit=>true
 | f::fs,.pair a b=>ck f.type a && eqFs ck fs b
 | _,_=>false

def eqOk (P:Program):Nat→TypeId→Ty→Bool
 | 0,_,_=>false
 | n+1,T,t=>match P.underlying T,t with
  | some (.struct fs),t=>!P.stoodInHeld T && eqFs (eqOk P n) fs.toList t
  | some (.array _ e),.arr _ t=>eqOk P n e t
  | some .bool,.bool=>true
  | some (.int _),.int _=>true
  | some .string,.str=>true
  | _,_=>false

def eqA (E:Env) (T:TypeId) (op:BinOp) (t:Ty) (x:t.den) (u:Ty) (y:u.den) (s:St):OR :=
 if h:u=t then
  (match t.agg && chk E T t && eqOk E.P 100 T t && !(E.P.eqGuardType E.P.depth T) && Nat.blt t.ht 100,op with
  | true,.eql=>.ok (.val .bool (eqD t x (h▸y))) s
  | true,.neq=>.ok (.val .bool (!(eqD t x (h▸y)))) s
  | _,_=>.fail "eq")
 else .fail "eq: types"

def binE (E:Env) (T:TypeId) (op:BinOp) (x y:AV) (s:St):OR :=
 match x,y with
 | .val (.pair p q) a,.val u b=>eqA E T op (.pair p q) a u b s
 | .val (.arr n q) a,.val u b=>eqA E T op (.arr n q) a u b s
 | x,y=>binA E T op x y s

def unA (op:UnOp) (x:AV) (s:St):OR :=
 match op,x with
 | .not,.val .bool b=>.ok (.val .bool (!b)) s
 | .neg,.val (.int k) a=>arith k (0 - a) s
 | .xor,.val (.int k) a=>.ok (.val (.int k) (bXor k (if k.signed then -1 else k.max) a)) s
 | _,_=>.fail "unop"

def partPath (t:Ty) (i:Nat):List Step :=
 match t with
 | .arr _ _=>[.idx i]
 | _=>[.fld i]

def buildL (s:St):Sigma Ty.den→List (Nat×Operand)→Option (Sigma Ty.den×List Nat)
 | r,[]=>some (r,[])
 | ⟨t,x⟩,(i,v)::parts =>
  match getP t x (partPath t i) with
  | none=>none
  | some ⟨u0,_⟩=>match s.ev v with
   | .raw (.slice none 0 0)=>(match u0 with
    | .slc o u'=>(match setP t x (partPath t i) (.slc o u') ([]:List u'.den) with
     | some r=>buildL s r parts
     | none=>none)
    | _=>none)
   | v=>(match v.giveV s with
    | some (⟨u,z⟩,g)=>(match setP t x (partPath t i) u z with
     | some r=>(match buildL s r parts with
      | some (r,g')=>some (r,g++g')
      | none=>none)
     | none=>none)
    | none=>none)

def bslL (s:St) (n:Nat) (t:Ty) (parts:List (Nat×Operand)):Option (Sigma Ty.den×List Nat) :=
 match buildL s ⟨.arr n t,(Ty.arr n t).dflt⟩ parts with
 | some r=>some r
 | none=>buildL s ⟨.arr n t.sh,(Ty.arr n t.sh).dflt⟩ parts

def St.lay (s:St) (d:Nat) (g:List Nat) (t:Ty) (x:t.den):OR :=
 match noDup g && (g.all fun i=>!pinned i) && s.fresh d with
 | false=>.fail "lay: objects"
 | true=>match (St.drops g s).fresh d with
  | true=>.ok (.at_ d []) ((St.drops g s).putE d (.own t x))
  | false=>.fail "lay: name"

def OR.need (p:Prop):OR→OR
 | .ok v s=>.okN p v s
 | r=>r

def OR.also (p:Prop):OR→OR
 | .ok v s=>.okN (p∧True) v s
 | .okN q v s=>.okN (p∧q) v s
 | .fail y=>.fail y

def inArr (t:Ty) (i:Nat):Bool :=
 match t with
 | .arr n _=>Nat.blt i n
 | _=>true

def ptrTy:Option TI→Bool
 | some ⟨.box _ none _,_⟩=>true
 | some ⟨.fn _,_⟩=>true
 | _=>false

def loadA (E:Env) (T:TypeId) (a:AV) (s:St):OR :=
 match a with
 | .rptr t x=>match chk E T t with|true=>.ok (.val t x) s|false=>.fail "load: type"
 | .bx l=>match ptrTy (look T E.tt) with
  | true=>.ok l s
  | false=>.fail "load: pointer"
 | .ptr i p=>match s.part i p with
  | some ⟨u,y⟩=>(match chk E T u with
   | true=>(match u.shared with|true=>.ok (.val u y) s|false=>.ok (.at_ i p) s)
   | false=>.fail "load: type")
  | none=>.fail "load: path"
 | _=>.fail "load"

def Ty.holed:Ty→Ty
 | .pair a b=>.pair a.holed b.holed
 | .slc o t=>match o with
  | true=>.hole t
  | false=>.slc false t
 | t=>t
def holeV:(t:Ty)→t.den→t.holed.den
 | .int _,x=>x
 | .bool,x=>x
 | .str,x=>x
 | .unit,x=>x
 | .fn _,x=>x
 | .map _ _ _,x=>x
 | .box _ _ _,x=>x
 | .pair a b,x=>(holeV a x.1,holeV b x.2)
 | .arr _ _,x=>x
 | .slc true _,_=>[]
 | .slc false _,x=>x
 | .hole _,x=>x
 | .msl _,x=>x

def storeA (E:Env) (T:TypeId) (i:Nat) (p:List Step) (x:AV) (s:St):OR :=
 match s.obj i with
 | none=>.fail "store: object"
 | some e=>match getP e.ty e.x p with
  | none=>.fail "store: path"
  | some ⟨u,y⟩=>match chk E T u with
   | false=>.fail "store: type"
   | true=>match x with
    | .raw (.slice none 0 0)=>(match u with
     | .slc o u'=>(match setP e.ty e.x p (.slc o u') ([]:List u'.den) with
      | some r=>.ok (.raw undef) ((s.kill i e.kd p).putE i (e.upd r))
      | none=>.fail "store: nil")
     | .msl a=>(match setP e.ty e.x p (.msl a) ((1,([],[])):Nat×(List a.den×List a.den)) with
      | some r=>.ok (.raw undef) ((s.kill i e.kd p).putE i (e.upd r))
      | none=>.fail "store: nil")
     | _=>.fail "store: nil of what")
    | .sub j q lo hi=>(match u,y with
     | .slc true u',(y:List u'.den)=>(match setP e.ty e.x p (.slc true u') (cut2 lo hi y) with
      | some r=>(match Nat.beq i j with
       | true=>.okN (q=p∧True) (.raw undef) ((s.kill i e.kd p).putE i (e.upd r))
       | false=>.fail "store: a view of another")
      | none=>.fail "store: view")
     | _,_=>.fail "store: view of what")
    | x=>(match x.giveV s with
     | some (q,g)=>(match setP e.ty e.x p (fitM u q).1 (fitM u q).2 with
      | some r=>(match !g.contains i && noDup g && g.all fun i=>!pinned i with
       | true=>.ok (.raw undef) (((St.drops g s).kill i e.kd p).putE i (e.upd r))
       | false=>.fail "store: itself")
      | none=>.fail "store: value")
     | none=>(match x with
      | .at_ j q=>(match s.part j q with
       | some ⟨u',y'⟩=>(match setP e.ty e.x p u'.holed (holeV u' y') with
        | some r=>(match u'.holed.shared && !u'.shared && !Nat.beq i j with
         | true=>.ok (.raw undef) ((s.kill i e.kd p).putE i (e.upd r))
         | false=>.fail "store: what")
        | none=>.fail "store: value")
       | none=>.fail "store: what")
      | _=>.fail "store: what"))

def AV.els (s:St):AV→Option (Sigma fun t:Ty=>List t.den)
 | .val (.slc _ t) l=>some ⟨t,l⟩
 | .at_ i p=>match s.part i p with
  | some ⟨.slc _ t,l⟩=>some ⟨t,l⟩
  | _=>none
 | .sub i p lo hi=>s.view i p lo hi
 | _=>none

def AV.app1 (s:St) (t0:Ty):AV→Option (Sigma (fun t:Ty=>List t.den)×List Nat)
 | .raw (.slice none 0 0)=>some (⟨t0,[]⟩,[])
 | .val .str y=>some (⟨.int .u8,(List.map (fun b:UInt8=>(b.toNat:Int)) y:List Int)⟩,[])
 | v=>match v.els s with
  | none=>none
  | some ⟨t,l⟩=>match t.shared with
   | true=>some (⟨t,l⟩,[])
   | false=>match v.give s with
    | some (⟨.slc true u,m⟩,g)=>some (⟨u,m⟩,g)
    | _=>none

def castL {t u:Ty} (h:t=u) (l:List t.den):List u.den:=h▸l

def appendA (E:Env) (T:TypeId) (x y:AV) (dst:Option Nat) (s:St):OR :=
 match look T E.tt,dst with
 | some ⟨.slc _ t0,_⟩,some d=>match y.app1 s t0 with
  | none=>.fail "append: what"
  | some (⟨t,m⟩,g) =>
   let own (l:List t0.den) (f:List Nat):OR :=
    if h:t=t0 then (s.lay d (f++g) (.slc true t0) (l++castL h m)).need ((l.length+m.length:Nat)≤140737488355328∧(l.length+m.length:Nat)*(t0.wb:Nat)≤140737488355328)
    else .fail "append: type"
   match x with
   | .raw (.slice none 0 0)=>own [] []
   | .val (.slc true u) _=>(match chk E T (.slc true u) with|true=>own [] []|false=>.fail "append: type")
   | x=>match x.give s with
    | some (⟨.slc true u,l⟩,f)=>if h:u=t0 then own (castL h l) f else .fail "append: type"
    | _=>.fail "append: to what"
 | _,_=>.fail "append"

def appendZ (E:Env) (T:TypeId) (x y:AV) (dst:Option Nat) (s:St):OR :=
 match look T E.tt,dst,x,y with
 | some ⟨.slc true t0,_⟩,some d,.raw (.slice none 0 0),.val (.int _) n =>
  (s.lay d [] (.slc true t0) (List.replicate n.toNat t0.dflt)).need (0≤n∧n≤140737488355328∧n*(t0.wb:Nat)≤140737488355328)
 | _,_,_,_=>.fail "append: zeros"

def AV.same2:AV→AV→Bool
 | .sub i _ _ _,.sub j _ _ _=>Nat.beq i j
 | _,_=>false

/-! ### maps -/
def posOf {α β:Type} (f:α→α→Bool) (a:α):List (α×β)→Nat→Option (Nat×β)
 | [],_=>none
 | (x,y)::l,i=>match f a x with|true=>some (i,y)|false=>posOf f a l (i+1)
def mget {α β:Type} (f:α→α→Bool) (a:α) (l:List (α×β)):Option β:=(posOf f a l 0).map (·.2)
def mput {α β:Type} (f:α→α→Bool) (a:α) (y:β) (l:List (α×β)):List (α×β) :=
 match posOf f a l 0 with
 | some (i,_)=>l.set i (a,y)
 | none=>l++[(a,y)]

def Ty.key:Ty→Bool
 | .int _|.bool|.str=>true
 | .arr _ (.int _)=>true
 | _=>false

def mapTy (E:Env) (T:TypeId) (k v:Ty):Bool :=
 match look T E.tt,E.P.underlying T with
 | some ⟨.map _ k' v',_⟩,some (.map K _)=>decide (k'=k) && decide (v'=v) && k.key && eqOk E.P 100 K k
 | _,_=>false

def AV.mp (s:St):AV→Option (Sigma fun q:Ty×Ty=>Option (List (q.1.den×q.2.den)))
 | .val (.map _ k v) m=>some ⟨(k,v),m⟩
 | .at_ i p=>match s.part i p with
  | some ⟨.map _ k v,m⟩=>some ⟨(k,v),m⟩
  | _=>none
 | _=>none

def lookupA (E:Env) (T:TypeId) (x i:AV) (ok:Bool) (s:St):OR :=
 match x.mp s,i with
 | some ⟨(k,v),m⟩,.val u a =>
  if h:u=k then
   (match mapTy E T k v with
   | true=>match ok with
    | true=>.ok (.tup (.cons (.val v ((mget (eqD k) (castD h a) (m.getD [])).getD v.dflt)) (.cons (.val .bool (mget (eqD k) (castD h a) (m.getD [])).isSome) .nil))) s
    | false=>.ok (.val v ((mget (eqD k) (castD h a) (m.getD [])).getD v.dflt)) s
   | false=>.fail "lookup: type")
  else .fail "lookup: key"
 | _,_=>.fail "lookup"

def updA (E:Env) (T:TypeId) (x i z:AV) (s:St):OR :=
 match x,i,z with
 | .at_ j [],.val u a,.val u' y=>(match s.obj j with
  | some (.own (.map true k v) (some l)) =>
   if h:u=k then
    if h':u'=v then
     (match mapTy E T k v with
     | true=>.ok (.raw undef) ((s.killR j true).putE j (.own (.map true k v) (some (mput (eqD k) (castD h a) (castD h' y) l))))
     | false=>.fail "update: type")
    else .fail "update: value"
   else .fail "update: key"
  | _=>.fail "update: of what")
 | _,_,_=>.fail "update"

/-! ### copy, clear -/
def fillB (e:Ent) (p:List Step) (r:Sigma Ty.den):Bool :=
 match e with
 | .var t _=>decide (r.1=t)
 | .own (.slc true t) _=>decide (r.1=.slc true t) && (match p with
  | []=>true
  | .idx _::_=>true
  | _=>false)
 | _=>false

def fillA (s:St) (i:Nat) (p:List Step) (lo:Nat) (t:Ty) (m:List t.den):Option St :=
 match s.obj i with
 | some e=>(match getP e.ty e.x p with
  | some ⟨.slc true u,l⟩ =>
   if h:t=u then
    (match setP e.ty e.x p (.slc true u) (List.take lo l++castL h m++List.drop (lo+m.length) l) with
    | some r=>(match t.shared && fillB e p r with
     | true=>some ((s.killR i e.isOwn).putE i (e.upd r))
     | false=>none)
    | none=>none)
   else none
  | _=>none)
 | none=>none

def AV.dstP (s:St):AV→Option (Nat×List Step×Int×Int)
 | .at_ i p=>match s.part i p with
  | some ⟨.slc true _,l⟩=>some (i,p,0,(List.length l:Int))
  | _=>none
 | .sub i p lo hi=>match s.part i p with
  | some ⟨.slc true _,_⟩=>some (i,p,lo,hi)
  | _=>none
 | _=>none

def copyA (E:Env) (T:TypeId) (x y:AV) (s:St):OR :=
 match x.dstP s,y.els s with
 | some (i,p,lo,hi),some ⟨t,m⟩=>(match fillA s i p lo.toNat t (List.take (hi - lo).toNat m),chk E T (.slc true t) with
  | some s',true=>.ok (.val (.int .i64) ((List.take (hi - lo).toNat m).length:Int)) s'
  | _,_=>.fail "copy")
 | _,_=>.fail "copy: what"

def clearA (E:Env) (T:TypeId) (x:AV) (s:St):OR :=
 match x.dstP s,look T E.tt with
 | some (i,p,lo,hi),some ⟨.slc _ t,_⟩=>(match fillA s i p lo.toNat t (List.replicate (hi - lo).toNat t.dflt) with
  | some s'=>.ok (.raw (.tuple #[])) s'
  | none=>.fail "clear")
 | _,_=>.fail "clear: what"

def appendI (E:Env) (T:TypeId) (x y:AV) (s:St):OR :=
 match x,look T E.tt with
 | .sub i [] lo hi,some ⟨.slc _ t0,_⟩=>(match y.app1 s t0,s.obj i with
  | some (⟨t,m⟩,[]),some (.own (.slc true u) l)=>(match fillA s i [] hi.toNat t m,chk E T (.slc true t),decide (t=u) with
   | some s',true,true=>.okN (hi+(List.length m:Int)≤(List.length l:Int)) (.sub i [] lo (hi+(List.length m:Int))) s'
   | _,_,_=>.fail "append: in place")
  | _,_=>.fail "append: in place")
 | _,_=>.fail "append: in place"

def bnd (s:St) (d:Int):Option Operand→Option Int
 | none=>some d
 | some x=>match s.ev x with
  | .val (.int _) n=>some n
  | _=>none

def sliceA (E:Env) (T:TypeId) (x:AV) (lo hi max:Option Operand) (s:St):OR :=
 match bnd s 0 lo with
 | none=>.fail "slice: low"
 | some a =>
 match x with
 | .val .str y=>(match bnd s (List.length y:Int) hi,max with
  | some b,none=>(match chk E T .str with|true=>.okN (0≤a∧a≤b∧b≤(List.length y:Int)) (.val .str (cut2 a b y)) s|false=>.fail "slice: type")
  | _,_=>.fail "slice: bounds")
 | .val (.slc false t) y=>(match bnd s (List.length y:Int) hi,max with
  | some b,none=>(match chk E T (.slc false t) with|true=>.okN (0≤a∧a≤b∧b≤(List.length y:Int)) (.val (.slc false t) (cut2 a b y)) s|false=>.fail "slice: type")
  | some b,some _=>(match chk E T (.slc false t) && hi.isSome,bnd s 0 max with
   | true,some c=>.okN (a=0∧b=0∧c=0) (.val (.slc true t) ([]:List t.den)) s
   | _,_=>.fail "slice: type")
  | _,_=>.fail "slice: bounds")
 | .val (.msl t) y=>(match bnd s (List.length y.2.1:Int) hi,max with
  | some b,none=>(match chk E T (.slc false t) with|true=>.okN (y.1=3∧0≤a∧a≤b∧b≤(List.length y.2.1+List.length y.2.2:Nat)) (.val (.slc false t) (cut2 a b (y.2.1++y.2.2))) s|false=>.fail "slice: type")
  | _,_=>.fail "slice: bounds")
 | .raw (.slice none 0 0)=>(match bnd s 0 hi,max,look T E.tt with
  | some b,none,some ⟨.slc _ _,_⟩=>.okN (a=0∧b=0) (.raw (.slice none 0 0)) s
  | _,_,_=>.fail "slice: nil")
 | .at_ i p=>(match s.part i p with
  | some ⟨.slc true t,y⟩=>(match bnd s (List.length y:Int) hi,max with
   | some b,none=>(match chk E T (.slc true t) with|true=>.okN (0≤a∧a≤b∧b≤(List.length y:Int)) (.sub i p a b) s|false=>.fail "slice: type")
   | some b,some _=>(match chk E T (.slc true t) && hi.isSome,bnd s 0 max with
    | true,some c=>(match lo.isSome with
     | false=>.okN (a=0∧b=0∧c=0) (.val (.slc true t) ([]:List t.den)) s
     | true=>.okN (0≤a∧a≤b∧b≤c∧c≤(List.length y:Int)) .any s)
    | _,_=>.fail "slice: type")
   | _,_=>.fail "slice: bounds")
  | _=>.fail "slice: of what")
 | .sub i p a0 b0=>(match s.part i p with
  | some ⟨.slc true t,y⟩=>(match bnd s (b0 - a0) hi,max with
   | some b,none=>(match chk E T (.slc true t) with|true=>.okN (0≤a∧a≤b∧a0+b≤(List.length y:Int)) (.sub i p (a0+a) (a0+b)) s|false=>.fail "slice: type")
   | _,_=>.fail "slice: bounds")
  | some ⟨.arr _ t,_⟩=>(match bnd s (b0 - a0) hi,max with
   | some b,none=>(match chk E T (.slc true t) with|true=>.okN (0≤a∧a≤b∧b≤b0 - a0) (.sub i p (a0+a) (a0+b)) s|false=>.fail "slice: type")
   | _,_=>.fail "slice: bounds")
  | _=>.fail "slice: view")
 | .ptr i p=>(match s.part i p with
  | some ⟨.arr n t,_⟩=>(match bnd s (n:Int) hi,max with
   | some b,none=>(match chkP E T (.arr n t) && Nat.ble n 1000000 with|true=>.okN (0≤a∧a≤b∧b≤(n:Int)) (.sub i p a b) s|false=>.fail "slice: type")
   | _,_=>.fail "slice: bounds")
  | _=>.fail "slice: of what")
 | _=>.fail "slice"
where
 chkP (E:Env) (T:TypeId) (u:Ty):Bool :=
  match E.P.underlying T with
  | some (.pointer A)=>chk E A u
  | some (.array _ _)=>chk E T u
  | _=>false

def foldI (s:St) (k:IntKind) (f:Int→Int→Int):Int→List Operand→OR
 | a,[]=>.ok (.val (.int k) a) s
 | a,x::l=>match s.ev x with
  | .val (.int k') b=>if k=k' then foldI s k f (f a b) l else .fail "max"
  | _=>.fail "max"

def aop (E:Env) (o:Oper) (s:St):OR :=
 match o.op with
 | .move x=>.ok (s.ev x) s
 | .assign x=>.ok (s.ev x) s
 | .alloc T=>match look T E.tt,o.dst with
  | some t,some d=>(match s.fresh d with
   | true=>.ok (.ptr d []) (s.putE d (.var t.ty t.ty.dflt))
   | false=>.fail "alloc: name")
  | _,_=>.fail "alloc"
 | .box T x=>match look T E.tt,o.dst with
  | some t,some d=>(match s.fresh d with
   | true=>(match (s.ev x).giveV s with
    | some (⟨u,y⟩,g)=>if u.sh=t.ty.sh then (match noDup g && !g.contains d && g.all fun i=>!pinned i with
     | true=>.ok (.ptr d []) ((St.drops g s).putE d (.var u y))
     | false=>.fail "box: objects") else .fail "box: value"
    | none=>(match s.ev x,t.ty with
     | .raw (.slice none 0 0),.slc o u=>.ok (.ptr d []) (s.putE d (.var (.slc o u) ([]:List u.den)))
     | .ptr i p,.box _ none _=>.ok (.bx (.ptr i p)) s
     | _,_=>.fail "box: what"))
   | false=>.fail "box: name")
  | _,_=>.fail "box"
 | .build T parts=>match look T E.tt with
  | some t=>(match t.ty.agg && parts.toList.all (fun q=>inArr t.ty q.1) with
   | true=>(match buildL s ⟨t.ty,t.ty.dflt⟩ parts.toList,o.dst with
    | some (⟨u,y⟩,[]),_=>.ok (.val u y) s
    | some (⟨u,y⟩,g),some d=>s.lay d g u y
    | _,_=>.fail "build: parts")
   | false=>.fail "build: index")
  | none=>.fail "build"
 | .buildSlice T n parts=>match look T E.tt,o.dst with
  | some ⟨.slc true t,_⟩,some d=>(match s.fresh d && parts.toList.all (fun q=>Nat.blt q.1 n) && Nat.ble (n*t.size) 16777216 with
   | true=>(match bslL s n t parts.toList with
    | some (⟨.arr _ t',l⟩,g)=>s.lay d g (.slc true t') l
    | _=>.fail "buildSlice: parts")
   | false=>.fail "buildSlice: name")
  | _,_=>.fail "buildSlice"
 | .load T a=>loadA E T (s.ev a) s
 | .store T a x=>match s.ev a with
  | .ptr i p=>storeA E T i p (s.ev x) s
  | _=>.fail "store"
 | .nilCheck x=>match s.ev x with
  | .ptr i p=>.ok (.ptr i p) s
  | .rptr t y=>.ok (.rptr t y) s
  | .val (.box false none t) y=>.okN ((y:Option t.den).isSome=true) (.rptr t (Option.getD (y:Option t.den) t.dflt)) s
  | .val (.box false (some f) t) y=>.okN ((y:Option t.den).isSome=true) (.val (.box false (some f) t) y) s
  | .clo f l=>.ok (.clo f l) s
  | .val (.fn f) b=>.okN ((b:Bool)=true) (.val (.fn f) b) s
  | _=>.fail "nilCheck"
 | .fieldAddr T x n=>match s.ev x with
  | .ptr i p=>(match s.part i p with
   | some ⟨u,z⟩=>(match chk E T u,getP u z [.fld n] with
    | true,some _=>.ok (.ptr i (p++[.fld n])) s
    | _,_=>.fail "fieldAddr: type")
   | none=>.fail "fieldAddr: path")
  | .rptr t y=>match chk E T t,getP t y [.fld n] with
   | true,some ⟨u,z⟩=>.ok (.rptr u z) s
   | _,_=>.fail "fieldAddr"
  | .val (.box false none t) y=>match chk E T t,getP t (Option.getD (y:Option t.den) t.dflt) [.fld n] with
   | true,some ⟨u,z⟩=>.okN ((y:Option t.den).isSome=true) (.rptr u z) s
   | _,_=>.fail "fieldAddr"
  | _=>.fail "fieldAddr"
 | .indexAddr T x i=>match s.ev x,s.ev i with
  | .ptr d p,.val (.int _) n=>(match s.part d p with
   | some ⟨.arr m u,_⟩=>(match chk E T (.arr m u) with
    | true=>.okN (0≤n∧n<m) (.ptr d (p++[.idx n])) s
    | false=>.fail "indexAddr: type")
   | _=>.fail "indexAddr: type")
  | .rptr (.arr m t) y,.val (.int _) n=>(match chk E T (.arr m t) with
   | true=>.okN (0≤n∧n<m) (.rptr t (List.getD y (Int.toNat n) t.dflt)) s
   | false=>.fail "indexAddr: type")
  | .val (.slc false t) y,.val (.int _) n=>(match chk E T (.slc false t) with
   | true=>.okN (0≤n∧n<List.length y) (.rptr t (List.getD y (Int.toNat n) t.dflt)) s
   | false=>.fail "indexAddr: type")
  | .at_ d p,.val (.int _) n=>(match s.part d p with
   | some ⟨.slc true u,z⟩=>(match chk E T (.slc true u) with
    | true=>.okN (0≤n∧n<List.length z) (.ptr d (p++[.idx n])) s
    | false=>.fail "indexAddr: type")
   | _=>.fail "indexAddr: type")
  | .sub d p lo hi,.val (.int _) n=>(match s.view d p lo hi with
   | some ⟨u,_⟩=>(match chk E T (.slc true u) with
    | true=>.okN (0≤n∧n<hi - lo) (.ptr d (p++[.idx (lo+n)])) s
    | false=>.fail "indexAddr: type")
   | none=>.fail "indexAddr: view")
  | _,_=>.fail "indexAddr"
 | .field T x n=>match s.ev x with
  | .val t y=>(match chk E T t,getP t y [.fld n] with
   | true,some ⟨u,z⟩=>.ok (.val u z) s
   | _,_=>.fail "field")
  | .at_ i p=>(match s.part i p with
   | some ⟨t,y⟩=>(match chk E T t,getP t y [.fld n] with
    | true,some ⟨u,z⟩=>(match u.shared with|true=>.ok (.val u z) s|false=>.ok (.at_ i (p++[.fld n])) s)
    | _,_=>.fail "field")
   | none=>.fail "field: part")
  | _=>.fail "field"
 | .index T x i=>match s.ev x,s.ev i with
  | .val .str y,.val (.int _) n=>(match chk E T .str with
   | true=>.okN (0≤n∧n<List.length y) (.val (.int .u8) ((List.getD y (Int.toNat n) 0).toNat:Int)) s
   | false=>.fail "index: type")
  | .val (.arr m t) y,.val (.int _) n=>(match chk E T (.arr m t) with
   | true=>.okN (0≤n∧n<m) (.val t (List.getD y (Int.toNat n) t.dflt)) s
   | false=>.fail "index: type")
  | .at_ i p,.val (.int _) n=>(match s.part i p with
   | some ⟨.arr m t,y⟩=>(match chk E T (.arr m t) with
    | true=>(match t.shared with
     | true=>.okN (0≤n∧n<m) (.val t (List.getD y (Int.toNat n) t.dflt)) s
     | false=>.okN (0≤n∧n<m) (.at_ i (p++[.idx n])) s)
    | false=>.fail "index: type")
   | _=>.fail "index: of what")
  | _,_=>.fail "index"
 | .binOp op T x y _=>binE E T op (s.ev x) (s.ev y) s
 | .unOp op _ x=>unA op (s.ev x) s
 | .convert T' T x=>match s.ev x,look T' E.tt,look T E.tt with
  | .val (.int _) n,some ⟨.int _,_⟩,some ⟨.int k,_⟩=>.ok (.val (.int k) (k.wrap n)) s
  | .val .str y,some ⟨.str,_⟩,some ⟨.slc true (.int .u8),_⟩=>(match o.dst with
   | some d=>s.lay d [] (.slc true (.int .u8)) (List.map (fun b:UInt8=>(b.toNat:Int)) y:List Int)
   | none=>.fail "convert")
  | v,some ⟨.slc true (.int .u8),_⟩,some ⟨.str,_⟩=>(match v.els s with
   | some ⟨.int .u8,l⟩=>.ok (.val .str (List.map (fun n:Int=>UInt8.ofNat n.toNat) l)) s
   | _=>match v with
    | .raw (.slice none 0 0)=>.ok (.val .str []) s
    | _=>.fail "convert: bytes")
  | _,_,_=>.fail "convert"
 | .extract x i=>match s.ev x with
  | .tup l=>match nth i l with
   | some v=>.ok v s
   | none=>.fail "extract"
  | _=>.fail "extract"
 | .makeSlice T x y=>match look T E.tt,o.dst,s.ev x,s.ev y with
  | some ⟨.slc true t,_⟩,some d,.val (.int _) n,.val (.int _) m=>(s.lay d [] (.slc true t) (List.replicate n.toNat t.dflt)).need (0≤n∧n≤m∧m≤140737488355328∧m*(t.wb:Nat)≤140737488355328)
  | _,_,_,_=>.fail "makeSlice"
 | .slice T x lo hi max=>sliceA E T (s.ev x) lo hi max s
 | .makeMap T r=>match r,look T E.tt,o.dst with
  | none,some ⟨.map true k v,_⟩,some d=>s.lay d [] (.map true k v) (some ([]:List (k.den×v.den)))
  | _,_,_=>.fail "makeMap"
 | .lookup T x i ok=>lookupA E T (s.ev x) (s.ev i) ok s
 | .mapUpdate T m i x=>updA E T (s.ev m) (s.ev i) (s.ev x) s
 | .makeFunc (.func f) first caps=>match first.toList with
  | []=>.ok (.clo f (s.evs caps.toList)) s
  | _=>.fail "makeFunc"
 | .call c=>match c.callee with
  | .value f=>match s.ev f with
   | .clo f caps=>callA E f ((s.evs c.args.toList).app caps) o.dst s
   | .val (.fn f) b=>(callA E f ((s.evs c.args.toList).app .nil) o.dst s).also ((b:Bool)=true)
   | .val (.box false (some f) t) y=>(callA E f ((s.evs c.args.toList).app (.cons (.rptr t (Option.getD (y:Option t.den) t.dflt)) .nil)) o.dst s).also ((y:Option t.den).isSome=true)
   | _=>.fail "call of what"
  | .builtin .len=>match c.args.toList,c.argTypes.toList with
   | [x],[T]=>(match s.ev x with
    | .val (.slc q u) y=>(match chk E T (.slc q u) with|true=>.ok (.val (.int .i64) (List.length y:Int)) s|false=>.fail "len")
    | .val (.msl u) y=>(match chk E T (.slc false u) with|true=>.ok (.val (.int .i64) (List.length y.2.1:Int)) s|false=>.fail "len")
    | .val .str y=>(match chk E T .str with|true=>.ok (.val (.int .i64) (List.length y:Int)) s|false=>.fail "len")
    | .val (.arr n u) _=>(match chk E T (.arr n u) with|true=>(if (n:Int)≤9223372036854775807 then .ok (.val (.int .i64) (n:Int)) s else .fail "len")|false=>.fail "len")
    | .at_ d p=>(match s.part d p with
     | some ⟨.slc q u,z⟩=>(match chk E T (.slc q u) with|true=>.ok (.val (.int .i64) (List.length z:Int)) s|false=>.fail "len")
     | some ⟨.msl u,z⟩=>(match chk E T (.slc false u) with|true=>.ok (.val (.int .i64) (List.length z.2.1:Int)) s|false=>.fail "len")
     | _=>.fail "len")
    | .sub d p lo hi=>(match s.view d p lo hi with
     | some ⟨u,_⟩=>(match chk E T (.slc true u) with|true=>.ok (.val (.int .i64) (hi - lo)) s|false=>.fail "len")
     | none=>.fail "len")
    | .raw (.slice none 0 0)=>(match look T E.tt with|some ⟨.slc _ _,_⟩=>.ok (.val (.int .i64) 0) s|_=>.fail "len")
    | _=>.fail "len")
   | _,_=>.fail "len"
  | .builtin .cap=>match c.args.toList,c.argTypes.toList with
   | [x],[T]=>(match s.ev x,look T E.tt with
    | .raw (.slice none 0 0),some ⟨.slc _ _,_⟩=>.ok (.val (.int .i64) 0) s
    | _,_=>.fail "cap")
   | _,_=>.fail "cap"
  | .builtin .append=>match c.args.toList,c.argTypes.toList with
   | [x,y],[T,U]=>(match look U E.tt with
    | some ⟨.slc _ _,_⟩=>(match (s.ev x).same2 (s.ev y) with
     | true=>appendI E T (s.ev x) (s.ev y) s
     | false=>appendA E T (s.ev x) (s.ev y) o.dst s)
    | some ⟨.str,_⟩=>appendA E T (s.ev x) (s.ev y) o.dst s
    | some ⟨.int _,_⟩=>appendZ E T (s.ev x) (s.ev y) o.dst s
    | _=>.fail "append: of what type")
   | _,_=>.fail "append"
  | .builtin .max=>match c.args.toList with
   | x::l=>(match s.ev x with
    | .val (.int k) a=>foldI s k (fun a b=>if a<b then b else a) a l
    | _=>.fail "max")
   | _=>.fail "max"
  | .builtin .min=>match c.args.toList with
   | x::l=>(match s.ev x with
    | .val (.int k) a=>foldI s k (fun a b=>if b<a then b else a) a l
    | _=>.fail "min")
   | _=>.fail "min"
  | .builtin .copy=>match c.args.toList,c.argTypes.toList with
   | [x,y],[T,_]=>copyA E T (s.ev x) (s.ev y) s
   | _,_=>.fail "copy"
  | .builtin .clear=>match c.args.toList,c.argTypes.toList with
   | [x],[T]=>clearA E T (s.ev x) s
   | _,_=>.fail "clear"
  | _=>.fail "builtin"
 | _=>.fail "op"
where nth:Nat→AV→Option AV
 | 0,.cons a _=>some a
 | n+1,.cons _ b=>nth n b
 | _,_=>none

def guardSlot (ops:Array Oper) (j:Nat):Option Nat:=(ops[j]?).bind (·.dst)

def dstOk (n:Nat):Option Nat→Bool
 | some d=>Nat.blt d n
 | none=>true

def runOp (E:Env) (o:Oper) (s:St) (k:St→Tree (E.rs++wts E.ps)):Tree (E.rs++wts E.ps) :=
 match dstOk E.nt o.dst with
 | false=>.stuck "slot"
 | true =>
 match o.op with
 | .pick c a b=>match s.ev c with
  | .val .bool g=>cond g (k (s.put o.dst (s.ev a))) (k (s.put o.dst (s.ev b)))
  | _=>.stuck "pick"
 | _=>match aop E o s with
  | .fail why=>.stuck why
  | .ok v s'=>k (s'.put o.dst v)
  | .okN p v s'=>.need p (k (s'.put o.dst v))

def placeA (E:Env) (ops:Array Oper) (o:Oper) (s:St) (k:St→Tree (E.rs++wts E.ps)):Tree (E.rs++wts E.ps) :=
 match o.guard with
 | none=>runOp E o s k
 | some (j,want)=>match guardSlot ops j with
  | none=>.stuck "guard"
  | some g=>match s.ev (.tmp g) with
   | .raw (.tuple _)=>match dstOk E.nt o.dst with
    | true=>k (s.put o.dst (.raw undef))
    | false=>.stuck "slot"
   | .val .bool b=>match dstOk E.nt o.dst with
    | false=>.stuck "slot"
    | true=>cond b
     (match want with
      | true=>runOp E o (s.put (some g) (.val .bool true)) k
      | false=>k ((s.put (some g) (.val .bool true)).put o.dst (.raw undef)))
     (match want with
      | false=>runOp E o (s.put (some g) (.val .bool false)) k
      | true=>k ((s.put (some g) (.val .bool false)).put o.dst (.raw undef)))
   | _=>.stuck "guard value"

def regA (E:Env) (ops:Array Oper):List Oper→St→(St→Tree (E.rs++wts E.ps))→Tree (E.rs++wts E.ps)
 | [],s,k=>k s
 | o::rest,s,k=>placeA E ops o s fun s'=>regA E ops rest s' k

def brA (E:Env) (s:St) (o:Oper):Option (Prop×AV×AV) :=
 match o.op with
 | .binOp op T x y _=>match op with
  | .eql=>(match s.ev y,look T E.tt with
   | .raw (.slice none 0 0),some ⟨.slc _ _,_⟩=>(match (s.ev x).els s with
    | some r=>some (r.2=[],.val .bool true,.val .bool false)
    | none=>none)
   | _,_=>none)
  | .neq=>(match s.ev y,look T E.tt with
   | .raw (.slice none 0 0),some ⟨.slc _ _,_⟩=>(match (s.ev x).els s with
    | some r=>some (r.2=[],.val .bool false,.val .bool true)
    | none=>none)
   | _,_=>none)
  | _=>none
 | _=>none

/-! ### append to a place: the append, the address again, the store, as one step -/
def isAddr:Op→Bool
 | .fieldAddr _ _ _=>true
 | .indexAddr _ _ _=>true
 | .nilCheck _=>true
 | _=>false

def opTmps (o:Oper):List Nat:=o.op.operands.toList.filterMap fun|.tmp t=>some t|_=>none

def stayB (e:Ent) (p:List Step) (r:Sigma Ty.den):Bool :=
 match e with
 | .var t _=>decide (r.1=t)
 | .own (.slc true t) _=>(match p with
  | .idx _::_=>decide (r.1=.slc true t)
  | _=>false)
 | _=>false

def appS (E:Env) (T U T2:TypeId) (x y ad:AV) (d:Nat) (s:St):Option (Prop×St) :=
 match x,ad,look T E.tt,look U E.tt with
 | .at_ i p,.ptr j q,some ⟨.slc _ t0,_⟩,some ⟨u1,_⟩=>(match s.obj i,Nat.beq i j && (match u1 with|.slc _ _=>true|.str=>true|_=>false) with
  | some e,true=>(match getP e.ty e.x p with
   | some ⟨.slc true u,l⟩=>(match y.app1 s t0 with
    | some (⟨t,m⟩,g) =>
     if hu:u=t0 then
      if ht:t=t0 then
       (match setP e.ty e.x p (.slc true t0) (castL hu l++castL ht m) with
        | some r=>(match chk E T2 (.slc true t0) && stayB e p r && !g.contains i && noDup g && g.all (fun i=>!pinned i) with
         | true=>some (q=p∧(l.length+m.length:Nat)≤140737488355328∧(l.length+m.length:Nat)*(t0.wb:Nat)≤140737488355328,
          ((St.drops g (s.put (some d) .any)).kill i e.kd p).putE i (e.upd r))
         | false=>none)
        | none=>none)
      else none
     else none
    | none=>none)
   | _=>none)
  | _,_=>none)
 | _,_,_,_=>none

def fuseGo (E:Env) (T U:TypeId) (x y:Operand) (d:Nat):List Oper→St→Option (Prop×St×Nat)
 | [],_=>none
 | o::rest,s=>match o.guard,dstOk E.nt o.dst with
  | none,true=>(match isAddr o.op with
   | true=>(match o.dst with
    | some d1=>(match !Nat.beq d1 d && !(opTmps o).contains d && (match x with|.tmp t=>!Nat.beq t d1|_=>true) && (match y with|.tmp t=>!Nat.beq t d1|_=>true),(match aop E o s with|.fail _=>none|.ok v _=>some (True,v)|.okN p v _=>some (p,v)) with
     | true,some (p,v)=>(match fuseGo E T U x y d rest (s.put (some d1) v) with
      | some (p2,s2,n)=>some (p∧p2,s2,n+1)
      | none=>none)
     | _,_=>none)
    | none=>none)
   | false=>(match o.op with
    | .store T2 ad (.tmp d')=>(match Nat.beq d' d && (match ad with|.tmp t=>!Nat.beq t d|_=>true) with
     | true=>(match appS E T U T2 (s.ev x) (s.ev y) (s.ev ad) d s with
      | some (p,s2)=>some (p,s2.put o.dst (.raw undef),1)
      | none=>none)
     | false=>none)
    | _=>none))
  | _,_=>none

def fuseA (E:Env) (o:Oper) (rest:List Oper) (s:St):Option (Prop×St×Nat) :=
 match o.guard,o.dst,dstOk E.nt o.dst,o.op with
 | none,some d,true,.call c=>(match c.callee,c.args.toList,c.argTypes.toList with
  | .builtin .append,[x,y],[T,U]=>(match s.ev x with
   | .at_ i p=>(match (AV.at_ i p).give s with
    | some _=>none
    | none=>fuseGo E T U x y d rest s)
   | _=>none)
  | _,_,_=>none)
 | _,_,_,_=>none

def argsH (s:St) (ks:List PK) (i:Nat) (e:Ent) (p:List Step) (t:Ty) (ys:List Operand):Option (DK ks×List Nat×List Nat) :=
 match (callA.loose ks (s.evs ys)).contains i with
 | false=>AV.asKs s ks (s.evs ys)
 | true=>match e with
  | .var u x=>(match setP u x p (.hole t) ([]:List t.den) with
   | some r=>AV.asKs ((s.kill i (Ent.var u x).kd p).putE i (.var r.1 r.2)) ks (((s.kill i (Ent.var u x).kd p).putE i (.var r.1 r.2)).evs ys)
   | none=>none)
  | _=>none

def callS (E:Env) (T2:TypeId) (g:FuncId) (x:AV) (ys:List Operand) (ad:AV) (d:Nat) (s:St):Option (Prop×St) :=
 match look g E.ctr,x,ad with
 | some ⟨.own (.slc true t)::ks,[.slc true t'],pre,fn,_,_⟩,.at_ i p,.ptr j q=>(match s.obj i,Nat.beq i j && (match wts ks with|[]=>true|_=>false) && (Ty.slc true t').noSh && chk E T2 (.slc true t) with
  | some e,true=>(match getP e.ty e.x p,argsH s ks i e p t ys with
   | some ⟨u,l⟩,some (y,[],[]) =>
    if h:u=.slc true t then
     (match setP e.ty e.x p (.slc true t') (fn (castD h l,y)).1 with
     | some r=>(match chk E T2 (.slc true t') && stayB e p r with
      | true=>some (q=p∧pre (castD h l,y),((s.put (some d) .any).killR i e.isOwn).putE i (e.upd r))
      | false=>none)
     | none=>none)
    else none
   | _,_=>none)
  | _,_=>none)
 | _,_,_=>none

def fuseGoC (E:Env) (g:FuncId) (x:Operand) (ys:List Operand) (d:Nat):List Oper→St→Option (Prop×St×Nat)
 | [],_=>none
 | o::rest,s=>match o.guard,dstOk E.nt o.dst with
  | none,true=>(match isAddr o.op with
   | true=>(match o.dst with
    | some d1=>(match !Nat.beq d1 d && !(opTmps o).contains d && (x::ys).all (fun z=>match z with|.tmp t=>!Nat.beq t d1|_=>true),(match aop E o s with|.fail _=>none|.ok v _=>some (True,v)|.okN p v _=>some (p,v)) with
     | true,some (p,v)=>(match fuseGoC E g x ys d rest (s.put (some d1) v) with
      | some (p2,s2,n)=>some (p∧p2,s2,n+1)
      | none=>none)
     | _,_=>none)
    | none=>none)
   | false=>(match o.op with
    | .store T2 ad (.tmp d')=>(match Nat.beq d' d && (match ad with|.tmp t=>!Nat.beq t d|_=>true) with
     | true=>(match callS E T2 g (s.ev x) ys (s.ev ad) d s with
      | some (p,s2)=>some (p,s2.put o.dst (.raw undef),1)
      | none=>none)
     | false=>none)
    | _=>none))
  | _,_=>none

def fuseC (E:Env) (o:Oper) (rest:List Oper) (s:St):Option (Prop×St×Nat) :=
 match o.guard,o.dst,dstOk E.nt o.dst,o.op with
 | none,some d,true,.call c=>(match c.callee,c.args.toList with
  | .value (.func g),x::ys=>(match s.ev x with
   | .at_ i p=>(match (AV.at_ i p).give s with
    | some _=>none
    | none=>fuseGoC E g x ys d rest s)
   | _=>none)
  | _,_=>none)
 | _,_,_,_=>none

def Ty.isMsl:Ty→Bool
 | .msl _=>true
 | _=>false

def muV (t:Ty) (u:Ty) (y:u.den):Option (Prop×List t.den) :=
 match u,y with
 | .slc true b,y=>if h:b=t then some (True,h▸y) else none
 | .msl b,y=>if h:b=t then (match b.shared with|true=>some (1≤y.1∧y.1≤2,h▸y.2.1)|false=>none) else none
 | _,_=>none

def muB (t:Ty) (u:Ty) (l:List t.den):Sigma Ty.den :=
 match u with
 | .msl _=>⟨.msl t,(1,l,[])⟩
 | _=>⟨.slc true t,l⟩

def callM (E:Env) (o:Oper) (s:St):Option (Prop×St) :=
 match o.guard,dstOk E.nt o.dst,o.op with
 | none,true,.call c=>(match c.callee,c.args.toList with
  | .value (.func g),x::ys=>(match look g E.ctr,s.ev x with
   | some ⟨.mu t::ks,[],pre,_,out,_⟩,.at_ i (st::p)=>(match s.obj i,(match wts ks with|[]=>true|_=>false) && (Ty.slc true t).noSh with
    | some e,true=>(match getP e.ty e.x (st::p),argsH s ks i e (st::p) t ys with
     | some ⟨u,l0⟩,some (y,[],[])=>(match muV t u l0 with
      | some (q,l)=>(match setP e.ty e.x (st::p) (muB t u (out (l,y)).1).1 (muB t u (out (l,y)).1).2 with
       | some r=>(match stayB e (st::p) r && !e.isOwn && (!u.isMsl || !(callA.loose ks (s.evs ys)).contains i) with
        | true=>some (q∧pre (l,y),((s.killR i e.isOwn).putE i (e.upd r)).put o.dst (.tup .nil))
        | false=>none)
       | none=>none)
      | none=>none)
     | _,_=>none)
    | _,_=>none)
   | _,_=>none)
  | _,_=>none)
 | _,_,_=>none

def PK.takes:PK→Bool
 | .own _|.rw _|.mu _=>true
 | _=>false

def elIx:List Step→List Step→Option Int
 | [],[.idx k]=>some k
 | .fld a::q,.fld b::p=>match Nat.beq a b with|true=>elIx q p|false=>none
 | _,_=>none

def asKL (s:St):AV→(ks:List PK)→Option Nat→Option (FuncId×Nat)→Option (DK ks×List Nat)
 | .rc f l,ks,_,none=>asKL s l ks none (some (f,0))
 | .nil,[],_,none=>some ((),[])
 | .nil,[.rcs g n],_,some (f,k)=>match Nat.beq g f && Nat.beq n k with
  | true=>some (((),()),[])
  | false=>none
 | .cons a b,.rw t::ks,_,tl=>match a.asK s (.rw t),a with
  | some (x,[],m),.ptr i []=>(match asKL s b ks (some i) (tl.map fun q=>(q.1,q.2+1)) with
   | some (y,m')=>some ((x,y),m++m')
   | none=>none)
  | _,_=>none
 | .cons a b,.v t::ks,_,tl=>match a.asK s (.v t) with
  | some (x,[],[])=>(match asKL s b ks none (tl.map fun q=>(q.1,q.2+1)) with
   | some (y,m')=>some ((x,y),m')
   | none=>none)
  | _=>none
 | .cons a b,.rd t::ks,_,tl=>match a.asK s (.rd t) with
  | some (x,[],[])=>(match asKL s b ks none (tl.map fun q=>(q.1,q.2+1)) with
   | some (y,m')=>some ((x,y),m')
   | none=>none)
  | _=>none
 | .cons a b,.el q::ks,some j,tl=>match a with
  | .ptr i p=>(match Nat.beq i j,elIx q p with
   | true,some k=>(match asKL s b ks none (tl.map fun q=>(q.1,q.2+1)) with
    | some (y,m')=>some ((k,y),m')
    | none=>none)
   | _,_=>none)
  | _=>none
 | _,_,_,_=>none

def looseL:AV→List PK→List Nat
 | .rc _ l,ks=>looseL l ks
 | .cons _ b,.rw _::ks=>looseL b ks
 | .cons _ b,.el _::ks=>looseL b ks
 | .cons a b,_::ks=>a.lent++looseL b ks
 | _,_=>[]

def wrL:(ks:List PK)→DL (wts ks)→List Nat→Option (List (Nat×Sigma Ty.den))
 | [],_,[]=>some []
 | .rw t::ks,y,i::m=>match wrL ks y.2 m with
  | some l=>some ((i,⟨t,y.1⟩)::l)
  | none=>none
 | .v _::ks,y,m=>wrL ks y m
 | .rd _::ks,y,m=>wrL ks y m
 | .rcs _ _::ks,y,m=>wrL ks y m
 | .el _::ks,y,m=>wrL ks y m
 | _,_,_=>none

def AV.killL1 (kp:List Step→Bool) (m:List Nat) (v:AV):AV :=
 match v with
 | .ptr j p=>(match m.contains j && !(flds p || kp p) with|true=>.any|false=>.ptr j p)
 | .at_ j p=>(match m.contains j with|true=>.any|false=>.at_ j p)
 | .sub j p a b=>(match m.contains j with|true=>.any|false=>.sub j p a b)
 | v=>v

def puts:List (Nat×Sigma Ty.den)→List (Nat×Ent)→List (Nat×Ent)
 | [],hp=>hp
 | (i,r)::l,hp=>Ex.put i (.var r.1 r.2) (puts l hp)

def St.wrs (kp:List Step→Bool) (m:List Nat) (l:List (Nat×Sigma Ty.den)) (s:St):St:={ fr:=mapA (AV.map (AV.killL1 kp m)) s.fr,hp:=puts l s.hp }

def pm:List (Option Nat)→List Step→Bool
 | [],[]=>true
 | some n::q,.fld m::p=>Nat.beq n m && pm q p
 | none::q,.idx _::p=>pm q p
 | _,_=>false

def findK (pat:List (Option Nat)) (i:Nat):List (Nat×AV)→Option Nat
 | []=>none
 | (t,.ptr j p)::l=>(match Nat.beq j i && pm pat p with
  | true=>some t
  | false=>findK pat i l)
 | (_,_)::l=>findK pat i l

def kpOf (E:Env) (g:FuncId) (ks:List PK) (m:List Nat) (av:AV) (s:St):Option (Nat×Nat×List Step) :=
 match look g E.keeps,ks,m,av with
 | some pat,.rw _::_,[i],.cons (.ptr _ []) _=>(match findK pat i s.fr with
  | some t=>(match look t s.fr with
   | some (.ptr j p)=>(match Nat.beq j i && pm pat p with
    | true=>some (t,j,p)
    | false=>none)
   | _=>none)
  | none=>none)
 | _,_,_,_=>none

def St.keepW:Option (Nat×Nat×List Step)→St→St
 | some (t,j,p),s=>{ s with fr:=Ex.put t (.ptr j p) s.fr }
 | none,s=>s

def callL (E:Env) (o:Oper) (s:St):Option (Prop×St) :=
 match o.guard,dstOk E.nt o.dst,o.op with
 | none,true,.call c=>(match c.callee with
  | .value f=>(match s.ev f with
   | .clo g caps=>(match look g E.ctr with
    | some ⟨ks,[],pre,_,out,_⟩=>(match asKL s ((s.evs c.args.toList).app caps) ks none none with
     | some (x,m)=>(match noDup m && disj m (looseL ((s.evs c.args.toList).app caps) ks) && (wts ks).all Ty.noSh with
      | true=>(match wrL ks (out x) m with
       | some l=>some (pre x,(St.keepW (kpOf E g ks m ((s.evs c.args.toList).app caps) s) (s.wrs (fun _=>false) m l)).put o.dst (.tup .nil))
       | none=>none)
      | false=>none)
     | none=>none)
    | _=>none)
   | _=>none)
  | _=>none)
 | _,_,_=>none

def AV.seal1 (d:Nat) (r v:AV):AV :=
 match v.ment d with
 | false=>v
 | true=>match v with
  | .ptr _ []=>r
  | _=>.any

def AV.butLast (d:Nat):AV→Option AV
 | .cons (.ptr j []) .nil=>match Nat.beq j d with|true=>some .nil|false=>none
 | .cons a b=>match a.ment d,AV.butLast d b with
  | false,some l=>some (.cons a l)
  | _,_=>none
 | _=>none

def sealV (T:Option TI) (d:Nat) (u:Ty) (v:AV):Option AV :=
 match u,v,T with
 | .fn _,.clo f caps,some ⟨.fn _,_⟩=>(match AV.butLast d caps with
  | some l=>some (.bx (.clo f (.rc f l)))
  | none=>none)
 | .box _ none _,.ptr i p,some ⟨.box _ none _,_⟩=>(match Nat.beq i d with
  | false=>some (.bx (.ptr i p))
  | true=>none)
 | _,_,_=>none

def sealA (E:Env) (o:Oper) (s:St):Option St :=
 match E.ps.any PK.takes,o.guard,dstOk E.nt o.dst,o.op with
 | false,none,true,.store T a x=>(match s.ev a with
  | .ptr d []=>(match s.obj d,pinned d with
   | some (.var u _),false=>(match sealV (look T E.tt) d u (s.ev x) with
    | some r=>some (({ fr:=mapA (AV.map (AV.seal1 d r)) s.fr,hp:=del d s.hp }:St).put o.dst (.raw undef))
    | none=>none)
   | _,_=>none)
  | _=>none)
 | _,_,_,_=>none

def ampA (E:Env) (o:Oper) (s:St):Option (Prop×St) :=
 match E.rs.any Ty.isMsl,o.guard,dstOk E.nt o.dst,o.dst with
 | true,none,true,some d=>(match o.op with
  | .makeSlice T x y=>(match look T E.tt,s.ev x,s.ev y with
   | some ⟨.slc true t,_⟩,.val (.int _) n,.val (.int _) m=>(match s.lay d [] (.msl t) (2,List.replicate (Int.toNat n) t.dflt,List.replicate (Int.toNat m - Int.toNat n) t.dflt) with
    | .ok v s'=>some (1≤m∧0≤n∧n≤m∧m≤140737488355328∧m*(t.wb:Nat)≤140737488355328,s'.put (some d) v)
    | _=>none)
   | _,_,_=>none)
  | .slice T x none (some hi) none=>(match s.ev x,bnd s 0 (some hi) with
   | .at_ i [],some n=>(match s.obj i with
    | some (.own (.msl u) z)=>(match chk E T (.slc true u),s.lay d [i] (.msl u) (2,(z.2.1++z.2.2).take n.toNat,(z.2.1++z.2.2).drop n.toNat) with
     | true,.ok v s'=>some (z.1=2∧0≤n∧n≤(z.2.1.length+z.2.2.length:Nat),s'.put (some d) v)
     | _,_=>none)
    | _=>none)
   | _,_=>none)
  | .call c=>(match c.callee,c.args.toList,c.argTypes.toList with
   | .builtin .append,[x,y],[T,U]=>(match E.P.underlying U,look T E.tt,s.ev x with
    | some (.slice _),some ⟨.slc _ t0,_⟩,.at_ i []=>(match s.obj i,(s.ev y).app1 s t0 with
     | some (.own (.msl u) z),some (⟨t,m⟩,[]) =>
      if hu:u=t0 then if ht:t=t0 then (match t0.shared,s.lay d [i] (.msl t0) (2,castL hu z.2.1++castL ht m,(castL hu z.2.2).drop m.length) with
       | true,.ok v s'=>some (z.1=2∧m.length≤z.2.2.length,s'.put (some d) v)
       | _,_=>none) else none else none
     | _,_=>none)
    | _,_,_=>none)
   | _,_,_=>none)
  | _=>none)
 | _,_,_,_=>none

def linkA (E:Env) (o:Oper) (s:St):Option (Prop×St) :=
 match callL E o s with
 | some r=>some r
 | none=>match sealA E o s with
  | some s'=>some (True,s')
  | none=>ampA E o s

def msOk:Ty→Ty→Bool
 | .pair a b,.pair c d=>msOk a c && msOk b d
 | .arr n a,.arr m b=>Nat.beq n m && msOk a b
 | .slc true a,.slc true b=>msOk a b
 | .slc _ a,.msl b=>decide (a=b)
 | a,b=>decide (a=b)

def msV:(u t:Ty)→u.den→t.den
 | .pair a b,.pair c d,y=>(msV a c y.1,msV b d y.2)
 | .arr n a,.arr _ b,y=>if h:a=b then h▸y else List.map (msV a b) y
 | .slc true a,.slc true b,y=>if h:a=b then h▸y else List.map (msV a b) y
 | .slc true a,.msl b,y=>if h:a=b then (1,h▸y,[]) else (1,[],[])
 | .slc false a,.msl b,y=>if h:a=b then (0,h▸y,[]) else (0,[],[])
 | a,b,y=>if h:a=b then h▸y else b.dflt

def demV:(u t:Ty)→u.den→Option t.den
 | .pair a b,.pair c d,y=>(match demV a c y.1,demV b d y.2 with
  | some x1,some x2=>some (x1,x2)
  | _,_=>none)
 | u,t,y=>if h:u=t then some (castD h y) else if h:u.sh=t then (match u.noH with
  | true=>some (cast ((den_sh u).symm.trans (congrArg Ty.den h)) y)
  | false=>none) else (match msOk u t with
  | true=>some (msV u t y)
  | false=>none)

def AV.keep1 (i:Nat) (v:AV):AV :=
 match v.ment i with
 | false=>v
 | true=>match v with
  | .ptr j []=>.ptr j []
  | _=>.any

def St.keepP (i:Nat) (s:St):St:={ s with fr:=mapA (AV.map (AV.keep1 i)) s.fr }

def AV.giv1 (s:St) (i:Nat) (t:Ty) (v:AV):AV :=
 match v.ment i with
 | false=>v
 | true=>match v.asV s t with
  | some x=>.val t x
  | none=>(match v with
   | .ptr j p=>(match s.lend t j p with
    | some x=>.rptr t x
    | none=>.any)
   | _=>.any)

def St.givO (i:Nat) (t:Ty) (s:St):St:={ fr:=mapA (AV.map (AV.giv1 s i t)) s.fr,hp:=del i s.hp }

def ownTwice (s:St):List AV→Option (Nat×Ty)
 | []=>none
 | .sub i [] _ _::l=>(match s.obj i,l.any (·.ment i),pinned i with
  | some (.own (.slc true u) _),true,false=>some (i,.slc false u.sh)
  | _,_,_=>ownTwice s l)
 | .at_ i []::l=>(match s.obj i,l.any (·.ment i),pinned i with
  | some (.own (.slc true u) _),true,false=>some (i,.slc false u.sh)
  | _,_,_=>ownTwice s l)
 | _::l=>ownTwice s l

def isSV:AV→Bool
 | .val (.slc false _) _=>true
 | _=>false

def firstOwn (s:St):List AV→Option (Nat×Ty)
 | []=>none
 | .at_ i []::l=>(match s.obj i,pinned i with
  | some (.own (.slc true u) _),false=>some (i,.slc false u.sh)
  | _,_=>firstOwn s l)
 | _::l=>firstOwn s l

def ownGive (s:St) (l:List AV):Option (Nat×Ty) :=
 match ownTwice s l,l.any isSV with
 | some r,_=>some r
 | none,true=>firstOwn s l
 | none,false=>none

def St.givL:List Nat→St→St
 | [],s=>s
 | i::l,s=>(match s.obj i,pinned i with
  | some (.own (.slc true u) _),false=>St.givL l (s.givO i (.slc false u.sh))
  | _,_=>St.givL l s)

def demA (E:Env) (o:Oper) (s:St):Option St :=
 match E.ps.any PK.takes,o.op with
 | false,.call c=>(match c.callee,c.args.toList with
  | .value (.func g),x::_=>(match look g E.ctr,s.ev x with
   | some ⟨.rw t::_,_,_,_,_,_⟩,.ptr i []=>(match s.obj i with
    | some (.var u y)=>(match decide (u=t) with
     | true=>none
     | false=>(match demV u t y with
      | some z=>some ((s.keepP i).putE i (.var t z))
      | none=>none))
    | _=>none)
   | some ⟨.rd t::_,rs,_,_,_,nw⟩,.ptr i []=>(match rs.all Ty.noSh || nw,pinned i,s.lend t i [] with
    | false,false,some _=>some (s.givO i t)
    | _,_,_=>none)
   | some ⟨ps,rs,_,_,_,nw⟩,_=>(match rs.all Ty.noSh || nw with
    | true=>none
    | false=>some (s.givL (callA.loose ps (s.evs c.args.toList))))
   | _,_=>none)
  | _,_=>none)
 | false,.buildSlice _ _ parts=>(match ownGive s (parts.toList.map fun q=>s.ev q.2) with
  | some (i,t)=>(match pinned i with
   | false=>some (s.givO i t)
   | true=>none)
  | none=>none)
 | _,_=>none

def PK.isOwn:PK→Bool
 | .own _=>true
 | _=>false

def moveA (E:Env) (o:Oper) (s:St):Option St :=
 match o.op with
 | .call c=>(match c.callee,c.args.toList with
  | .value (.func g),.tmp tx::_=>(match look g E.ctr,look tx s.fr with
   | some ⟨.own (.slc true t)::ks,_,_,_,_,_⟩,some (.at_ i (st::p))=>(match s.obj i with
    | some (.var u y)=>(match getP u y (st::p),setP u y (st::p) (.hole t) ([]:List t.den) with
     | some ⟨v,l⟩,some r =>
      if h:v=.slc true t then
       (match ks.any PK.isOwn && ((s.kill i (Ent.var u y).kd (st::p)).putE i (.var r.1 r.2)).fresh (1600000+tx) with
       | true=>some { ((s.kill i (Ent.var u y).kd (st::p)).putE i (.var r.1 r.2)).putE (1600000+tx) (.own (.slc true t) (castD h l)) with fr:=Ex.put tx (.at_ (1600000+tx) []) ((s.kill i (Ent.var u y).kd (st::p)).putE i (.var r.1 r.2)).fr }
       | false=>none)
      else none
     | _,_=>none)
    | _=>none)
   | _,_=>none)
  | _,_=>none)
 | _=>none

def mslA (E:Env) (o:Oper) (s:St):St :=
 match o.op with
 | .call c=>(match c.callee,c.args.toList with
  | .value (.func g),x::_=>(match look g E.ctr,s.ev x with
   | some ⟨.mu _::_,_,_,_,_,_⟩,.at_ i []=>(match s.obj i with
    | some (.own (.msl t) z)=>(match Nat.ble 1 z.1 && Nat.ble z.1 2 with
     | true=>match t.shared with|false=>s|true=>{ fr:=mapA (AV.map fun v=>match v.ment i with|false=>v|true=>match v with|.at_ j []=>.at_ j []|_=>.any) s.fr,hp:=Ex.put i (.own (.slc true t) z.2.1) s.hp }
     | false=>s)
    | _=>s)
   | _,_=>s)
  | _,_=>s)
 | _=>s

def preA0 (E:Env) (o:Oper) (s:St):St:=(moveA E o ((demA E o s).getD s)).getD ((demA E o s).getD s)
def preA (E:Env) (o:Oper) (s:St):St:=preA0 E o (mslA E o s)

def regF (E:Env) (ops:Array Oper):Nat→List Oper→St→(St→Tree (E.rs++wts E.ps))→Tree (E.rs++wts E.ps)
 | _,[],s,k=>k s
 | n+1,_::rest,s,k=>regF E ops n rest s k
 | 0,o::rest,s0,k=>let s:=preA E o s0
  match fuseA E o rest s with
  | some (p,s',n)=>.need p (regF E ops n rest s' k)
  | none=>match fuseC E o rest s with
  | some (p,s',n)=>.need p (regF E ops n rest s' k)
  | none=>match callM E o s with
  | some (p,s')=>.need p (regF E ops 0 rest s' k)
  | none=>match linkA E o s with
  | some (p,s')=>.need p (regF E ops 0 rest s' k)
  | none=>match o.guard,dstOk E.nt o.dst,brA E s o with
   | none,true,some (p,v1,v2)=>.both p (regF E ops 0 rest (s.put o.dst v1) k) (regF E ops 0 rest (s.put o.dst v2) k)
   | _,_,_=>placeA E ops o s fun s'=>regF E ops 0 rest s' k

/-! ### regions whose order is drawn -/
def OR.get:OR→Option (Prop×AV×St)
 | .fail _=>none
 | .ok v s=>some (True,v,s)
 | .okN p v s=>some (p,v,s)

def runR (E:Env) (o:Oper) (s:St):Option (Prop×St) :=
 match dstOk E.nt o.dst with
 | false=>none
 | true =>
 match o.op with
 | .pick c a b=>match s.ev c with
  | .val .bool g=>some (True,s.put o.dst (match g with|true=>s.ev a|false=>s.ev b))
  | _=>none
 | _=>match (aop E o s).get with
  | none=>none
  | some (p,v,s')=>some (p,s'.put o.dst v)

def placeR (E:Env) (ops:Array Oper) (o:Oper) (s:St):Option (Prop×St) :=
 match o.guard with
 | none=>runR E o s
 | some (j,want)=>match guardSlot ops j with
  | none=>none
  | some g=>match s.ev (.tmp g) with
   | .raw (.tuple _)=>match dstOk E.nt o.dst with
    | true=>some (True,s.put o.dst (.raw undef))
    | false=>none
   | .val .bool b=>match dstOk E.nt o.dst with
    | false=>none
    | true=>match b == want with
     | true=>runR E o (s.put (some g) (.val .bool b))
     | false=>some (True,(s.put (some g) (.val .bool b)).put o.dst (.raw undef))
   | _=>none

def looks (ops:Array Oper) (o:Oper):List Nat :=
 (o.op.operands.toList.filterMap fun|.tmp t=>some t|_=>none) ++
 (match o.guard with
 | some (g,_)=>(guardSlot ops g).toList
 | none=>[])

def apartB (ops:Array Oper) (x y:Oper):Bool :=
 (match x.dst with
 | some d=>!(looks ops y).contains d && (match y.dst with|some e=>!(Nat.beq d e)|none=>true)
 | none=>true) &&
 (match y.dst with
 | some d=>!(looks ops x).contains d
 | none=>true)

def indep (ops:Array Oper) (x y:Oper):Bool:=apartB ops x y && !(Nat.beq ((x.dst.getD 0) % 1000) ((y.dst.getD 0) % 1000))

def takes (E:Env) (o:Oper) (s:St):List Nat :=
 match o.op with
 | .store _ a x=>(s.ev a).lent++(s.ev x).lent
 | .box _ x=>(s.ev x).lent
 | .build _ parts=>(s.evs (parts.toList.map (·.2))).lent
 | .buildSlice _ _ parts=>(s.evs (parts.toList.map (·.2))).lent
 | .mapUpdate _ m _ _=>(s.ev m).lent
 | .call c=>(match c.callee with
  | .value f=>(match s.ev f with
   | .clo g caps=>(match look g E.ctr with
    | some c'=>(match c'.ps.any PK.takes with
     | false=>[]
     | true=>((s.evs c.args.toList).app caps).lent)
    | none=>[])
   | .val (.fn g) _=>(match look g E.ctr with
    | some c'=>(match c'.ps.any PK.takes with
     | false=>[]
     | true=>((s.evs c.args.toList).app .nil).lent)
    | none=>[])
   | .val (.box false (some g) t) y=>(match look g E.ctr with
    | some c'=>(match c'.ps.any PK.takes with
     | false=>[]
     | true=>((s.evs c.args.toList).app (.cons (.rptr t (Option.getD (y:Option t.den) t.dflt)) .nil)).lent)
    | none=>[])
   | _=>[])
  | .builtin .append=>(s.evs c.args.toList).lent
  | .builtin .copy=>(s.evs c.args.toList).lent
  | .builtin .clear=>(s.evs c.args.toList).lent
  | _=>[])
 | _=>[]

structure Met where
 i:Nat
 o:Oper
 s:St
 T:List Nat

def vwB (o:Oper) (v:AV):AV :=
 match o.guard,o.op with
 | none,.extract _ j=>(match v with
  | .tup l=>(match aop.nth j l with
   | some v=>.tup (.cons v .nil)
   | none=>.any)
  | _=>.any)
 | _,_=>v

def pairB (ops:Array Oper) (e:Met) (y:Oper) (Ty:List Nat):Bool :=
 (match e.T with
  | []=>true
  | T=>((looks ops y).all fun m=>T.all fun i=>!(vwB y (e.s.get m)).ment i) && T.all fun i=>!(Nat.beq (i % 1000) ((y.dst.getD 0) % 1000))) &&
 (match Ty with
  | []=>true
  | T=>(looks ops e.o).all fun m=>T.all fun i=>!(vwB e.o (e.s.get m)).ment i)

def masksGo:List Oper→List Nat→List Nat
 | [],acc=>acc
 | o::l,acc=>masksGo l (acc++[o.after.toList.foldl (fun m e=>match Region.binds .any e with|true=>Nat.lor (Nat.lor m (2^e.on)) (acc.getD e.on 0)|false=>m) 0])

def depOk (_:List Nat) (o:Oper) (_ i:Nat):Bool :=
 o.after.toList.all fun e=>!Region.binds .any e || Nat.blt e.on i

def maskOk (M:List Nat) (o:Oper) (m n:Nat):Bool :=
 (List.range n).all fun j=>!(m.testBit j) || o.after.toList.any fun e=>Region.binds .any e && (Nat.beq e.on j || (M.getD e.on 0).testBit j)

def drawOk (ops:Array Oper):Bool :=
 let M:=masksGo ops.toList []
 let L:=ops.toList
 let n:=L.length
 (List.range n).all fun i=>match L[i]? with
  | none=>false
  | some o=>depOk M o (M.getD i 0) i && maskOk M o (M.getD i 0) n &&
   (List.range i).all fun j=>match L[j]? with
    | none=>false
    | some x=>(M.getD i 0).testBit j || indep ops x o

def AV.clean:AV→Bool
 | .ptr _ _|.at_ _ _|.sub _ _ _ _=>false
 | .cons a b=>a.clean && b.clean
 | .tup l|.clo _ l|.bx l|.rc _ l=>l.clean
 | _=>true

def uniqB {α:Type _}:List (Nat×α)→Bool
 | []=>true
 | (n,_)::l=>(match l with
  | []=>true
  | (m,_)::_=>Nat.blt n m) && uniqB l

def distinctB:List Nat→Bool
 | []=>true
 | a::l=>!l.contains a && distinctB l

def dsts (ops:List Oper):List Nat:=ops.filterMap (·.dst)

def entryOk (ops:Array Oper) (s:St):Bool :=
 uniqB s.fr && distinctB (dsts ops.toList) && (dsts ops.toList.dropLast).all fun d=>(s.get d).clean

def exemptB (ops:Array Oper) (j:Nat):Bool:=(List.range ops.size).all fun i=>!Nat.blt j i || ((masksGo ops.toList []).getD i 0).testBit j

def entryOk2 (ops:Array Oper) (s:St):Bool :=
 uniqB s.fr && distinctB (dsts ops.toList) && (List.range ops.size).all fun j=>exemptB ops j || (match ops[j]? with
  | some o=>(match o.dst with
   | some d=>(s.get d).clean
   | none=>true)
  | none=>true)

def firstRegion:Code→Nat
 | .region id _ _=>id
 | .seq a _=>firstRegion a
 | .block _ c=>firstRegion c
 | .loop c=>firstRegion c
 | .cond _ a _=>firstRegion a
 | _=>0

structure PendA where
 k:Nat
 x:Operand
 y:Operand
 T:TypeId
 U:TypeId
 d:Nat

def appAt (E:Env) (o:Oper) (s:St) (i:Nat):Option PendA :=
 match o.guard,o.dst,dstOk E.nt o.dst,o.op with
 | none,some d,true,.call c=>(match c.callee,c.args.toList,c.argTypes.toList with
  | .builtin .append,[x,y],[T,U]=>(match s.ev x with
   | .at_ j p=>(match (AV.at_ j p).give s with
    | some _=>none
    | none=>some ⟨i,x,y,T,U,d⟩)
   | _=>none)
  | _,_,_=>none)
 | _,_,_,_=>none

def isSt (o:Oper):Bool:=match o.guard,o.op with|none,.store _ _ _=>true|_,_=>false

def quiet (o:Oper):Bool :=
 o.guard.isNone && (match o.op with
  | .move _=>true
  | .load _ _=>true
  | .fieldAddr _ _ _=>true
  | .indexAddr _ _ _=>true
  | .nilCheck _=>true
  | _=>false)

def notIn (d:Option Nat) (L:List Nat):Bool :=
 match d with
 | some e=>!L.contains e
 | none=>true

def pendOk (ops:Array Oper) (M:List Nat) (k n:Nat):Bool :=
 Nat.beq (n+1) ops.size && Nat.blt k n && (match ops[k]? with
  | some ok=>(List.range n).all fun j=>(M.getD n 0).testBit j && (Nat.beq j k || (match ops[j]? with
   | some o=>notIn o.dst ok.dst.toList && ((M.getD k 0).testBit j || ((quiet o || isSt o) && notIn o.dst (looks ops ok)))
   | none=>false))
  | none=>false)

def lateSt (ops:Array Oper) (q:PendA) (n j:Nat) (o:Oper) (s:St):Bool :=
 match o.op with
 | .store _ ad x=>(match s.ev ad,s.ev x with
  | .ptr j0 _,.val _ _=>!(s.ev q.x).ment j0 && !(s.ev q.y).ment j0
  | _,_=>false) && o.guard.isNone && o.dst.isNone && (List.range n).all fun j'=>Nat.ble j' j || (match ops[j']? with
   | some o'=>notIn o'.dst (looks ops o)
   | none=>true)
 | _=>false

def lateOk (ops:Array Oper) (M:List Nat) (q:PendA) (n:Nat) (s:St):Bool :=
 (List.range n).all fun j=>Nat.beq j q.k || (match ops[j]? with
  | some o=>(M.getD q.k 0).testBit j || quiet o || lateSt ops q n j o s
  | none=>true)

def finA (E:Env) (ops:Array Oper) (M:List Nat) (q:PendA) (i:Nat) (o:Oper) (s:St):Option (Prop×St) :=
 match o.guard,o.op with
 | none,.store T2 ad (.tmp d')=>(match Nat.beq d' q.d && (match ad with|.tmp t=>!Nat.beq t q.d|_=>true) && pendOk ops M q.k i && lateOk ops M q i s && dstOk E.nt o.dst with
  | true=>(match appS E q.T q.U T2 (s.ev q.x) (s.ev q.y) (s.ev ad) q.d s with
   | some (p,s2)=>some (p,s2.put o.dst (.raw undef))
   | none=>none)
  | false=>none)
 | _,_=>none

def regP (E:Env) (ops:Array Oper) (M:List Nat) (q:PendA):Nat→List Oper→St→List Met→(St→Tree (E.rs++wts E.ps))→Tree (E.rs++wts E.ps)
 | _,[],_,_,_=>.stuck "draw: pending"
 | i,[o],s,_,k=>(match finA E ops M q i o s with
  | some (p,s2)=>.need p (k s2)
  | none=>.stuck "draw: append")
 | i,o::o2::rest,s,acc,k =>
  match acc.all fun e=>(M.getD i 0).testBit e.i || pairB ops e o (takes E o s) with
  | false=>.stuck "draw: objects"
  | true=>placeA E ops o s fun s'=>regP E ops M q (i+1) (o2::rest) s' (⟨i,o,s,takes E o s⟩::acc) k

def regD (E:Env) (ops:Array Oper) (M:List Nat):Nat→List Oper→St→List Met→(St→Tree (E.rs++wts E.ps))→Tree (E.rs++wts E.ps)
 | _,[],s,_,k=>k s
 | i,o::rest,s,acc,k =>
  match appAt E o s i with
  | some q=>regP E ops M q (i+1) rest s acc k
  | none=>match acc.all fun e=>(M.getD i 0).testBit e.i || pairB ops e o (takes E o s) with
   | false=>.stuck "draw: objects"
   | true=>placeA E ops o s fun s'=>regD E ops M (i+1) rest s' (⟨i,o,s,takes E o s⟩::acc) k

def regN (E:Env) (ops:Array Oper) (M:List Nat):Nat→List Oper→St→List Met→(St→Tree (E.rs++wts E.ps))→Tree (E.rs++wts E.ps)
 | _,[],s,_,k=>k s
 | i,o::rest,s,acc,k =>
  match acc.all fun e=>(M.getD i 0).testBit e.i || pairB ops e o (takes E o s) with
  | false=>.stuck "draw: objects"
  | true=>placeA E ops o s fun s'=>regN E ops M (i+1) rest s' (⟨i,o,s,takes E o s⟩::acc) k

def sliceSrc (ops:Array Oper) (s:St) (t:Nat):Option Nat :=
 ops.toList.findSome? fun o=>match o.dst,o.op with
  | some d,.slice _ (.tmp a) _ _ _=>(match Nat.beq d t with
   | true=>ops.toList.findSome? fun o2=>(match o2.dst,o2.op with
    | some d2,.move (.tmp x)=>(match Nat.beq d2 a,look x s.fr with
     | true,some (.at_ i [])=>some i
     | _,_=>none)
    | _,_=>none)
   | false=>none)
  | _,_=>none

def twiceIn (ops:Array Oper) (s:St):Option Nat :=
 ops.toList.findSome? fun o=>match o.op with
  | .buildSlice _ _ parts=>(match parts.toList.filterMap fun q=>(match q.2 with|.tmp t=>sliceSrc ops s t|_=>none) with
   | i::j::_=>(match Nat.beq i j with|true=>some i|false=>none)
   | _=>none)
  | _=>none

def preD (E:Env) (ops:Array Oper) (s:St):St :=
 match E.ps.any PK.takes,twiceIn ops s with
 | false,some i=>(match s.obj i,pinned i with
  | some (.own (.slc true u) _),false=>s.givO i (.slc false u.sh)
  | _,_=>s)
 | _,_=>s

def regZ (E:Env) (ops:Array Oper) (M:List Nat):Nat→List Oper→St→List Met→(St→Tree (E.rs++wts E.ps))→Tree (E.rs++wts E.ps)
 | _,[],_,_,_=>.stuck "draw: nothing"
 | i,[o],s,_,k=>match (List.range i).all (fun j=>(M.getD i 0).testBit j),linkA E o s with
  | true,some (p,s2)=>.need p (k s2)
  | _,_=>.stuck "draw: last"
 | i,o::o2::rest,s,acc,k =>
  match acc.all fun e=>(M.getD i 0).testBit e.i || pairB ops e o (takes E o s) with
  | false=>.stuck "draw: objects"
  | true=>placeA E ops o s fun s'=>regZ E ops M (i+1) (o2::rest) s' (⟨i,o,s,takes E o s⟩::acc) k

def PK.isEl:PK→Bool
 | .el _=>true
 | _=>false

def lastZ (E:Env) (ops:Array Oper):Bool :=
 match ops.toList.getLast? with
 | some o=>(match o.guard,o.op with
  | none,.call c=>(match c.callee with
   | .value (.tmp t)=>ops.toList.any fun x=>(match x.dst,x.op with
    | some d,.load T _=>Nat.beq d t && (match look T E.tt with
     | some ⟨.fn _,_⟩=>true
     | _=>false)
    | _,_=>false)
   | .value (.func g)=>(match look g E.ctr with
    | some c=>(match c.rs with
     | []=>c.ps.any PK.isEl
     | _=>false)
    | none=>false)
   | _=>false)
  | _,_=>false)
 | none=>false

def Ty.noIx:Ty→Bool
 | .int _|.bool|.str|.unit=>true
 | .pair a b=>a.noIx && b.noIx
 | _=>false

def plainSt (o:Oper) (s:St):Bool :=
 match o.guard,o.op with
 | none,.store _ a x=>(match s.ev a,s.ev x with
  | .ptr _ _,.val t _=>t.noIx
  | _,_=>false)
 | _,_=>false

def addrOp (o:Oper):Bool :=
 match o.guard,o.op with
 | none,.indexAddr _ _ _=>true
 | none,.fieldAddr _ _ _=>true
 | _,_=>false

def addrSt (o:Oper) (s:St):Bool :=
 match o.guard,o.op with
 | none,.indexAddr _ a i=>(match s.ev a,s.ev i with
  | .at_ _ _,.val (.int _) _=>true
  | _,_=>false)
 | none,.fieldAddr _ a _=>(match s.ev a with
  | .ptr _ _=>true
  | _=>false)
 | _,_=>false

def stAt (o:Oper) (s:St):Option (Nat×(Bool×Ty)×List Step) :=
 match plainSt o s,o.op with
 | true,.store _ a _=>(match s.ev a with
  | .ptr j q=>(look j s.hp).map fun e=>(j,e.kd,q)
  | _=>none)
 | _,_=>none

def tyP:Ty→List Step→Option Ty
 | t,[]=>some t
 | .pair a _,.fld 0::p=>tyP a p
 | .pair _ b,.fld (n+1)::p=>tyP b (.fld n::p)
 | .arr _ t,.idx _::p=>tyP t p
 | .slc true t,.idx _::p=>tyP t p
 | _,_=>none

def keepV (j:Nat) (kd:Bool×Ty) (q:List Step) (v:AV):Bool :=
 match v with
 | .ptr i p=>!Nat.beq j i || kp q p
 | .at_ i p=>!Nat.beq j i || (match AV.kill1 j kd q (.at_ i p) with|.at_ _ _=>true|_=>false)
 | .val _ _=>true
 | _=>false

def hpk (s:St) (i:Nat):Option (Bool×Ty):=(look i s.hp).map Ent.kd

def keepX (o:Oper) (s:St) (j:Nat) (kd:Bool×Ty) (q:List Step):Bool :=
 match o.guard,o.op with
 | none,.move a=>keepV j kd q (s.ev a)
 | none,.fieldAddr _ a n=>(match s.ev a with
  | .ptr i p=>keepV j kd q (.ptr i p) && keepV j kd q (.ptr i (p++[.fld n]))
  | _=>false)
 | none,.load _ a=>(match s.ev a with
  | .ptr i p=>keepV j kd q (.ptr i p) && keepV j kd q (.at_ i p) && (match hpk s i with
   | some k=>(match tyP k.2 p with
    | some u=>!u.shared
    | none=>false)
   | none=>false)
  | _=>false)
 | _,_=>false

def keepB (e:Met) (y:Oper) (s:St):Bool :=
 match stAt y s with
 | some (j,kd,q)=>keepX e.o e.s j kd q
 | none=>false

def isKp (o:Oper):Bool:=match o.guard,o.op with|none,.move _=>true|none,.fieldAddr _ _ _=>true|none,.load _ _=>true|_,_=>false
def isAp (o:Oper):Bool:=match o.op with
 | .call c=>(match c.callee with|.builtin .append=>true|_=>false)
 | _=>false

def adOf (ops:Array Oper):List Nat:=ops.toList.filterMap fun o=>match addrOp o with|true=>o.dst|false=>none

def pairC (ops:Array Oper) (e:Met) (y:Oper) (Ty:List Nat) (s:St):Bool :=
 (pairB ops e y Ty && (match e.T with|[]=>true|_=>(looks ops y).all fun m=>!(adOf ops).contains m)) || (plainSt e.o e.s && addrSt y s) || keepB e y s

def modeB (ops:Array Oper) (M:List Nat):Bool :=
 ((List.range ops.size).any fun i=>match ops[i]? with
  | some o=>addrOp o && (List.range i).any fun j=>!(M.getD i 0).testBit j && (match ops[j]? with
   | some x=>isSt x
   | none=>false)
  | none=>false) ||
 (!(ops.toList.any isAp) && Nat.blt 1 (ops.toList.filter isSt).length && (List.range ops.size).any fun i=>match ops[i]? with
  | some o=>isSt o && (List.range i).any fun j=>!(M.getD i 0).testBit j && (match ops[j]? with
   | some x=>isKp x
   | none=>false)
  | none=>false)

def regB (E:Env) (ops:Array Oper) (M:List Nat):Nat→List Oper→St→List Met→(St→Tree (E.rs++wts E.ps))→Tree (E.rs++wts E.ps)
 | _,[],s,_,k=>k s
 | i,o::rest,s,acc,k =>
  match acc.all fun e=>(M.getD i 0).testBit e.i || pairC ops e o (takes E o s) s with
  | false=>.stuck "draw: addresses"
  | true=>placeA E ops o s fun s'=>regB E ops M (i+1) rest s' (⟨i,o,s,takes E o s⟩::acc) k

def forgetA:List Oper→St→St
 | [],s=>s
 | o::l,s=>match o.op with
  | .call c=>(match c.callee,o.dst with
   | .builtin .append,some d=>forgetA l { s with fr:=Ex.put d .any s.fr }
   | _,_=>forgetA l s)
  | _=>forgetA l s

def usedIn (i:Nat) (s:St):List Nat→Bool
 | []=>false
 | t::l=>(s.get t).ment i || usedIn i s l

def dropAll (live:List Nat) (s0:St):List (Nat×Ent)→St→St
 | [],s=>s
 | (i,_)::l,s=>match pinned i || usedIn i s0 live with
  | true=>dropAll live s0 l s
  | false=>dropAll live s0 l (s.drop i)

def AV.ren (i j:Nat):AV→AV:=AV.map fun v =>
 match v.ment i with
 | false=>v
 | true=>match v with
  | .ptr _ p=>.ptr j p
  | .at_ _ p=>.at_ j p
  | .sub _ p a b=>.sub j p a b
  | _=>.any

def settle (m:Nat) (t:Ty) (s:St):St :=
 match s.get m with
 | .raw (.slice none 0 0)=>(match t,s.fresh (1000000+m) with
  | .slc true u,true=>{ s.putE (1000000+m) (.own (.slc true u) ([]:List u.den)) with fr:=Ex.put m (.at_ (1000000+m) []) s.fr }
  | _,_=>s)
 | .at_ i []=>(match s.obj i with
  | some (.own u x)=>(match pinned i || !s.fresh (1000000+m) with
   | true=>s
   | false=>{ fr:=mapA (AV.ren i (1000000+m)) s.fr,hp:=Ex.put (1000000+m) (.own u x) (del i s.hp) })
  | _=>s)
 | .sub i [] lo hi=>(match (AV.sub i [] lo hi).give s with
  | some (⟨u,x⟩,_)=>(match pinned i || !(s.drop i).fresh (1000000+m) with
   | true=>s
   | false=>{ (s.drop i).putE (1000000+m) (.own u x) with fr:=Ex.put m (.at_ (1000000+m) []) (s.drop i).fr })
  | none=>s)
 | .val u x=>(match decide (u=t) && s.fresh (1000000+m) with
  | true=>{ s.putE (1000000+m) (.own u x) with fr:=Ex.put m (.at_ (1000000+m) []) s.fr }
  | false=>s)
 | _=>s

def settles:List (Nat×Option Ty)→St→St
 | [],s=>s
 | (_,none)::l,s=>settles l s
 | (m,some t)::l,s=>settles l (settle m t s)

def canon (live:List (Nat×Option Ty)) (s:St):St :=
 let ts:=live.map (·.1)
 let s:=dropAll ts s s.hp s
 let s:=settles live s
 let s:=dropAll ts s s.hp s
 { fr:=ts.map fun t=>(t,s.get t),hp:=s.hp }

def demCut (E:Env):List (Nat×Option Ty)→St→St
 | [],s=>s
 | (m,some t)::l,s=>demCut E l (match E.ps.any PK.takes,s.get m with
  | false,.ptr i []=>(match s.obj i with
   | some (.var u y)=>(match decide (u=t) with
    | true=>s
    | false=>(match demV u t y with
     | some z=>(s.keepP i).putE i (.var t z)
     | none=>s))
   | _=>s)
  | _,_=>s)
 | (_,none)::l,s=>demCut E l s

def St.cutAt (E:Env) (c:Code) (s:St):St:=canon ((look (firstRegion c) E.cuts).getD []) (demCut E ((look (firstRegion c) E.cuts).getD []) s)

def resA (E:Env) (s:St):List ResultVar→Option AV
 | []=>some .nil
 | .tmp t::l=>match resA E s l with|some v=>some (.cons (s.ev (.tmp t)) v)|none=>none
 | .cell a T::l=>match s.ev (.tmp a) with
  | .ptr i p=>(match s.part i p with
   | some ⟨u,y⟩=>(match chk E T u with
    | true=>(match resA E s l with
     | some v=>(match u.shared with|true=>some (.cons (.val u y) v)|false=>some (.cons (.at_ i p) v))
     | none=>none)
    | false=>none)
   | none=>none)
  | _=>none

def retOne (s:St) (t:Ty) (used:List Nat) (a:AV):Option (t.den×List Nat) :=
 match a with
 | .at_ i []=>(match used.contains i || pinned i with
  | true=>none
  | false=>match s.obj i with
   | some (.var u x)=>if h:u=t then some (castD h x,i::used) else none
   | some (.own u x)=>if h:u=t then some (castD h x,i::used) else none
   | _=>none)
 | .sub i [] lo hi=>(match used.contains i || pinned i with
  | true=>none
  | false=>match (AV.sub i [] lo hi).give s with
   | some (⟨u,x⟩,_)=>if h:u=t then some (castD h x,i::used) else none
   | none=>none)
 | .ptr i []=>(match used.contains i || pinned i with
  | true=>none
  | false=>match s.obj i with
   | some (.var u x)=>if h:Ty.box true none u=t then some (castD h (some x),i::used) else none
   | _=>none)
 | .clo f (.cons (.ptr i []) .nil)=>(match used.contains i || pinned i with
  | true=>none
  | false=>match s.obj i with
   | some (.var u x)=>if h:Ty.box true (some f) u=t then some (castD h (some x),i::used) else none
   | _=>none)
 | a=>match a.as t with
  | some x=>some (x,used)
  | none=>none

def retA (s:St):(rs:List Ty)→List Nat→AV→Option (DL rs)
 | [],_,.nil=>some ()
 | t::ts,used,.cons a b=>match retOne s t used a with
  | some (x,used')=>match retA s ts used' b with
   | some y=>some (x,y)
   | none=>none
  | none=>none
 | _,_,_=>none

def outA (s:St):(ks:List PK)→Nat→Option (DL (wts ks))
 | [],_=>some ()
 | .rw t::ks,j=>match s.obj (2000000+j),outA s ks (j+1) with
  | some (.var u x),some y=>if h:u=t then some (castD h x,y) else none
  | _,_=>none
 | .mu t::ks,j=>match s.obj (2000000+j),outA s ks (j+1) with
  | some (.own u x),some y=>if h:u=.slc true t then some (castD h x,y) else none
  | _,_=>none
 | .v _::ks,j=>outA s ks (j+1)
 | .rd _::ks,j=>outA s ks (j+1)
 | .clo _ _::ks,j=>outA s ks (j+1)
 | .own _::ks,j=>outA s ks (j+1)
 | .nilS::ks,j=>outA s ks (j+1)
 | .rcs _ _::ks,j=>outA s ks (j+1)
 | .el _::ks,j=>outA s ks (j+1)

def finish (E:Env) (s:St):Tree (E.rs++wts E.ps) :=
 match resA E s E.res with
 | none=>.stuck "result"
 | some l=>match retA s E.rs [] l,outA s E.ps 0 with
  | some y,some z=>.ret (DL.app y z)
  | _,_=>.stuck "result: type"

def resSlots:List ResultVar→List Ty→List (Nat×Option Ty)
 | .cell a _::l,t::ts=>(a,some t)::resSlots l ts
 | _::l,_::ts=>resSlots l ts
 | _,_=>[]

def finishG (E:Env) (s:St):Tree (E.rs++wts E.ps) :=
 match E.gp with
 | none=>finish E s
 | some p=>match look ghostSlot s.fr with
  | some (.ptr i q)=>.need (i=2000000∧q=p∧E.nt≤ghostSlot) (finish E s)
  | _=>.stuck "ghost"

def finishD (E:Env) (s:St):Tree (E.rs++wts E.ps):=finishG E (demCut E (resSlots E.res E.rs) s)

/-! ### drawn regions that store what they read ('return put, told, s, r, true' where these are the results' names) -/
def capOf (o:Oper):Option (Nat×Option TypeId×Nat) :=
 match o.guard,o.op,o.dst with
 | none,.move (.tmp x),some d=>some (d,none,x)
 | none,.load T (.tmp x),some d=>some (d,some T,x)
 | _,_,_=>none

def putOf (o:Oper):Option (Nat×Option TypeId×Nat) :=
 match o.guard,o.op,o.dst with
 | none,.assign (.tmp d),some x=>some (d,none,x)
 | none,.store T (.tmp x) (.tmp d),none=>some (d,some T,x)
 | _,_,_=>none

def selfD (ops:Array Oper):List Nat:=ops.toList.dropLast.filterMap fun o=>(capOf o).map (·.1)

def bindsOn (o:Oper) (j:Nat):Bool:=o.after.toList.any fun e=>Region.binds .any e && Nat.beq e.on j

def selfOp (E:Env) (ops:Array Oper) (s:St) (D:List Nat) (i:Nat) (o:Oper):Bool :=
 match capOf o with
 | some (d,q,x)=>dstOk E.nt (some d) && !D.contains x && (match q with
  | none=>true
  | some T=>(match s.ev (.tmp x) with
   | .ptr j p=>(match s.part j p with
    | some ⟨u,_⟩=>chk E T u
    | none=>false)
   | _=>false))
 | none=>(match putOf o with
  | some c=>(List.range i).any fun j=>(match ops[j]? with
   | some o'=>decide (capOf o'=some c) && bindsOn o j
   | none=>false)
  | none=>false)

def selfB (E:Env) (ops:Array Oper) (s:St):Bool :=
 Nat.blt 1 ops.size && distinctB (selfD ops) && (ops.toList.any fun o=>(putOf o).isSome) && E.P.follows .mixedOrders &&
 (List.range (ops.size - 1)).all (fun i=>match ops[i]? with
  | some o=>selfOp E ops s (selfD ops) i o && o.after.toList.all (fun e=>!Region.binds .any e || Nat.blt e.on i)
  | none=>false) &&
 (match ops[ops.size - 1]? with
  | some oz=>oz.guard.isNone && (List.range (ops.size - 1)).all (fun j=>bindsOn oz j) && oz.after.toList.all (fun e=>!Region.binds .any e || Nat.blt e.on (ops.size - 1))
  | none=>false)

def selfSt (D:List Nat) (s:St):St :=
 match D with
 | []=>s
 | d::D=>{ selfSt D s with fr:=Ex.put d .any (selfSt D s).fr }

def exec (E:Env):Nat→List Item→St→Tree (E.rs++wts E.ps)
 | 0,_,_=>.stuck "fuel"
 | n+1,k,s =>
  match k with
  | []=>finishD E s
  | .inBlock _::k=>exec E n k s
  | .inLoop c::k=>.cut c k (s.cutAt E c)
  | .code c::k =>
   match c with
   | .skip=>exec E n k s
   | .seq a b=>exec E n (.code a::.code b::k) s
   | .cond c a b=>match s.ev c with
    | .val .bool g=>cond g (exec E n (.code a::k) s) (exec E n (.code b::k) s)
    | _=>.stuck "cond"
   | .block id c=>exec E n (.code c::.inBlock id::k) s
   | .loop c=>.cut c k (s.cutAt E c)
   | .exit id=>match exitTo id k with
    | some k'=>exec E n k' s
    | none=>.stuck "exit"
   | .ret=>finishD E s
   | .region _ ops draw=>match draw with
    | false=>regF E ops 0 ops.toList s fun s'=>exec E n k s'
    | true=>match selfB E ops s,ops[ops.size - 1]? with
     | true,some oz=>placeA E ops oz (selfSt (selfD ops) s) fun s'=>exec E n k s'
     | _,_=>match drawOk ops && entryOk ops (forgetA ops.toList (preD E ops s)) && E.P.follows .mixedOrders with
     | true=>match lastZ E ops with
      | true=>regZ E ops (masksGo ops.toList []) 0 ops.toList (forgetA ops.toList (preD E ops s)) [] fun s'=>exec E n k s'
      | false=>match modeB ops (masksGo ops.toList []) with
      | true=>regB E ops (masksGo ops.toList []) 0 ops.toList (forgetA ops.toList (preD E ops s)) [] fun s'=>exec E n k s'
      | false=>regD E ops (masksGo ops.toList []) 0 ops.toList (forgetA ops.toList (preD E ops s)) [] fun s'=>exec E n k s'
     | false=>match drawOk ops && entryOk2 ops (forgetA ops.toList (preD E ops s)) && E.P.follows .mixedOrders with
      | true=>regN E ops (masksGo ops.toList []) 0 ops.toList (forgetA ops.toList (preD E ops s)) [] fun s'=>exec E n k s'
      | false=>.stuck "draw"
   | _=>.stuck "code"
  | _::_=>.stuck "item"

def cutsOf:Code→List Item→List (Nat×(Code×List Item))
 | .seq a b,k=>cutsOf a (.code b::k)++cutsOf b k
 | .cond _ a b,k=>cutsOf a k++cutsOf b k
 | .block id c,k=>cutsOf c (.inBlock id::k)
 | .loop c,k=>(firstRegion c,(c,k))::cutsOf c (.inLoop c::k)
 | _,_=>[]

def loopAt (c:Code) (r:Nat):Code×List Item:=(look r (cutsOf c [])).getD (.skip,[])

def argsFr:(ks:List PK)→DK ks→Nat→List (Nat×AV)
 | [],_,_=>[]
 | .v t::ks,x,i=>(i,.val t x.1)::argsFr ks x.2 (i+1)
 | .rd t::ks,x,i=>(i,.rptr t x.1)::argsFr ks x.2 (i+1)
 | .clo f ts::ks,x,i=>(i,.clo f (rdA ts x.1))::argsFr ks x.2 (i+1)
 | .own _::ks,x,i=>(i,.at_ (1500000+i) [])::argsFr ks x.2 (i+1)
 | .rw _::ks,x,i=>(i,.ptr (2000000+i) [])::argsFr ks x.2 (i+1)
 | .mu _::ks,x,i=>(i,.at_ (2000000+i) [])::argsFr ks x.2 (i+1)
 | .nilS::ks,x,i=>(i,.raw (.slice none 0 0))::argsFr ks x.2 (i+1)
 | .rcs _ _::ks,x,i=>(i,.any)::argsFr ks x.2 (i+1)
 | .el _::ks,x,i=>(i,.any)::argsFr ks x.2 (i+1)
where rdA:(ts:List Ty)→DL ts→AV
 | [],_=>.nil
 | t::ts,x=>.cons (.rptr t x.1) (rdA ts x.2)

def argsHp:(ks:List PK)→DK ks→Nat→List (Nat×Ent)
 | [],_,_=>[]
 | .own t::ks,x,i=>Ex.put (1500000+i) (.own t x.1) (argsHp ks x.2 (i+1))
 | .rw t::ks,x,i=>Ex.put (2000000+i) (.var t x.1) (argsHp ks x.2 (i+1))
 | .mu t::ks,x,i=>Ex.put (2000000+i) (.own (.slc true t) x.1) (argsHp ks x.2 (i+1))
 | .v _::ks,x,i=>argsHp ks x.2 (i+1)
 | .rd _::ks,x,i=>argsHp ks x.2 (i+1)
 | .clo _ _::ks,x,i=>argsHp ks x.2 (i+1)
 | .nilS::ks,x,i=>argsHp ks x.2 (i+1)
 | .rcs _ _::ks,x,i=>argsHp ks x.2 (i+1)
 | .el _::ks,x,i=>argsHp ks x.2 (i+1)

def frAVs (fr:List (Nat×AV)):Nat→Nat→AV
 | _,0=>.nil
 | j,n+1=>.cons ((look j fr).getD .any) (frAVs fr (j+1) n)

def linkFr:(ks:List PK)→DK ks→Nat→List (Nat×AV)→List (Nat×AV)
 | [],_,_,fr=>fr
 | .rcs f n::ks,x,i,fr=>linkFr ks x.2 (i+1) (Ex.put i (.bx (.clo f (.rc f (frAVs fr (i - n) n)))) fr)
 | .el q::ks,x,i,fr=>linkFr ks x.2 (i+1) (Ex.put i (.ptr (2000000+(i - 1)) (q++[.idx x.1])) fr)
 | .v _::ks,x,i,fr=>linkFr ks x.2 (i+1) fr
 | .rd _::ks,x,i,fr=>linkFr ks x.2 (i+1) fr
 | .clo _ _::ks,x,i,fr=>linkFr ks x.2 (i+1) fr
 | .own _::ks,x,i,fr=>linkFr ks x.2 (i+1) fr
 | .rw _::ks,x,i,fr=>linkFr ks x.2 (i+1) fr
 | .mu _::ks,x,i,fr=>linkFr ks x.2 (i+1) fr
 | .nilS::ks,x,i,fr=>linkFr ks x.2 (i+1) fr

def initSt (ks:List PK) (x:DK ks):St:={ fr:=linkFr ks x 0 (argsFr ks x 0),hp:=argsHp ks x 0 }

end Go.Ex

namespace Go.Ex

/-! ### lists by number -/
theorem beq_ne {n m:Nat} (h:n≠m):Nat.beq n m=false:=by
 cases e:Nat.beq n m with
 | true=>exact absurd (Nat.eq_of_beq_eq_true e) h
 | false=>rfl

section
variable {α:Type _}
theorem look_put (n m:Nat) (x:α):∀ l:List (Nat×α),look n (put m x l)=if n=m then some x else look n l
 | []=>by
  simp only [put,look]
  by_cases h:n=m
  ·subst h; simp
  ·rw [if_neg h]; have:Nat.beq n m=false:=beq_ne h
   simp [this]
 | (k,y)::l=>by
  simp only [put]
  cases hk:Nat.beq m k with
  | true =>
   have:m=k:=Nat.eq_of_beq_eq_true hk
   subst this
   simp only [look]
   by_cases h:n=m
   ·subst h; simp
   ·rw [if_neg h]; have:Nat.beq n m=false:=beq_ne h
    simp [this]
  | false =>
   have hmk:m≠k:=fun e=>by subst e; simp at hk
   cases Nat.blt m k with
   | true =>
    simp only [look]
    by_cases h:n=m
    ·subst h; simp
    ·rw [if_neg h]; have:Nat.beq n m=false:=beq_ne h
     simp [this]
   | false =>
    simp only [look]
    cases hn:Nat.beq n k with
    | true =>
     have:n=k:=Nat.eq_of_beq_eq_true hn
     subst this
     simp [Ne.symm hmk]
    | false=>exact look_put n m x l

theorem look_del (n m:Nat):∀ l:List (Nat×α),look n (del m l)=if n=m then none else look n l
 | []=>by simp [del,look]
 | (k,y)::l=>by
  simp only [del]
  cases hk:Nat.beq m k with
  | true =>
   have:m=k:=Nat.eq_of_beq_eq_true hk
   subst this
   simp only [look,look_del n m l]
   by_cases h:n=m
   ·simp [h]
   ·have:Nat.beq n m=false:=beq_ne h
    simp [h,this]
  | false =>
   have hmk:m≠k:=fun e=>by subst e; simp at hk
   simp only [look]
   cases hn:Nat.beq n k with
   | true =>
    have:n=k:=Nat.eq_of_beq_eq_true hn
    subst this
    simp [Ne.symm hmk]
   | false=>exact look_del n m l

theorem look_mapA (n:Nat) (f:α→α):∀ l:List (Nat×α),look n (mapA f l)=(look n l).map f
 | []=>rfl
 | (k,y)::l=>by
  simp only [mapA,look]
  cases Nat.beq n k with
  | true=>rfl
  | false=>exact look_mapA n f l
end

theorem look_noMent {d:Nat}:∀ {l:List (Nat×AV)},noMent d l=true→∀ {n:Nat} {v:AV},look n l=some v→v.ment d=false
 | [],_,_,_,h=>by cases h
 | (k,y)::l,h,n,v,hv=>by
  simp only [noMent,Bool.and_eq_true,Bool.not_eq_true'] at h
  simp only [look] at hv
  cases hk:Nat.beq n k with
  | true=>rw [hk] at hv; cases hv; exact h.1
  | false=>rw [hk] at hv; exact look_noMent h.2 hv

def AV.ref:AV→Bool
 | .ptr _ _|.at_ _ _|.sub _ _ _ _=>true
 | _=>false

theorem AV.map_congr {f g:AV→AV}:∀ {v:AV},(∀ u:AV,u.ref=true→(∀ i,u.ment i=true→v.ment i=true)→f u=g u)→v.map f=v.map g:=by
 intro v
 induction v with
 | ptr i p=>intro h; exact h _ rfl (fun _ h=>h)
 | at_ i p=>intro h; exact h _ rfl (fun _ h=>h)
 | sub i p a b=>intro h; exact h _ rfl (fun _ h=>h)
 | cons a b iha ihb =>
  intro h
  simp only [AV.map]
  rw [iha (fun u hu hm=>h u hu (fun i hi=>by simp [AV.ment,hm i hi])),ihb (fun u hu hm=>h u hu (fun i hi=>by simp [AV.ment,hm i hi]))]
 | tup l ih=>intro h; simp only [AV.map]; rw [ih h]
 | clo f l ih=>intro h; simp only [AV.map]; rw [ih h]
 | bx l ih=>intro h; simp only [AV.map]; rw [ih h]
 | rc f l ih=>intro h; simp only [AV.map]; rw [ih h]
 | _=>intro _; rfl

theorem AV.map_id:∀ v:AV,v.map (fun u=>u)=v:=by
 intro v
 induction v with
 | cons a b iha ihb=>simp only [AV.map,iha,ihb]
 | tup l ih=>simp only [AV.map,ih]
 | clo f l ih=>simp only [AV.map,ih]
 | bx l ih=>simp only [AV.map,ih]
 | rc f l ih=>simp only [AV.map,ih]
 | _=>rfl

theorem AV.map_same {f:AV→AV} {v:AV} (h:∀ u:AV,u.ref=true→(∀ i,u.ment i=true→v.ment i=true)→f u=u):v.map f=v:=by
 rw [AV.map_congr (g:=fun u=>u) h,AV.map_id]

theorem kill_noMent {d:Nat} {ow:Bool×Ty} {q:List Step} {v:AV} (h:v.ment d=false):v.kill d ow q=v:=by
 refine AV.map_same (fun u _ hm=>?_)
 have:u.ment d=false:=by
  cases e:u.ment d with
  | false=>rfl
  | true=>rw [hm d e] at h; cases h
 simp only [AV.kill1,this]

/-! ### where a part lies, under another root -/
theorem nav_move {H H':Array Go.Obj} {S:Nat→Prop}:∀ {t:Ty} {p:List Step} {r off r' off':Nat} {O:List Nat} {x:t.den},Rep H S t O (cellsAt H r off t.size) x→off+t.size≤(blk H r).length→okP t x p →
  cellsAt H' r' off' t.size=cellsAt H r off t.size→(∀ c∈O,H'[c]?=H[c]?)→∀ {u:Ty} {y:u.den},getP t x p=some ⟨u,y⟩ →
  (∃ k,Nav H t p r off=some (r,off+k)∧Nav H' t p r' off'=some (r',off'+k)∧k+u.size≤t.size)∨(∃ b o,Nav H t p r off=some (b,o)∧Nav H' t p r' off'=some (b,o)∧b∈O):=by
 intro t
 have sub:∀ {r off r' off' n o m:Nat},cellsAt H' r' off' n=cellsAt H r off n→o+m≤n→cellsAt H' r' (off'+o) m=cellsAt H r (off+o) m:=by
  intro r off r' off' n o m h hm
  have e:∀ (K:Array Go.Obj) (c d:Nat),cellsAt K c (d+o) m=((cellsAt K c d n).drop o).take m:=by
   intro K c d
   rw [cellsAt_drop,cellsAt_take _ _ _ _ (by omega)]
  rw [e H',e H,h]
 have shift:∀ {a:Ty} {q:List Step} {r off r' off' d n s:Nat} {O:List Nat},(∃ k,Nav H a q r (off+d)=some (r,off+d+k)∧Nav H' a q r' (off'+d)=some (r',off'+d+k)∧k+s≤n)∨(∃ b o,Nav H a q r (off+d)=some (b,o)∧Nav H' a q r' (off'+d)=some (b,o)∧b∈O) →
   ∀ {m:Nat} {O':List Nat},d+n≤m→(∀ c∈O,c∈O')→(∃ k,Nav H a q r (off+d)=some (r,off+k)∧Nav H' a q r' (off'+d)=some (r',off'+k)∧k+s≤m)∨(∃ b o,Nav H a q r (off+d)=some (b,o)∧Nav H' a q r' (off'+d)=some (b,o)∧b∈O'):=by
  intro a q r off r' off' d n s O h m O' hm hO
  rcases h with ⟨k,h1,h2,h3⟩|⟨b,o,h1,h2,h3⟩
  ·exact .inl ⟨d+k,by rw [h1,Nat.add_assoc],by rw [h2,Nat.add_assoc],by omega⟩
  ·exact .inr ⟨b,o,h1,h2,hO b h3⟩
 induction t with
 | pair a c iha ihc =>
  intro p r off r' off' O x hR hb ho hc hO u y hg
  match p,ho,hg with
  | [],_,hg=>simp only [getP,Option.some.injEq] at hg; cases hg; exact .inl ⟨0,rfl,rfl,by omega⟩
  | .fld 0::p,ho,hg =>
   obtain ⟨P1,P2,rfl,h1,h2⟩:=hR
   simp only [Ty.size] at *
   rw [cellsAt_take _ _ _ _ (by omega)] at h1
   have:=iha h1 (by omega) ho (by have:=sub (o:=0) (m:=a.size) hc (by omega); simpa using this) (fun c hc=>hO c (by simp [hc])) hg
   exact shift (d:=0) this (by omega) (fun c hc=>by simp [hc])
  | .fld (n+1)::p,ho,hg =>
   obtain ⟨P1,P2,rfl,h1,h2⟩:=hR
   simp only [Ty.size] at *
   rw [cellsAt_drop,Nat.add_sub_cancel_left] at h2
   have:=ihc h2 (by omega) ho (sub (o:=a.size) (m:=c.size) hc (by omega)) (fun c hc=>hO c (by simp [hc])) hg
   exact shift (d:=a.size) this (by omega) (fun c hc=>by simp [hc])
  | .idx i::p,ho,_=>simp [okP] at ho
 | arr n t ih =>
  intro p r off r' off' O x hR hb ho hc hO u y hg
  match p,ho,hg with
  | [],_,hg=>simp only [getP,Option.some.injEq] at hg; cases hg; exact .inl ⟨0,rfl,rfl,by omega⟩
  | .idx i::p,ho,hg =>
   obtain ⟨hi,ho⟩:=ho
   obtain ⟨hl,hR⟩:=hR
   simp only [Ty.size] at *
   obtain ⟨b1,b2,b3,b4⟩:=idx_bound (sz:=t.size) hi
   obtain ⟨P1,P2,P3,rfl,g1,g2,g3⟩:=RepL.split (d:=t.dflt) (i:=i.toNat) (by rw [hl]; exact b1) hR
   rw [cellsAt_drop,cellsAt_take _ _ _ _ (by omega)] at g2
   have:=ih g2 (by omega) ho (sub (o:=i.toNat*t.size) (m:=t.size) hc (by omega)) (fun c hc=>hO c (by simp [hc])) hg
   exact shift (d:=i.toNat*t.size) this (by omega) (fun c hc=>by simp [hc])
  | .fld i::p,ho,_=>simp [okP] at ho
 | slc o t ih =>
  intro p r off r' off' O x hR hb ho hc hO u y hg
  match p,ho,hg with
  | [],_,hg=>refine .inl ⟨0,by cases o<;>rfl,by cases o<;>rfl,?_⟩; have hg:some (⟨.slc o t,x⟩:Sigma Ty.den)=some ⟨u,y⟩:=(by cases o<;>exact hg); cases hg; omega
  | .idx i::p,ho,hg =>
   cases o with
   | false=>simp [okP] at ho
   | true =>
    obtain ⟨hi,ho⟩:=ho
    rcases hR with ⟨_,_,hn⟩|⟨b1,o1,cap,O',c1,c2,c3,c4,c5,rfl,c6⟩
    ·subst hn; simp at hi; omega
    ·simp only [Ty.size] at *
     have hh:=(cellsAt_one r off _).1 c1
     have hh':=(cellsAt_one r' off' _).1 (hc.trans c1)
     obtain ⟨b1',b2,b3,b4⟩:=idx_bound (sz:=t.size) hi
     obtain ⟨P1,P2,P3,rfl,g1,g2,g3⟩:=RepL.split (d:=t.dflt) (i:=i.toNat) b1' c5
     rw [cellsAt_drop,cellsAt_take _ _ _ _ (by omega)] at g2
     have hcap:List.length x*t.size≤cap*t.size:=Nat.mul_le_mul_right _ c2
     have:=ih g2 (by omega) ho (r':=b1) (off':=o1+i.toNat*t.size) (cellsAt_congr (hO b1 (by simp)) _ _) (fun c hc=>hO c (by simp [hc])) hg
     simp only [Nav,hh,hh']
     rcases this with ⟨k,h1,h2,h3⟩|⟨b,o,h1,h2,h3⟩
     ·exact .inr ⟨b1,_,h1,h2,by simp⟩
     ·exact .inr ⟨b,o,h1,h2,by simp [h3]⟩
  | .fld i::p,ho,_=>cases o<;>simp [okP] at ho
 | _ =>
  intro p r off r' off' O x hR hb ho hc hO u y hg
  match p,ho,hg with
  | [],_,hg=>simp only [getP,Option.some.injEq] at hg; cases hg; exact .inl ⟨0,rfl,rfl,by omega⟩
  | .fld i::p,ho,_=>simp [okP] at ho
  | .idx i::p,ho,_=>simp [okP] at ho



/-! ### what abstract values say -/
structure Ix where
 root:Nat→Nat×Nat
 cells:Nat→List Value
 own:Nat→List Nat

def gh (H:Array Go.Obj) (cs:List Value):Array Go.Obj:=H.push (.cells cs.toArray 0)

def VH (H:Array Go.Obj) (ι:Ix) (i:Nat):Ent→Array Go.Obj
 | .own _ _=>gh H (ι.cells i)
 | _=>H
def VR (H:Array Go.Obj) (ι:Ix) (i:Nat):Ent→Nat×Nat
 | .own _ _=>(H.size,0)
 | _=>ι.root i

def Place (H:Array Go.Obj) (ι:Ix) (i:Nat) (e:Ent) (p:List Step):Option (Nat×Nat) :=
 match e with
 | .bag=>none
 | e=>Nav (VH H ι i e) e.ty p (VR H ι i e).1 (VR H ι i e).2

theorem Place_eq {H:Array Go.Obj} {ι:Ix} {i:Nat} {e:Ent} {p:List Step} (he:e≠.bag):Place H ι i e p=Nav (VH H ι i e) e.ty p (VR H ι i e).1 (VR H ι i e).2:=by
 cases e<;>first|rfl|exact absurd rfl he
theorem Place_bag {H:Array Go.Obj} {ι:Ix} {i:Nat} {e:Ent} {p:List Step} {r:Nat×Nat} (h:Place H ι i e p=some r):e≠.bag:=by
 rintro rfl; cases h

def Loc (H:Array Go.Obj) (ι:Ix) (i:Nat) (e:Ent) (p:List Step):Option (Nat×Nat) :=
 match Place H ι i e p with
 | some (b,off)=>if b<H.size then some (b,off) else none
 | none=>none

def Cells (H:Array Go.Obj) (ι:Ix) (i:Nat) (e:Ent) (p:List Step) (u:Ty) (cs:List Value):Prop :=
 ∃ b off,Place H ι i e p=some (b,off)∧cs=cellsAt (VH H ι i e) b off u.size

def SubV (sz:Nat) (a:Option Addr) (cap:Nat) (lo hi:Int) (v:Value):Prop :=
 ∃ c A,v=.slice A (hi - lo).toNat c∧(c≠0→A=a.map (·.add (lo.toNat*sz)))∧(hi - lo).toNat≤c∧lo.toNat+c=cap

def VX (H:Array Go.Obj) (S:Nat→Prop) (ι:Ix) (hp:List (Nat×Ent)):AV→List Value→Prop
 | .any,vs=>∃ v,vs=[v]
 | .raw v,vs=>vs=[v]
 | .val t x,vs=>∃ cs,vs=[toV t cs]∧Rep H S t [] cs x
 | .ptr i p,vs=>∃ e b off,look i hp=some e∧okP e.ty e.x p∧Loc H ι i e p=some (b,off)∧vs=[.pointer (some ⟨b,off,none⟩)]
 | .rptr t x,vs=>∃ b off,vs=[.pointer (some ⟨b,off,none⟩)]∧S b∧off+t.size≤(blk H b).length∧Rep H S t [] (cellsAt H b off t.size) x
 | .at_ i p,vs=>∃ e u y cs,look i hp=some e∧okP e.ty e.x p∧getP e.ty e.x p=some ⟨u,y⟩∧Cells H ι i e p u cs∧vs=[toV u cs]
 | .sub i p lo hi,vs=>∃ e v,look i hp=some e∧okP e.ty e.x p∧vs=[v]∧0≤lo∧lo≤hi ∧
   ((∃ t l a cap,getP e.ty e.x p=some ⟨.slc true t,l⟩∧hi≤(List.length l:Int)∧Cells H ι i e p (.slc true t) [.slice a (List.length l) cap]∧SubV t.size a cap lo hi v) ∨
   (∃ n t l b off,getP e.ty e.x p=some ⟨.arr n t,l⟩∧(hi≤(n:Int)∧n≤maxLen)∧Loc H ι i e p=some (b,off)∧SubV t.size (some ⟨b,off,none⟩) n lo hi v))
 | .nil,vs=>vs=[]
 | .cons a b,vs=>∃ v us,vs=v::us∧VX H S ι hp a [v]∧VX H S ι hp b us
 | .tup l,vs=>∃ us,vs=[.tuple us.toArray]∧VX H S ι hp l us
 | .clo f l,vs=>∃ us,vs=[.func (.func f) #[] us.toArray]∧VX H S ι hp l us
 | .bx l,vs=>∃ b off u,vs=[.pointer (some ⟨b,off,none⟩)]∧S b∧off+1≤(blk H b).length∧cellsAt H b off 1=[u]∧VX H S ι hp l [u]
 | .rc f l,vs=>∃ b off us,vs=us++[.pointer (some ⟨b,off,none⟩)]∧S b∧off+1≤(blk H b).length∧cellsAt H b off 1=[.func (.func f) #[] (us++[.pointer (some ⟨b,off,none⟩)]).toArray]∧VX H S ι hp l us

def OB (H:Array Go.Obj) (S:Nat→Prop) (ι:Ix) (i:Nat):Ent→Prop
 | .var t x=>(∃ O,O.Perm (ι.own i)∧Rep H S t O (cellsAt H (ι.root i).1 (ι.root i).2 t.size) x)∧Free H (ι.root i).1 ((ι.root i).2+t.size)∧((ι.root i).1::ι.own i).Nodup
 | .own t x=>(∃ O,O.Perm (ι.own i)∧Rep H S t O (ι.cells i) x)∧(ι.own i).Nodup
 | .bag=>(ι.own i).Nodup

def blks (ι:Ix) (i:Nat):Ent→List Nat
 | .var _ _=>(ι.root i).1::ι.own i
 | .own _ _=>ι.own i
 | .bag=>ι.own i

structure Base where
 w0:World
 S0:Nat→Prop
 M:Nat→Prop
 n:Nat
 pins:List (Nat×(Nat×Nat)×List Value)
 gv:Value:=undef

def SameTape (w w':World):Prop:=w'.tape=w.tape∧w.drawn≤w'.drawn
theorem SameTape.refl (w:World):SameTape w w:=⟨rfl,Nat.le_refl _⟩
theorem SameTape.trans {w w' w'':World} (h':SameTape w' w'') (h:SameTape w w'):SameTape w w'':=⟨h'.1.trans h.1,Nat.le_trans h.2 h'.2⟩
theorem SameTape.of {w w':World} (h:w'.tape=w.tape) (h2:w'.drawn=w.drawn):SameTape w w':=⟨h,by rw [h2]; exact Nat.le_refl _⟩

structure HS (B:Base) (S:Nat→Prop) (ι:Ix) (hp:List (Nat×Ent)) (w:World):Prop where
 os:w.os=B.w0.os
 tape:SameTape B.w0 w
 out:w.output=B.w0.output
 size:B.w0.heap.size≤w.heap.size
 frame:∀ c,c<B.w0.heap.size→¬ B.M c→w.heap[c]?=B.w0.heap[c]?
 slt:∀ b,S b→b<w.heap.size
 s0:∀ b,B.S0 b→S b
 s1:∀ b,S b→B.S0 b∨B.w0.heap.size≤b
 ob:∀ i e,look i hp=some e→OB w.heap S ι i e
 bl:∀ i e,look i hp=some e→∀ b∈blks ι i e,¬ S b∧(B.w0.heap.size≤b∨B.M b)∧b<w.heap.size
 dj:∀ i j ei ej,look i hp=some ei→look j hp=some ej→i≠j→∀ b∈blks ι i ei,b∉blks ι j ej
 pin:∀ q∈B.pins,pinned q.1=true∧(∃ e,look q.1 hp=some e)∧ι.root q.1=q.2.1∧ι.cells q.1=q.2.2

def Base.gd (B:Base) (t:Nat):Value:=match Nat.beq t ghostSlot with|true=>B.gv|false=>undef

structure RS (B:Base) (S:Nat→Prop) (ι:Ix) (s:St) (a:Act) (w:World):Prop where
 hs:HS B S ι s.hp w
 dfr:a.defers=[]
 sz:a.tmps.size=B.n
 fr:∀ t v,look t s.fr=some v→VX w.heap S ι s.hp v [a.tmps.getD t (B.gd t)]

section
variable {H H':Array Go.Obj} {S S':Nat→Prop} {ι ι':Ix} {hp hp':List (Nat×Ent)}

theorem VX.map {f:AV→AV} (hH:∀ b,S b→H'[b]?=H[b]?) (hS:∀ b,S b→S' b):∀ {v:AV} {vs:List Value},
  (∀ u vs,u.ref=true→(∀ i,u.ment i=true→v.ment i=true)→VX H S ι hp u vs→VX H' S' ι' hp' (f u) vs)→VX H S ι hp v vs→VX H' S' ι' hp' (v.map f) vs:=by
 intro v
 induction v with
 | any=>intro vs _ h; exact h
 | raw v=>intro vs _ h; exact h
 | val t x=>rintro vs _ ⟨cs,e,h⟩; exact ⟨cs,e,h.stable (fun b hb=>by rcases hb with hb|hb; cases hb; exact hH b hb) hS⟩
 | ptr i p=>intro vs hf h; exact hf _ vs rfl (fun _ h=>h) h
 | rptr t x =>
  rintro vs _ ⟨b,off,e,hb,h3,h4⟩
  refine ⟨b,off,e,hS b hb,by rw [blk_congr (hH b hb)]; exact h3,?_⟩
  rw [cellsAt_congr (hH b hb)]
  exact h4.stable (fun b hb=>by rcases hb with hb|hb; cases hb; exact hH b hb) hS
 | at_ i p=>intro vs hf h; exact hf _ vs rfl (fun _ h=>h) h
 | sub i p a b=>intro vs hf h; exact hf _ vs rfl (fun _ h=>h) h
 | nil=>intro vs _ h; exact h
 | cons a b iha ihb=>rintro vs hf ⟨v,us,e,ha,hb⟩; exact ⟨v,us,e,iha (fun u vs hu hm=>hf u vs hu (fun i hi=>by simp [AV.ment,hm i hi])) ha,ihb (fun u vs hu hm=>hf u vs hu (fun i hi=>by simp [AV.ment,hm i hi])) hb⟩
 | tup l ih=>rintro vs hf ⟨us,e,h⟩; exact ⟨us,e,ih hf h⟩
 | clo f l ih=>rintro vs hf ⟨us,e,h⟩; exact ⟨us,e,ih hf h⟩
 | bx l ih=>rintro vs hf ⟨b,off,u,e,hb,h1,h2,h⟩; exact ⟨b,off,u,e,hS b hb,by rw [blk_congr (hH b hb)]; exact h1,by rw [cellsAt_congr (hH b hb)]; exact h2,ih hf h⟩
 | rc f l ih=>rintro vs hf ⟨b,off,us,e,hb,h1,h2,h⟩; exact ⟨b,off,us,e,hS b hb,by rw [blk_congr (hH b hb)]; exact h1,by rw [cellsAt_congr (hH b hb)]; exact h2,ih hf h⟩

theorem VX.one {v:AV} {vs:List Value} (hr:v.ref=true) (h:VX H S ι hp v vs):∃ x,vs=[x]:=by
 cases v<;>simp only [AV.ref] at hr<;>try cases hr
 ·obtain ⟨e,b,off,_,_,_,h4⟩:=h; exact ⟨_,h4⟩
 ·obtain ⟨e,u,y,cs,_,_,_,_,h5⟩:=h; exact ⟨_,h5⟩
 ·obtain ⟨e,v,_,_,h3,_⟩:=h; exact ⟨_,h3⟩

theorem gh_old {cs:List Value} {b:Nat} (h:b<H.size):(gh H cs)[b]?=H[b]?:=by
 rw [gh,Array.getElem?_push,if_neg (by omega)]
theorem gh_new {cs:List Value}:(gh H cs)[H.size]?=some (.cells cs.toArray 0):=by simp [gh]
theorem gh_blk {cs:List Value}:blk (gh H cs) H.size=cs:=by simp [blk,gh_new]
theorem gh_size {cs:List Value}:(gh H cs).size=H.size+1:=by simp [gh]

theorem Free.lt {b n:Nat} (h:Free H b n):b<H.size:=by
 obtain ⟨arr,T,⟨fz,e,_⟩,_⟩:=h
 exact (Array.getElem?_eq_some_iff.1 e).1

theorem OB.own_lt {i:Nat} {e:Ent} (he:e≠.bag) (ho:OB H S ι i e) {c:Nat} (hc:c∈ι.own i):c<H.size:=by
 cases e with
 | var t x=>obtain ⟨⟨O,hO,hR⟩,_⟩:=ho; exact hR.memO c (hO.mem_iff.2 hc)
 | own t x=>obtain ⟨⟨O,hO,hR⟩,_⟩:=ho; exact hR.memO c (hO.mem_iff.2 hc)
 | bag=>exact absurd rfl he

theorem OB.see {i:Nat} {e:Ent} (he:e≠.bag) (ho:OB H S ι i e) (hS:∀ c,S c→c<H.size):∃ O,O.Perm (ι.own i)∧Rep (VH H ι i e) S e.ty O (cellsAt (VH H ι i e) (VR H ι i e).1 (VR H ι i e).2 e.ty.size) e.x ∧
  (VR H ι i e).2+e.ty.size≤(blk (VH H ι i e) (VR H ι i e).1).length∧((VR H ι i e).1::ι.own i).Nodup∧(VR H ι i e).1<(VH H ι i e).size∧(¬ S (VR H ι i e).1∨∃ t x,e=.var t x)∧Free (VH H ι i e) (VR H ι i e).1 ((VR H ι i e).2+e.ty.size):=by
 cases e with
 | var t x =>
  obtain ⟨⟨O,hO,hR⟩,hf,hnd⟩:=ho
  exact ⟨O,hO,hR,hf.blk,hnd,hf.lt,.inr ⟨t,x,rfl⟩,hf⟩
 | own t x =>
  have hlt:=fun c hc=>OB.own_lt (c:=c) he ho hc
  obtain ⟨⟨O,hO,hR⟩,hnd⟩:=ho
  have hl:=hR.length
  have hcells:cellsAt (gh H (ι.cells i)) H.size 0 t.size=ι.cells i:=by
   simp only [cellsAt,gh_blk,List.drop_zero]
   exact List.take_of_length_le (by omega)
  refine ⟨O,hO,?_,?_,?_,by simp [VR,VH,gh_size],.inl (fun h=>Nat.lt_irrefl _ (hS _ h)),⟨_,_,⟨_,gh_new,.inl rfl⟩,by simp [VR,Ent.ty,hl]⟩⟩
  ·simp only [VH,VR,Ent.ty,Ent.x,hcells]
   exact hR.stable (fun c hc=>gh_old (hc.elim (fun h=>hlt c (hO.mem_iff.1 h)) (hS c))) (fun _ h=>h)
  ·simp only [VH,VR,Ent.ty,gh_blk]; omega
  ·exact List.nodup_cons.2 ⟨fun h=>Nat.lt_irrefl _ (hlt _ h),hnd⟩
 | bag=>exact absurd rfl he

theorem VH_old {i:Nat} {e:Ent} {c:Nat} (h:c<H.size):(VH H ι i e)[c]?=H[c]?:=by
 cases e<;>first|rfl|exact gh_old h

theorem VH_rep {i:Nat} {e:Ent} {t:Ty} {O:List Nat} {cs:List Value} {x:t.den} (hO:∀ c∈O,c<H.size) (hS:∀ c,S c→c<H.size):Rep (VH H ι i e) S t O cs x↔Rep H S t O cs x :=
 ⟨fun h=>h.stable (fun c hc=>(VH_old (hc.elim (hO c) (hS c))).symm) (fun _ h=>h),fun h=>h.stable (fun c hc=>VH_old (hc.elim (hO c) (hS c))) (fun _ h=>h)⟩

theorem OB.part {i:Nat} {e:Ent} (he:e≠.bag) (ho:OB H S ι i e) (hS:∀ c,S c→c<H.size) {p:List Step} (hok:okP e.ty e.x p) {u:Ty} {y:u.den} (hg:getP e.ty e.x p=some ⟨u,y⟩) :
  ∃ b off O2,Place H ι i e p=some (b,off)∧(∀ c∈O2,c∈ι.own i)∧O2.Nodup∧Rep H S u O2 (cellsAt (VH H ι i e) b off u.size) y∧off+u.size≤(blk (VH H ι i e) b).length ∧
   (b<H.size→b∈blks ι i e∧Free H b (off+u.size)):=by
 obtain ⟨O,hO,hR,hb,hnd,hlt,hns,hfr⟩:=ho.see he hS
 obtain ⟨O1,O2,b',off',e1,e2,e3,e4,e5,e6⟩:=focus hR hb hok hg
 have hm:∀ c,c∈O1∨c∈O2→c∈ι.own i:=fun c hc=>hO.mem_iff.1 (e1.mem_iff.2 (by simpa using hc))
 have hlt2:∀ c∈O2,c<H.size:=fun c hc=>ho.own_lt he (hm c (.inr hc))
 refine ⟨b',off',O2,(Place_eq he).trans e3,fun c hc=>hm c (.inr hc),?_,(VH_rep hlt2 hS).1 e4,e5,fun hbl=>?_⟩
 ·exact (List.nodup_append.1 ((e1.nodup_iff).1 ((hO.nodup_iff).2 (List.nodup_cons.1 hnd).2))).2.1
 ·have hfree:Free (VH H ι i e) b' (off'+u.size):=by
   rcases e6 with ⟨rfl,g1,g2⟩|⟨_,g⟩
   ·exact hfr.mono g2
   ·exact g
  refine ⟨?_,?_⟩
  ·rcases e6 with ⟨rfl,g1,g2⟩|⟨g,_⟩
   ·cases e with
    | var t x=>simp [blks,VR]
    | own t x=>simp [VR] at hbl
    | bag=>exact absurd rfl he
   ·have:=hm b' (.inl g)
    cases e<;>simp [blks,this]
  ·obtain ⟨arr,T,⟨fz,h1,h3⟩,h2⟩:=hfree
   rw [VH_old hbl] at h1
   exact ⟨arr,T,⟨fz,h1,h3⟩,h2⟩

theorem Loc_place {i:Nat} {e:Ent} {p:List Step} {b off:Nat} (h:Loc H ι i e p=some (b,off)):Place H ι i e p=some (b,off)∧b<H.size:=by
 unfold Loc at h
 split at h
 ·rename_i b' off' hp
  split at h
  ·rename_i hlt; cases h; exact ⟨hp,hlt⟩
  ·cases h
 ·cases h

theorem Loc_of {i:Nat} {e:Ent} {p:List Step} {b off:Nat} (h:Place H ι i e p=some (b,off)) (hb:b<H.size):Loc H ι i e p=some (b,off):=by
 unfold Loc; rw [h]; simp [hb]

theorem Loc_mem {i:Nat} {e:Ent} (he:e≠.bag) (ho:OB H S ι i e) (hS:∀ c,S c→c<H.size) {p:List Step} (hok:okP e.ty e.x p) {u:Ty} {y:u.den} (hg:getP e.ty e.x p=some ⟨u,y⟩) {b off:Nat} (hl:Loc H ι i e p=some (b,off)) :
  ∃ O2,(∀ c∈O2,c∈ι.own i)∧O2.Nodup∧Rep H S u O2 (cellsAt H b off u.size) y∧off+u.size≤(blk H b).length∧b∈blks ι i e∧Free H b (off+u.size):=by
 obtain ⟨b',off',O2,k1,k2,k3,k4,k5,k6⟩:=ho.part he hS hok hg
 obtain ⟨h1,h2⟩:=Loc_place hl
 rw [k1] at h1; cases h1
 rw [cellsAt_congr (VH_old h2)] at k4
 rw [blk_congr (VH_old h2)] at k5
 exact ⟨O2,k2,k3,k4,k5,k6 h2⟩

theorem OB.stable {i:Nat} {e:Ent} (ho:OB H S ι i e) (hH:∀ b,b∈blks ι i e∨S b→H'[b]?=H[b]?) (hS:∀ b,S b→S' b):OB H' S' ι i e:=by
 cases e with
 | var t x =>
  obtain ⟨⟨O,hO,hR⟩,⟨arr,T,⟨fz,hf,hf2⟩,hn⟩,hnd⟩:=ho
  have hr:H'[(ι.root i).1]?=H[(ι.root i).1]?:=hH _ (.inl (by simp [blks]))
  refine ⟨⟨O,hO,?_⟩,⟨arr,T,⟨fz,hr.trans hf,hf2⟩,hn⟩,hnd⟩
  rw [cellsAt_congr hr]
  exact hR.stable (fun b hb=>hH b (hb.imp (fun h=>by simp [blks,hO.mem_iff.1 h]) id)) hS
 | own t x =>
  obtain ⟨⟨O,hO,hR⟩,hnd⟩:=ho
  exact ⟨⟨O,hO,hR.stable (fun b hb=>hH b (hb.imp (fun h=>hO.mem_iff.1 h) id)) hS⟩,hnd⟩
 | bag=>exact ho

theorem Place_stable {i:Nat} {e:Ent} (he:e≠.bag) (ho:OB H S ι i e) (hSl:∀ c,S c→c<H.size) (hH:∀ b,b∈blks ι i e→H'[b]?=H[b]?) {p:List Step} (hok:okP e.ty e.x p) {u:Ty} {y:u.den} (hg:getP e.ty e.x p=some ⟨u,y⟩) :
  ∃ b off b' off',Place H ι i e p=some (b,off)∧Place H' ι i e p=some (b',off')∧cellsAt (VH H' ι i e) b' off' u.size=cellsAt (VH H ι i e) b off u.size∧(b<H.size→b'=b∧off'=off∧b<H'.size)∧(¬ b<H.size→¬ b'<H'.size):=by
 have hlt:∀ c∈ι.own i,c<H.size∧c<H'.size:=fun c hc=>by
  have h1:=ho.own_lt he hc
  refine ⟨h1,?_⟩
  have h2:=hH c (by cases e<;>simp [blks,hc])
  rw [Array.getElem?_eq_getElem h1] at h2
  exact (Array.getElem?_eq_some_iff.1 h2).1
 obtain ⟨O,hO,hR,hb,hnd,_,_,hfr⟩:=ho.see he hSl
 have hroot:cellsAt (VH H' ι i e) (VR H' ι i e).1 (VR H' ι i e).2 e.ty.size=cellsAt (VH H ι i e) (VR H ι i e).1 (VR H ι i e).2 e.ty.size:=by
  cases e with
  | var t x=>exact cellsAt_congr (hH _ (by simp [blks,VR])) _ _
  | own t x=>simp only [VH,VR,cellsAt,gh_blk]
  | bag=>exact absurd rfl he
 have hown:∀ c∈O,(VH H' ι i e)[c]?=(VH H ι i e)[c]?:=fun c hc=>by
  have hc:=hO.mem_iff.1 hc
  rw [VH_old (hlt c hc).2,VH_old (hlt c hc).1]
  exact hH c (by cases e<;>simp [blks,hc])
 rcases nav_move hR hb hok hroot hown hg with ⟨k,h1,h2,h3⟩|⟨b,o,h1,h2,h3⟩
 ·refine ⟨_,_,_,_,(Place_eq he).trans h1,(Place_eq he).trans h2,?_,?_,?_⟩
  ·have e0:∀ (K:Array Go.Obj) (r:Nat×Nat),cellsAt K r.1 (r.2+k) u.size=((cellsAt K r.1 r.2 e.ty.size).drop k).take u.size:=by
    intro K r
    rw [cellsAt_drop,cellsAt_take _ _ _ _ (by omega)]
   rw [e0,e0,hroot]
  ·intro hbl
   cases e with
   | var t x =>
    refine ⟨rfl,rfl,?_⟩
    have h2:=hH (ι.root i).1 (by simp [blks])
    have hbl:(ι.root i).1<H.size:=hbl
    rw [Array.getElem?_eq_getElem hbl] at h2
    exact (Array.getElem?_eq_some_iff.1 h2).1
   | own t x=>simp [VR] at hbl
   | bag=>exact absurd rfl he
  ·intro hbl
   cases e with
   | var t x=>exact absurd hfr.lt hbl
   | own t x=>simp [VR]
   | bag=>exact absurd rfl he
 ·have hc:=hO.mem_iff.1 h3
  refine ⟨b,o,b,o,(Place_eq he).trans h1,(Place_eq he).trans h2,?_,fun _=>⟨rfl,rfl,(hlt b hc).2⟩,fun hbl=>absurd (hlt b hc).1 hbl⟩
  exact cellsAt_congr (hown b h3) _ _

theorem Loc_stable {i:Nat} {e:Ent} (he:e≠.bag) (ho:OB H S ι i e) (hSl:∀ c,S c→c<H.size) (hH:∀ b,b∈blks ι i e→H'[b]?=H[b]?) {p:List Step} (hok:okP e.ty e.x p) {r:Nat×Nat} (h:Loc H ι i e p=some r):Loc H' ι i e p=some r:=by
 obtain ⟨u,y,hg⟩:=getP_some hok
 obtain ⟨b,off,b',off',h1,h2,h3,h4,h5⟩:=Place_stable (H':=H') he ho hSl hH hok hg
 obtain ⟨k1,k2⟩:=Loc_place (b:=r.1) (off:=r.2) h
 rw [h1] at k1; cases k1
 obtain ⟨rfl,rfl,h6⟩:=h4 k2
 exact Loc_of h2 h6

theorem Cells_stable {i:Nat} {e:Ent} (he:e≠.bag) (ho:OB H S ι i e) (hSl:∀ c,S c→c<H.size) (hH:∀ b,b∈blks ι i e→H'[b]?=H[b]?) {p:List Step} (hok:okP e.ty e.x p) {u:Ty} {y:u.den} (hg:getP e.ty e.x p=some ⟨u,y⟩)
  {cs:List Value} (h:Cells H ι i e p u cs):Cells H' ι i e p u cs:=by
 obtain ⟨b0,off0,k1,k2⟩:=h
 obtain ⟨b,off,b',off',h1,h2,h3,h4,h5⟩:=Place_stable (H':=H') he ho hSl hH hok hg
 rw [h1] at k1; cases k1
 exact ⟨b',off',h2,k2.trans h3.symm⟩

theorem Loc_bag {i:Nat} {e:Ent} {p:List Step} {r:Nat×Nat} (h:Loc H ι i e p=some r):e≠.bag:=Place_bag (Loc_place (b:=r.1) (off:=r.2) h).1
theorem Cells_bag {i:Nat} {e:Ent} {p:List Step} {u:Ty} {cs:List Value} (h:Cells H ι i e p u cs):e≠.bag:=by obtain ⟨_,_,h,_⟩:=h; exact Place_bag h

theorem VX.grow (hH:∀ b,(∃ i e,look i hp=some e∧b∈blks ι i e)∨S b→H'[b]?=H[b]?) (hS:∀ b,S b→S' b) (hSl:∀ c,S c→c<H.size) (hob:∀ i e,look i hp=some e→OB H S ι i e) {v:AV} {vs:List Value} (h:VX H S ι hp v vs) :
  VX H' S' ι hp v vs:=by
 have:=VX.map (H':=H') (S':=S') (ι':=ι) (hp':=hp) (f:=fun u=>u) (fun b hb=>hH b (.inr hb)) hS ?_ h
 ·rwa [AV.map_id] at this
 ·intro u vs hu _ h
  cases u<;>simp only [AV.ref] at hu<;>try cases hu
  ·obtain ⟨e,b,off,h1,h2,h3,h4⟩:=h
   exact ⟨e,b,off,h1,h2,Loc_stable (Loc_bag h3) (hob _ e h1) hSl (fun b hb=>hH b (.inl ⟨_,e,h1,hb⟩)) h2 h3,h4⟩
  ·obtain ⟨e,u,y,cs,h1,h2,h3,h4,h5⟩:=h
   exact ⟨e,u,y,cs,h1,h2,h3,Cells_stable (Cells_bag h4) (hob _ e h1) hSl (fun b hb=>hH b (.inl ⟨_,e,h1,hb⟩)) h2 h3 h4,h5⟩
  ·obtain ⟨e,v,h1,h2,h3,h4,h5,h6⟩:=h
   refine ⟨e,v,h1,h2,h3,h4,h5,?_⟩
   rcases h6 with ⟨t,l,a,cap,k1,k2,k3,k4⟩|⟨n,t,l,b,off,k1,k2,k3,k4⟩
   ·exact .inl ⟨t,l,a,cap,k1,k2,Cells_stable (Cells_bag k3) (hob _ e h1) hSl (fun b hb=>hH b (.inl ⟨_,e,h1,hb⟩)) h2 k1 k3,k4⟩
   ·exact .inr ⟨n,t,l,b,off,k1,k2,Loc_stable (Loc_bag k3) (hob _ e h1) hSl (fun b hb=>hH b (.inl ⟨_,e,h1,hb⟩)) h2 k3,k4⟩

end
end Go.Ex

namespace Go.Ex

/-! ### types against the table: what the check gives -/
theorem zc_sh:∀ t:Ty,zc t.sh=zc t:=by
 intro t
 induction t with
 | pair a b iha ihb=>simp only [Ty.sh,zc,iha,ihb]
 | arr n t ih=>simp only [Ty.sh,zc,ih]
 | _=>rfl

theorem agg_sh (t:Ty):t.sh.agg=t.agg:=by cases t<;>rfl

theorem zc_er {u t:Ty} (h:u.sh=t.sh):zc u=zc t:=by rw [← zc_sh u,h,zc_sh]
theorem agg_er {u t:Ty} (h:u.sh=t.sh):u.agg=t.agg:=by rw [← agg_sh u,h,agg_sh]
theorem toV_er {u t:Ty} (h:u.sh=t.sh) (cs:List Value):toV u cs=toV t cs:=by simp only [toV,agg_er h]

theorem al_sh:∀ t:Ty,t.sh.al=t.al:=by
 intro t
 induction t with
 | pair a b iha ihb=>simp only [Ty.sh,Ty.al,iha,ihb]
 | arr n t ih=>simp only [Ty.sh,Ty.al,ih]
 | _=>rfl

theorem wb_sh:∀ t:Ty,t.sh.wb=t.wb∧∀ o,t.sh.offs o=t.offs o:=by
 intro t
 induction t with
 | pair a b iha ihb=>refine ⟨?_,fun o=>?_⟩<;>simp only [Ty.sh,Ty.wb,Ty.offs,iha.1,ihb.2,al_sh]
 | arr n t ih=>refine ⟨?_,fun o=>rfl⟩; simp only [Ty.sh,Ty.wb,ih.1]
 | slc o t ih=>exact ⟨rfl,fun o=>rfl⟩
 | _=>exact ⟨rfl,fun o=>rfl⟩

theorem wb_er {u t:Ty} (h:u.sh=t.sh):u.wb=t.wb:=by rw [← (wb_sh u).1,h,(wb_sh t).1]

theorem zc_length:∀ t:Ty,(zc t).length=t.size:=by
 intro t
 induction t with
 | pair a b iha ihb=>simp only [zc,Ty.size,List.length_append,iha,ihb]
 | arr n t ih=>simp [zc,Ty.size,ih]
 | _=>rfl

theorem zc_unM:∀ t:Ty,zc t.unM=zc t:=by
 intro t
 induction t with
 | pair a b iha ihb=>simp only [Ty.unM,zc,iha,ihb]
 | arr n t ih=>simp only [Ty.unM,zc,ih]
 | _=>rfl
theorem agg_unM (t:Ty):t.unM.agg=t.agg:=by cases t<;>rfl
theorem toV_unM (t:Ty) (cs:List Value):toV t.unM cs=toV t cs:=by simp only [toV,agg_unM]
theorem al_unM:∀ t:Ty,t.unM.al=t.al:=by
 intro t
 induction t with
 | pair a b iha ihb=>simp only [Ty.unM,Ty.al,iha,ihb]
 | arr n t ih=>simp only [Ty.unM,Ty.al,ih]
 | _=>rfl
theorem wb_unM:∀ t:Ty,t.unM.wb=t.wb∧∀ o,t.unM.offs o=t.offs o:=by
 intro t
 induction t with
 | pair a b iha ihb=>refine ⟨?_,fun o=>?_⟩<;>simp only [Ty.unM,Ty.wb,Ty.offs,iha.1,ihb.2,al_unM]
 | arr n t ih=>refine ⟨?_,fun o=>rfl⟩; simp only [Ty.unM,Ty.wb,ih.1]
 | _=>exact ⟨rfl,fun o=>rfl⟩
theorem size_unM:∀ t:Ty,t.unM.size=t.size:=by
 intro t
 induction t with
 | pair a b iha ihb=>simp only [Ty.unM,Ty.size,iha,ihb]
 | arr n t ih=>simp only [Ty.unM,Ty.size,ih]
 | _=>rfl

section
variable {P:Program}

theorem tyOk_unM:∀ {n:Nat} {T:TypeId} {t:Ty},tyOk P n T t.unM=true→tyOk P n T t=true:=by
 intro n
 induction n with
 | zero=>intro T t h; simp [tyOk] at h
 | succ n ih =>
  intro T t h
  have hfs:∀ (fs:List Field) (off:Nat) (t:Ty),fieldsOk (tyOk P n) fs off t.unM=true→fieldsOk (tyOk P n) fs off t=true:=by
   intro fs
   induction fs with
   | nil =>
    intro off t h
    cases t<;>simp [fieldsOk,Ty.unM] at h
    rfl
   | cons f fs ihf =>
    intro off t h
    cases t<;>simp [fieldsOk,Ty.unM] at h
    rename_i a b
    have h2:=ih h.1.1.2
    have h3:=ihf _ _ h.2
    rw [size_unM] at h h3
    simp only [fieldsOk,Bool.and_eq_true]
    refine ⟨⟨⟨⟨?_,?_⟩,h2⟩,?_⟩,h3⟩<;>simp [h.1]
  simp only [tyOk,Bool.and_eq_true] at h ⊢
  obtain ⟨h1,h2⟩:=h
  refine ⟨?_,?_⟩
  ·rw [size_unM,(wb_unM t).1,toV_unM,zc_unM] at h1; exact h1
  ·cases hu:P.underlying T with
   | none=>simp [hu] at h2
   | some d =>
    cases t with
    | box o g t=>cases g<;>cases d<;>simp only [hu,Ty.unM] at h2 ⊢<;>first|exact (Bool.false_ne_true h2).elim|exact h2|exact ih h2|exact hfs _ _ _ h2
    | _ =>
     cases d<;>simp only [hu,Ty.unM] at h2 ⊢<;>first|exact (Bool.false_ne_true h2).elim|exact h2|exact hfs _ _ _ h2|skip
     all_goals (simp only [Bool.and_eq_true,size_unM] at h2; simp only [Bool.and_eq_true]; exact ⟨h2.1,ih h2.2⟩)

theorem tyOk_sh:∀ {n:Nat} {T:TypeId} {t u:Ty},u.sh=t.sh→tyOk P n T t=true→tyOk P n T u=true:=by
 intro n
 induction n with
 | zero=>intro T t u _ h; simp [tyOk] at h
 | succ n ih =>
  intro T t u hs h
  have hfs:∀ (fs:List Field) (off:Nat) (t u:Ty),u.sh=t.sh→fieldsOk (tyOk P n) fs off t=true→fieldsOk (tyOk P n) fs off u=true:=by
   intro fs
   induction fs with
   | nil =>
    intro off t u hs h
    cases t<;>simp [fieldsOk] at h
    cases u<;>simp only [Ty.sh] at hs<;>try cases hs
    rfl
   | cons f fs ihf =>
    intro off t u hs h
    cases t<;>simp [fieldsOk] at h
    rename_i a b
    cases u<;>simp only [Ty.sh] at hs<;>try cases hs
    rename_i a' b'
    simp only [Ty.pair.injEq] at hs
    have h2:=ih hs.1 h.1.1.2
    have h3:=ihf _ _ _ hs.2 h.2
    simp only [fieldsOk,size_er hs.1,Bool.and_eq_true]
    refine ⟨⟨⟨⟨?_,?_⟩,h2⟩,?_⟩,h3⟩<;>simp [h.1]
  simp only [tyOk,Bool.and_eq_true] at h ⊢
  obtain ⟨h1,h2⟩:=h
  refine ⟨?_,?_⟩
  ·rw [size_er hs,wb_er hs,toV_er hs,zc_er hs]; exact h1
  ·cases t with
   | pair a b =>
    cases u<;>simp only [Ty.sh] at hs<;>try cases hs
    rename_i a' b'
    have hs':(Ty.pair a' b').sh=(Ty.pair a b).sh:=hs
    cases hu:P.underlying T with
    | none=>simp [hu] at h2
    | some d =>
     cases d<;>simp only [hu] at h2 ⊢<;>first|exact (Bool.false_ne_true h2).elim|skip
     exact hfs _ _ _ _ hs' h2
   | unit =>
    cases u<;>simp only [Ty.sh] at hs<;>try cases hs
    exact h2
   | arr m t =>
    cases u<;>simp only [Ty.sh] at hs<;>try cases hs
    rename_i m' t'
    simp only [Ty.arr.injEq] at hs
    cases hu:P.underlying T with
    | none=>simp [hu] at h2
    | some d =>
     cases d<;>simp only [hu] at h2 ⊢<;>first|exact (Bool.false_ne_true h2).elim|skip
     ·simp only [Bool.and_eq_true] at h2 ⊢
      rw [hs.1,size_er hs.2]
      exact ⟨h2.1,ih hs.2 h2.2⟩
     ·exact hfs _ _ _ _ (by simp only [Ty.sh,hs]) h2
   | slc o t =>
    cases u<;>simp only [Ty.sh] at hs<;>try cases hs
    ·rename_i o' t'
     simp only [Ty.slc.injEq] at hs
     cases hu:P.underlying T with
     | none=>simp [hu] at h2
     | some d =>
      cases d<;>simp only [hu] at h2 ⊢<;>first|exact (Bool.false_ne_true h2).elim|skip
      ·simp only [Bool.and_eq_true] at h2 ⊢
       rw [size_er hs.2]
       exact ⟨h2.1,ih hs.2 h2.2⟩
      ·exact hfs _ _ _ _ (by simp only [Ty.sh,hs]) h2
    ·rename_i t'
     simp only [Ty.slc.injEq] at hs
     cases hu:P.underlying T with
     | none=>simp [hu] at h2
     | some d =>
      cases d<;>simp only [hu] at h2 ⊢<;>first|exact (Bool.false_ne_true h2).elim|skip
      ·simp only [Bool.and_eq_true] at h2 ⊢
       rw [size_er hs.2]
       exact ⟨h2.1,ih hs.2 h2.2⟩
      ·exact hfs _ _ _ _ (by simp only [Ty.sh,hs]) h2
   | hole t =>
    cases u<;>simp only [Ty.sh] at hs<;>try cases hs
    ·rename_i o' t'
     simp only [Ty.slc.injEq] at hs
     cases hu:P.underlying T with
     | none=>simp [hu] at h2
     | some d =>
      cases d<;>simp only [hu] at h2 ⊢<;>first|exact (Bool.false_ne_true h2).elim|skip
      ·simp only [Bool.and_eq_true] at h2 ⊢
       rw [size_er hs.2]
       exact ⟨h2.1,ih hs.2 h2.2⟩
      ·exact hfs _ _ _ _ (by simp only [Ty.sh,hs]) h2
    ·rename_i t'
     simp only [Ty.slc.injEq] at hs
     cases hu:P.underlying T with
     | none=>simp [hu] at h2
     | some d =>
      cases d<;>simp only [hu] at h2 ⊢<;>first|exact (Bool.false_ne_true h2).elim|skip
      ·simp only [Bool.and_eq_true] at h2 ⊢
       rw [size_er hs.2]
       exact ⟨h2.1,ih hs.2 h2.2⟩
      ·exact hfs _ _ _ _ (by simp only [Ty.sh,hs]) h2
   | msl t =>
    cases u<;>simp only [Ty.sh] at hs<;>try cases hs
    rename_i t'
    simp only [Ty.msl.injEq] at hs
    cases hu:P.underlying T with
    | none=>simp [hu] at h2
    | some d =>
     cases d<;>simp only [hu] at h2 ⊢<;>first|exact (Bool.false_ne_true h2).elim|skip
     ·simp only [Bool.and_eq_true] at h2 ⊢
      rw [size_er hs]
      exact ⟨h2.1,ih hs h2.2⟩
     ·exact hfs _ _ _ _ (by simp only [Ty.sh,hs]) h2
   | map o k v =>
    cases u<;>simp only [Ty.sh] at hs<;>try cases hs
    cases hu:P.underlying T with
    | none=>simp [hu] at h2
    | some d =>
     cases d<;>simp only [hu] at h2 ⊢<;>first|exact (Bool.false_ne_true h2).elim|exact h2|skip
     ·exact hfs _ _ (.map o k v) _ rfl h2
   | box o g t =>
    cases u<;>simp only [Ty.sh] at hs<;>try cases hs
    rename_i o' g' t'
    simp only [Ty.box.injEq] at hs
    obtain ⟨_,rfl,hs⟩:=hs
    cases hu:P.underlying T with
    | none=>simp [hu] at h2
    | some d =>
     cases g'<;>cases d<;>simp only [hu] at h2 ⊢<;>first|exact (Bool.false_ne_true h2).elim|exact ih hs h2|exact hfs _ _ _ _ (by simp only [Ty.sh,hs]) h2|trivial
   | _ =>
    cases u<;>simp only [Ty.sh] at hs<;>try cases hs
    exact h2

theorem eqS_eq:∀ {a b:Value},eqS a b=true→a=b:=by
 intro a b h
 unfold eqS at h
 split at h
 ·simp at h; rw [h.1,h.2]
 ·simp at h; rw [h]
 ·rename_i a b
  cases a; cases b
  simp at h
  rw [h.1,h.2]
 ·rename_i a b c d
  simp only [Bool.and_eq_true] at h
  have h1:=Nat.eq_of_beq_eq_true h.1
  have h2:=Nat.eq_of_beq_eq_true h.2
  rw [h1,h2]
 ·rfl
 ·rfl
 ·rfl
 ·cases h

theorem eqL_eq:∀ {a b:List Value},eqL a b=true→a=b
 | [],[],_=>rfl
 | a::l,b::m,h=>by
  simp only [eqL,Bool.and_eq_true] at h
  rw [eqS_eq h.1,eqL_eq h.2]
 | [],_::_,h=>by simp [eqL] at h
 | _::_,[],h=>by simp [eqL] at h

theorem eqV_eq {a b:Value} (h:eqV a b=true):a=b:=by
 unfold eqV at h
 split at h
 ·rename_i a b
  have:=eqL_eq h
  rw [show a=b from Array.toList_inj.1 this]
 ·exact eqS_eq h

theorem tyOk_info {n:Nat} {T:TypeId} {t:Ty} (h:tyOk P n T t=true):∃ i,P.info? T=some i∧i.size=t.size∧i.zero=some (toV t (zc t)):=by
 cases n with
 | zero=>simp [tyOk] at h
 | succ n =>
  simp only [tyOk,Bool.and_eq_true] at h
  obtain ⟨h1,_⟩:=h
  split at h1
  ·rename_i i hi
   simp only [Bool.and_eq_true] at h1
   refine ⟨i,hi,Nat.eq_of_beq_eq_true h1.1.1,?_⟩
   have h1:=h1.2
   split at h1
   ·rename_i z hz; rw [hz,eqV_eq h1]
   ·cases h1
  ·cases h1

theorem tyOk_bytes {n:Nat} {T:TypeId} {t:Ty} (h:tyOk P n T t=true) {i:TypeInfo} (hi:P.info? T=some i):i.bytes=t.wb:=by
 cases n with
 | zero=>simp [tyOk] at h
 | succ n =>
  simp only [tyOk,Bool.and_eq_true] at h
  have h1:=h.1
  rw [hi] at h1
  simp only [Bool.and_eq_true] at h1
  exact Nat.eq_of_beq_eq_true h1.1.2

theorem tyOk_agg {n:Nat} {T:TypeId} {t:Ty} (h:tyOk P n T t=true):∃ d,P.underlying T=some d∧t.agg=(match d with|.struct _=>true|.array _ _=>true|_=>false):=by
 cases n with
 | zero=>simp [tyOk] at h
 | succ n =>
  simp only [tyOk,Bool.and_eq_true] at h
  obtain ⟨_,h2⟩:=h
  cases hu:P.underlying T with
  | none=>simp [hu] at h2
  | some d =>
   refine ⟨d,rfl,?_⟩
   cases d<;>simp only [hu] at h2
   case struct fs =>
    cases hf:fs.toList with
    | nil=>rw [hf] at h2; cases t<;>simp [fieldsOk] at h2; rfl
    | cons f l=>rw [hf] at h2; cases t<;>simp [fieldsOk] at h2; rfl
   all_goals cases t<;>first|rfl|(exact (Bool.false_ne_true h2).elim)

variable {w:World}
theorem run_sizeOf {n:Nat} {T:TypeId} {t:Ty} (h:tyOk P n T t=true):(sizeOf T).run P w=.ok t.size w:=by
 obtain ⟨i,h1,h2,_⟩:=tyOk_info h
 simp [sizeOf,typeInfo,program,Sem.run,h1,h2]

theorem run_zero {n:Nat} {T:TypeId} {t:Ty} (h:tyOk P n T t=true):(zeroValue T).run P w=.ok (toV t (zc t)) w:=by
 obtain ⟨i,h1,_,h3⟩:=tyOk_info h
 simp [zeroValue,typeInfo,program,Sem.run,h1,h3]

theorem run_under {T:TypeId} {d:TypeDesc} (h:P.underlying T=some d):(underlying T).run P w=.ok d w:=by
 simp [underlying,program,Sem.run,h]

theorem run_isAgg {n:Nat} {T:TypeId} {t:Ty} (h:tyOk P n T t=true):(isAgg T).run P w=.ok t.agg w:=by
 obtain ⟨d,h1,h2⟩:=tyOk_agg h
 rw [h2]
 simp only [isAgg,Sem.run_bind,run_under h1,Result.andThen]
 cases d<;>rfl

end

section
variable {H:Array Go.Obj} {S:Nat→Prop}
theorem Rep.dflt:∀ t:Ty,Rep H S t [] (zc t) t.dflt:=by
 intro t
 induction t with
 | int k=>exact ⟨rfl,rfl,by unfold inK; cases k<;>decide⟩
 | bool=>exact ⟨rfl,rfl⟩
 | str=>exact ⟨rfl,rfl,Nat.zero_le _⟩
 | unit=>exact ⟨rfl,rfl⟩
 | fn f=>exact ⟨rfl,rfl⟩
 | hole t _=>exact ⟨rfl,_,rfl,rfl⟩
 | msl t _=>exact .inl ⟨rfl,⟨none,0,rfl,fun _=>rfl⟩,rfl⟩
 | map o k v=>exact .inl ⟨rfl,rfl,rfl⟩
 | box o g t=>exact .inl ⟨rfl,rfl,rfl⟩
 | pair a b iha ihb =>
  refine ⟨[],[],rfl,?_,?_⟩
  ·simp only [zc,← zc_length a,List.take_left']; exact iha
  ·simp only [zc,← zc_length a,List.drop_left']; exact ihb
 | arr n t ih =>
  refine ⟨by simp [Ty.dflt],?_⟩
  simp only [Ty.dflt,zc]
  induction n with
  | zero=>exact ⟨rfl,rfl⟩
  | succ n ihn =>
   refine ⟨[],[],rfl,?_,?_⟩
   ·rw [List.replicate_succ,List.flatten_cons,List.take_left' (zc_length t)]; exact ih
   ·rw [List.replicate_succ,List.flatten_cons,List.drop_left' (zc_length t)]; exact ihn
 | slc o t _=>exact .inl ⟨rfl,⟨none,0,rfl,fun _=>rfl⟩,rfl⟩

theorem toV_cells {t:Ty} {cs:List Value} (h:cs.length=t.size) (hn:∀ c∈cs,∀ a,c≠.agg a):(toV t cs).cells=cs.toArray:=by
 unfold toV
 split
 ·rfl
 ·rename_i hg
  have:cs.length=1:=by rw [h]; cases t<;>simp_all [Ty.agg,Ty.size]
  match cs,this with
  | [c],_ =>
   simp only [List.headD_cons]
   have:=hn c (by simp)
   cases c<;>simp_all [Value.cells]

def Plain (v:Value):Prop:=v.oneCell'=true∧∀ a,v≠.agg a

theorem RepL.plain {α:Type} {R:List Nat→List Value→α→Prop} {sz:Nat} (hR:∀ O cs x,R O cs x→∀ c∈cs,Plain c):∀ {l:List α} {O:List Nat} {cs:List Value},RepL R sz O cs l→∀ c∈cs,Plain c
 | [],_,_,⟨_,h⟩=>by rw [h]; simp
 | _::_,_,cs,⟨O1,O2,_,h1,h2⟩=>by
  intro c hc
  rw [← List.take_append_drop sz cs] at hc
  rcases List.mem_append.1 hc with h|h
  ·exact hR _ _ _ h1 c h
  ·exact RepL.plain hR h2 c h

theorem Rep.plain:∀ {t:Ty} {O:List Nat} {cs:List Value} {x:t.den},Rep H S t O cs x→∀ c∈cs,Plain c:=by
 intro t
 induction t with
 | int k=>rintro O cs x ⟨_,rfl,_⟩ c hc; simp at hc; subst hc; exact ⟨rfl,by simp⟩
 | bool=>rintro O cs x ⟨_,rfl⟩ c hc; simp at hc; subst hc; exact ⟨rfl,by simp⟩
 | str=>rintro O cs x ⟨_,rfl,_⟩ c hc; simp at hc; subst hc; exact ⟨rfl,by simp⟩
 | unit=>rintro O cs x ⟨_,rfl⟩ c hc; simp at hc
 | fn f =>
  rintro O cs x ⟨_,rfl⟩ c hc
  simp at hc; subst hc
  cases x<;>exact ⟨rfl,by simp [fnV]⟩
 | hole t _ =>
  rintro O cs x ⟨_,v,rfl,hv⟩ c hc
  simp at hc; subst hc
  cases c<;>first|exact ⟨rfl,by simp⟩|exact absurd hv (by simp [isSl])
 | msl t _ =>
  rintro O cs ⟨n,l,m⟩ h c hc
  match n,h with
  | 0,h=>rcases h with ⟨_,⟨_,_,rfl,_⟩,_⟩|⟨b,off,cap,O',rfl,_⟩<;>(simp at hc; subst hc; exact ⟨rfl,by simp⟩)
  | 1,h=>rcases h with ⟨_,⟨_,_,rfl,_⟩,_⟩|⟨b,off,cap,O',rfl,_⟩<;>(simp at hc; subst hc; exact ⟨rfl,by simp⟩)
  | n+2,⟨b,off,O',h1,_⟩=>rw [h1] at hc; simp at hc; subst hc; exact ⟨rfl,by simp⟩
 | map o k v =>
  rintro O cs x (⟨_,_,rfl⟩|⟨l,b,es,ck,_,rfl,_⟩) c hc<;>(simp at hc; subst hc; exact ⟨rfl,by simp⟩)
 | box o g t =>
  rintro O cs x (⟨_,_,rfl⟩|⟨y,b,off,O',_,rfl,_⟩) c hc<;>(simp at hc; subst hc; cases g<;>exact ⟨rfl,by simp [boxV,boxN]⟩)
 | pair a b iha ihb =>
  rintro O cs x ⟨O1,O2,_,h1,h2⟩ c hc
  rw [← List.take_append_drop a.size cs] at hc
  rcases List.mem_append.1 hc with h|h
  ·exact iha h1 c h
  ·exact ihb h2 c h
 | arr n t ih=>rintro O cs x ⟨_,h⟩; exact RepL.plain (fun _ _ _ h=>ih h) h
 | slc o t _ =>
  rintro O cs x h c hc
  rcases h with ⟨_,⟨_,_,rfl,_⟩,_⟩|⟨b,off,cap,O',rfl,_⟩<;>(simp at hc; subst hc; exact ⟨rfl,by simp⟩)

theorem Rep.cells {t:Ty} {O:List Nat} {cs:List Value} {x:t.den} (h:Rep H S t O cs x):(toV t cs).cells=cs.toArray :=
 toV_cells h.length fun c hc=>(h.plain c hc).2

end
end Go.Ex
