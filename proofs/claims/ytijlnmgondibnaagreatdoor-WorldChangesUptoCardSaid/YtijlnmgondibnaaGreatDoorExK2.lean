import Derived.Test.YtijlnmgondibnaaGreatDoorExK1
import Derived.Laws.Entries
set_option linter.unusedVariables false
set_option linter.unusedSimpArgs false
set_option linter.unusedSectionVars false
namespace Go.Ex
def look {α:Type _} (n:Nat):List (Nat×α)->Option α
 | []=>none
 | (m,x)::l=>match Nat.beq n m with|true=>some x|false=>look n l
def put {α:Type _} (n:Nat) (x:α) (l:List (Nat×α)):List (Nat×α) :=
 match l with
 | []=>[(n,x)]
 | (m,y)::l=>match Nat.beq n m with
  | true=>(n,x)::l
  | false=>match Nat.blt n m with
   | true=>(n,x)::(m,y)::l
   | false=>(m,y)::put n x l
def del {α:Type _} (n:Nat):List (Nat×α)->List (Nat×α)
 | []=>[]
 | (m,y)::l=>match Nat.beq n m with|true=>del n l|false=>(m,y)::del n l
structure TI where
 ty:Ty
 by_:Nat
def zc:Ty->List Value
 | .int k=>[.int k 0]
 | .bool=>[.bool false]
 | .str=>[.string ⟨#[]⟩]
 | .unit=>[]
 | .fn f=>[fnV f false]
 | .map _ _ _=>[.map none]
 | .box _ g _=>[Dc g]
 | .pair a b=>zc a++zc b
 | .arr n t=>(List.replicate n (zc t)).flatten
 | .d0 _ _|.hole _|.B9 _=>[.slice none 0 0]
def eqS:Value->Value->Bool
 | .int k n,.int k' n'=>decide (k=k') && decide (n=n')
 | .bool a,.bool b=>a == b
 | .string a,.string b=>a.data.size == 0 && b.data.size == 0
 | .slice none a b,.slice none c d=>Nat.beq a c && Nat.beq b d
 | .nilFunc,.nilFunc=>true
 | .map none,.map none=>true
 | .pointer none,.pointer none=>true
 | _,_=>false
def eqL:List Value->List Value->Bool
 | [],[]=>true
 | a::l,b::m=>eqS a b && eqL l m
 | _,_=>false
def eqV:Value->Value->Bool
 | .agg a,.agg b=>eqL a.toList b.toList
 | a,b=>eqS a b
def Ty.al:Ty->Nat
 | .int k=>k.bits / 8
 | .bool=>1
 | .str|.d0 _ _|.fn _|.map _ _ _|.box _ _ _|.hole _|.B9 _=>8
 | .unit=>1
 | .pair a b=>Nat.max a.al b.al
 | .arr _ t=>t.al
def rup (n a:Nat):Nat:=(n+(a - 1)) / a*a
mutual
def Ty.wb:Ty->Nat
 | .int k=>k.bits / 8
 | .bool=>1
 | .str=>16
 | .d0 _ _|.hole _|.B9 _=>24
 | .fn _=>8
 | .map _ _ _=>8
 | .box _ _ _=>8
 | .unit=>0
 | .pair a b=>rup (b.yk (rup 0 a.al+a.wb)) (Nat.max a.al b.al)
 | .arr n t=>n*t.wb
def Ty.yk:Ty->Nat->Nat
 | .pair a b,o=>b.yk (rup o a.al+a.wb)
 | _,o=>o
end
def n6 (ck:TypeId->Ty->Bool):List Field->Nat->Ty->Bool
 | [],_,.unit=>true
 | f::fs,off,.pair a b=>Nat.beq f.offset off && Nat.ble 1 a.size && ck f.type a && f.name != "_" && n6 ck fs (off+a.size) b
 | _,_,_=>false
def o8 (P:Program):Nat->TypeId->Ty->Bool
 | 0,_,_=>false
 | n+1,T,t =>
  (match P.info? T with
  | some i=>Nat.beq i.size t.size && Nat.beq i.bytes t.wb && (match i.zero with|some z=>eqV z (l5 t (zc t))|none=>false)
  | none=>false) &&
  match P.underlying T,t with
  | some .bool,.bool=>true
  | some (.int k),.int k'=>decide (k=k')
  | some .string,.str=>true
  | some (.func _ _ _),.fn _=>true
  | some (.map K V),.map _ k v=>k.shared && v.shared && o8 P n K k && o8 P n V v
  | some (.pointer e),.box _ none t=>o8 P n e t
  | some (.func _ _ _),.box _ (some _) _=>true
  | some (.struct fs),t=>n6 (o8 P n) fs.toList 0 t
  | some (.array m e),.arr m' t=>Nat.beq m m' && Nat.ble 1 t.size && o8 P n e t
  | some (.slice e),.d0 _ t=>Nat.ble 1 t.size && o8 P n e t
  | some (.slice e),.hole t=>Nat.ble 1 t.size && o8 P n e t
  | some (.slice e),.B9 t=>Nat.ble 1 t.size && o8 P n e t
  | _,_=>false
def xC (P:Program) (x:TypeId×TI):Bool:=o8 P 100 x.1 x.2.ty && Nat.beq (P.bytesOf x.1) x.2.by_
inductive AV where
 | any
 | raw (v:Value)
 | val (t:Ty) (x:t.den)
 | ptr (i:Nat) (p:List Step)
 | M1 (t:Ty) (x:t.den)
 | at_ (i:Nat) (p:List Step)
 | sub (i:Nat) (p:List Step) (lo hi:Int)
 | nil
 | cons (a b:AV)
 | K6 (l:AV)
 | C7 (f:FuncId) (l:AV)
 | bx (l:AV)
 | rc (f:FuncId) (l:AV)
inductive i6 where
 | var (t:Ty) (x:t.den)
 | own (t:Ty) (x:t.den)
 | M0
def i6.ty:i6->Ty|.var t _=>t|.own t _=>t|.M0=>.unit
def i6.x:(e:i6)->e.ty.den|.var _ x=>x|.own _ x=>x|.M0=>()
def i6.E3 (e:i6) (r:Sigma Ty.den):i6:=match e with|.var _ _=>.var r.1 r.2|.own _ _=>.own r.1 r.2|.M0=>.M0
def i6.vB:i6->Bool|.own _ _=>true|_=>false
def i6.kd (e:i6):Bool×Ty:=(e.vB,e.ty)
structure St where
 fr:List (Nat×AV)
 hp:List (Nat×i6)
def St.get (s:St) (t:Nat):AV:=(look t s.fr).getD .any
def St.obj (s:St) (i:Nat):Option i6:=look i s.hp
def St.put (s:St) (d:Option Nat) (v:AV):St :=
 match d with
 | some t=>{ s with fr:=Ex.put t v s.fr }
 | none=>s
def AV.i8 (i:Nat):AV->Bool
 | .ptr j _|.at_ j _|.sub j _ _ _=>Nat.beq i j
 | .cons a b=>a.i8 i || b.i8 i
 | .K6 l|.C7 _ l|.bx l|.rc _ l=>l.i8 i
 | _=>false
def AV.map (f:AV->AV):AV->AV
 | .ptr j p=>f (.ptr j p)
 | .at_ j p=>f (.at_ j p)
 | .sub j p a b=>f (.sub j p a b)
 | .cons a b=>.cons (a.map f) (b.map f)
 | .K6 l=>.K6 (l.map f)
 | .C7 g l=>.C7 g (l.map f)
 | .bx l=>.bx (l.map f)
 | .rc g l=>.rc g (l.map f)
 | v=>v
def AV.drop (i:Nat):AV->AV:=AV.map λ v=>match v.i8 i with|true=>.any|false=>v
def AV.Bm (i:Nat) (ow:Bool×Ty) (q:List Step) (v:AV):AV :=
 match v.i8 i with
 | false=>v
 | true=>match v with
  | .ptr j p=>match kp q p with|true=>.ptr j p|false=>.any
  | .at_ j []=>match ow.1,q with
   | true,.idx _::_=>.at_ j []
   | _,_=>match kc ow.2 q [] with|true=>.at_ j []|false=>.any
  | .at_ j (st::p)=>match kc ow.2 q (st::p) && kp q (st::p) with|true=>.at_ j (st::p)|false=>.any
  | .sub j [] a b=>match ow.1,q with
   | true,.idx _::_=>.sub j [] a b
   | _,_=>.any
  | _=>.any
def AV.kill (i:Nat) (ow:Bool×Ty) (q:List Step):AV->AV:=AV.map (AV.Bm i ow q)
def mapA {α:Type _} (f:α->α):List (Nat×α)->List (Nat×α)
 | []=>[]
 | (n,x)::l=>(n,f x)::mapA f l
def St.drop (i:Nat) (s:St):St:={ fr:=mapA (AV.drop i) s.fr,hp:=del i s.hp }
def St.kill (i:Nat) (ow:Bool×Ty) (q:List Step) (s:St):St:={ s with fr:=mapA (AV.kill i ow q) s.fr }
def St.w9:List Nat->St->St
 | [],s=>s
 | i::l,s=>St.w9 l (s.drop i)
def St.w8 (s:St) (i:Nat) (e:i6):St:={ s with hp:=Ex.put i e s.hp }
def wu (i:Nat):List (Nat×AV)->Bool
 | []=>true
 | (_,v)::l=>!v.i8 i && wu i l
def St.fresh (s:St) (i:Nat):Bool:=(look i s.hp).isNone && wu i s.fr
inductive PK where
 | v (t:Ty)
 | rd (t:Ty)
 | C7 (f:FuncId) (ts:List Ty)
 | own (t:Ty)
 | rw (t:Ty)
 | mu (t:Ty)
 | W6
 | rcs (f:FuncId) (n:Nat)
 | el (q:List Step)
def DL:List Ty->Type
 | []=>Unit
 | t::ts=>t.den×DL ts
def PK.den:PK->Type
 | .v t=>t.den
 | .rd t=>t.den
 | .C7 _ ts=>DL ts
 | .own t=>t.den
 | .rw t=>t.den
 | .mu t=>List t.den
 | .W6=>Unit
 | .rcs _ _=>Unit
 | .el _=>Int
def DK:List PK->Type
 | []=>Unit
 | k::ks=>k.den×DK ks
def E8:List PK->List Ty
 | []=>[]
 | .rw t::ks=>t::E8 ks
 | .mu t::ks=>.d0 true t::E8 ks
 | _::ks=>E8 ks
def DL.app:{a b:List Ty}->DL a->DL b->DL (a++b)
 | [],_,_,y=>y
 | _::_,_,x,y=>(x.1,DL.app x.2 y)
structure p7 where
 ps:List PK
 rs:List Ty
 pre:DK ps->Prop
 fn:DK ps->DL rs
 out:DK ps->DL (E8 ps)
 new:Bool:=false
structure Env where
 P:Program
 tt:List (TypeId×TI)
 C9:List (FuncId×p7)
 res:List ResultVar
 rs:List Ty
 ps:List PK
 B8:List (Nat×List (Nat×Option Ty))
 nt:Nat
 keeps:List (FuncId×List (Option Nat)):=[]
 gp:Option (List Step):=none
inductive Tree (rs:List Ty) where
 | f8 (p:Prop) (t:Tree rs)
 | both (p:Prop) (a b:Tree rs)
 | cut (c:Code) (k:List Item) (s:St)
 | ret (y:DL rs)
 | stuck (why:String)
def Tree.holds {rs:List Ty} (L:Code->List Item->St->Prop) (R:DL rs->Prop):Tree rs->Prop
 | .f8 p t=>p/\(p->t.holds L R)
 | .both p a b=>(p->a.holds L R)/\b.holds L R
 | .cut c k s=>L c k s
 | .ret y=>R y
 | .stuck _=>False
inductive OR where
 | fail (why:String)
 | ok (v:AV) (s:St)
 | F8 (p:Prop) (v:AV) (s:St)
theorem E9:∀ t:Ty,t.sh.den=t.den:=by
 intro t
 induction t with
 | pair a b iha ihb=>simp only [Ty.sh,Ty.den,iha,ihb]
 | arr n t ih=>simp only [Ty.sh,Ty.den,ih]
 | d0 o t ih=>simp only [Ty.sh,Ty.den,ih]
 | hole t ih=>simp only [Ty.sh,Ty.den,ih]
 | B9 t ih=>simp only [Ty.sh,Ty.den,ih]
 | box o g t ih=>simp only [Ty.sh,Ty.den,ih]
 | _=>rfl
theorem BS:∀ t:Ty,t.shH.den=t.den:=by
 intro t
 induction t with
 | pair a b iha ihb=>simp only [Ty.shH,Ty.den,iha,ihb]
 | d0 o t ih=>simp only [Ty.shH,Ty.den,E9]
 | B9 t ih=>simp only [Ty.shH,Ty.den,E9]
 | arr n t ih=>simp only [Ty.shH,Ty.den,E9]
 | box o g t ih=>simp only [Ty.shH,Ty.den,E9]
 | _=>rfl
def AV.as (t:Ty):AV->Option t.den
 | .val u x=>if h:u=t then some (h▸x) else none
 | .raw (.slice none 0 0)=>match t with
  | .d0 _ _=>some []
  | _=>none
 | _=>none
def St.part (s:St) (i:Nat) (p:List Step):Option (Sigma Ty.den) :=
 match s.obj i with
 | some e=>j9 e.ty e.x p
 | none=>none
def Ty.rdT:Ty->Ty
 | .pair a b=>.pair a.rdT b.rdT
 | .arr n t=>.arr n t.rdT
 | .d0 _ t=>.d0 false t.rdT
 | .B9 t=>.d0 false t.sh
 | t=>t.sh
def Ty.okM:Ty->Bool
 | .pair a b=>a.okM && b.okM
 | .arr _ t=>t.okM
 | .d0 _ t=>t.okM
 | .B9 t=>t.W4
 | t=>t.W4
theorem IT:∀ t:Ty,t.W4=true->t.rdT=t.sh:=by
 intro t
 induction t with
 | pair a b iha ihb=>intro h; simp only [Ty.W4,aAa] at h; simp only [Ty.rdT,Ty.sh,iha h.1,ihb h.2]
 | arr n t ih=>intro h; simp only [Ty.rdT,Ty.sh,ih h]
 | d0 o t ih=>intro h; simp only [Ty.rdT,Ty.sh,ih h]
 | B9 t ih=>intro h; cases h
 | _=>intro h; rfl
theorem xT {t:Ty} (h:t.W4=true):t.den=t.rdT.den:=by rw [IT t h,E9]
def rdV:(t:Ty)->t.den->t.rdT.den
 | .pair a b,x=>(rdV a x.1,rdV b x.2)
 | .arr _ t,l=>if h:t.W4=true then cast (congrArg List (xT h)) l else List.map (rdV t) l
 | .d0 _ t,l=>if h:t.W4=true then cast (congrArg List (xT h)) l else List.map (rdV t) l
 | .B9 t,x=>cast (congrArg List (E9 t).symm) x.2.1
 | .int _,x=>x
 | .bool,x=>x
 | .str,x=>x
 | .unit,x=>x
 | .fn _,x=>x
 | .map _ _ _,x=>x
 | .box _ _ t,x=>cast (congrArg Option (E9 t).symm) x
 | .hole t,x=>cast (congrArg List (E9 t).symm) x
def shF (n:Nat):Nat:=match n with|0=>0|1=>0|_=>3
def rdS (a t:Ty) (x:(Ty.B9 a).den):Option t.den :=
 match t with
 | .B9 b=>if h:a.sh=b then (match a.W4 with
  | true=>some (shF x.1,h▸cast (congrArg List (E9 a).symm) x.2.1,h▸cast (congrArg List (E9 a).symm) x.2.2)
  | false=>none) else none
 | _=>none
def rdM (t:Ty) (u:Ty) (y:u.den):Option t.den :=
 match u.okM with
 | true=>if h:u.rdT=t then some (h▸rdV u y) else (match u,y with
  | .B9 a,y=>rdS a t y
  | _,_=>none)
 | false=>none
def xN (t:Ty) (r:Option (Sigma Ty.den)):Option t.den :=
 match r with
 | some ⟨u,y⟩=>match u.okH with
  | true=>if h:u.shH=t then some (cast ((BS u).symm.trans (congrArg Ty.den h)) y) else none
  | false=>rdM t u y
 | none=>none
def xL (u:Ty) (r:Sigma Ty.den):Sigma Ty.den :=
 match u,r with
 | .B9 a,⟨.d0 true b,z⟩=>if h:b=a then ⟨.B9 a,(1,h▸z,[])⟩ else ⟨.d0 true b,z⟩
 | .B9 a,⟨.d0 false b,z⟩=>if h:b=a then ⟨.B9 a,(0,h▸z,[])⟩ else ⟨.d0 false b,z⟩
 | _,r=>r
def Ty.zR:Ty->Bool
 | .B9 _=>true
 | .pair a b=>a.zR || b.zR
 | _=>false
def Q9:Ty->Sigma Ty.den->Sigma Ty.den
 | .B9 a,r=>xL (.B9 a) r
 | .pair a b,r=>match a.zR || b.zR,r with
  | true,⟨.pair c d,z⟩=>(match Q9 a ⟨c,z.1⟩,Q9 b ⟨d,z.2⟩ with
   | ⟨c',x⟩,⟨d',y⟩=>⟨.pair c' d',(x,y)⟩)
  | _,r=>r
 | _,r=>r
def St.vI (s:St) (t:Ty) (i:Nat) (p:List Step):Option t.den:=xN t (s.part i p)
def o5 {α:Type} (lo hi:Int) (l:List α):List α:=(l.drop lo.toNat).take (hi - lo).toNat
def St.view (s:St) (i:Nat) (p:List Step) (lo hi:Int):Option (Sigma λ t:Ty=>List t.den) :=
 match s.part i p with
 | some ⟨.d0 _ t,l⟩=>some ⟨t,o5 lo hi l⟩
 | some ⟨.arr _ t,l⟩=>some ⟨t,o5 lo hi l⟩
 | _=>none
def AV.asV (s:St) (t:Ty):AV->Option t.den
 | .at_ i p=>s.vI t i p
 | .sub i p lo hi=>match s.view i p lo hi with
  | some ⟨u,l⟩=>xN t (some ⟨.d0 true u,l⟩)
  | none=>none
 | .val u x=>if h:u=t then some (h▸x) else xN t (some ⟨u,x⟩)
 | v=>v.as t
def AV.asR (s:St) (t:Ty):AV->Option t.den
 | .ptr i p=>s.vI t i p
 | .M1 u x=>if h:u=t then some (h▸x) else none
 | .bx (.ptr i p)=>match t with
  | .box false none u=>(match s.vI u i p with
   | some x=>some (some x)
   | none=>none)
  | _=>none
 | _=>none
def AV.yf (s:St):(ts:List Ty)->AV->Option (DL ts)
 | [],.nil=>some ()
 | t::ts,.cons a b=>match a.asR s t,AV.yf s ts b with
  | some x,some y=>some (x,y)
  | _,_=>none
 | _,_=>none
def I8 {u t:Ty} (h:u=t) (x:u.den):t.den:=h▸x
def AV.vl (s:St):AV->Option (Sigma Ty.den×List Nat)
 | .val t x=>some (⟨t,x⟩,[])
 | .at_ i []=>match s.obj i with
  | some (.own t x)=>some (⟨t,x⟩,[i])
  | _=>none
 | .sub i [] lo hi=>match s.obj i with
  | some (.own (.d0 true t) x)=>some (⟨.d0 true t,o5 lo hi x⟩,[i])
  | _=>none
 | _=>none
def AV.vL (s:St) (v:AV):Option (Sigma Ty.den×List Nat) :=
 match v with
 | .at_ i []=>match s.obj i with
  | some (.var t x)=>some (⟨t,x⟩,[i])
  | _=>(AV.at_ i []).vl s
 | .C7 f .nil=>some (⟨.fn f,true⟩,[])
 | v=>v.vl s
def AV.R7 (s:St) (k:PK) (v:AV):Option (k.den×List Nat×List Nat) :=
 match k with
 | .v t=>match v.asV s t with|some x=>some (x,[],[])|none=>none
 | .rd t=>match v.asR s t with|some x=>some (x,[],[])|none=>none
 | .C7 f ts=>match v with
  | .C7 g l=>match Nat.beq f g with
   | true=>match AV.yf s ts l with|some x=>some (x,[],[])|none=>none
   | false=>none
  | _=>none
 | .W6=>match v with
  | .raw (.slice none 0 0)=>some ((),[],[])
  | _=>none
 | .own t=>match v with
  | .raw (.slice none 0 0)=>match v.as t with|some x=>some (x,[],[])|none=>none
  | v=>match v.vL s with
   | some (⟨u,x⟩,l)=>if h:u=t then some (I8 h x,l,[]) else none
   | none=>none
 | .rw t=>match v with
  | .ptr i []=>match s.obj i with
   | some (.var u x)=>if h:u=t then some (I8 h x,[],[i]) else none
   | _=>none
  | _=>none
 | .mu t=>match v with
  | .at_ i []=>match s.obj i with
   | some (.own u x)=>if h:u=.d0 true t then some (I8 h x,[],[i]) else none
   | _=>none
  | _=>none
 | .rcs _ _=>none
 | .el _=>none
def AV.vu (s:St):(ks:List PK)->AV->Option (DK ks×List Nat×List Nat)
 | [],.nil=>some ((),[],[])
 | k::ks,.cons a b=>match a.R7 s k,AV.vu s ks b with
  | some (x,g,m),some (y,g',m')=>some ((x,y),g++g',m++m')
  | _,_=>none
 | _,_=>none
def AV.G8:AV->List Nat
 | .at_ i _|.ptr i _|.sub i _ _ _=>[i]
 | .cons a b=>a.G8++b.G8
 | .K6 l|.C7 _ l|.bx l|.rc _ l=>l.G8
 | _=>[]
def Ty.K0:Ty->Bool
 | .pair a b=>a.K0 && b.K0
 | .arr _ t=>t.K0
 | .d0 o t=>o && t.K0
 | .map o k v=>o && k.K0 && v.K0
 | .box o _ t=>o && t.K0
 | .B9 _=>false
 | _=>true
def AV.lst:AV->Bool
 | .nil=>true
 | .cons _ b=>b.lst
 | _=>false
def AV.app:AV->AV->AV
 | .cons a b,l=>.cons a (b.app l)
 | _,l=>l
def P7 (d j:Nat):Nat:=d+1000*(j+1)
def vQ (t:Ty) (x:t.den) (i:Nat):i6×AV :=
 match t,x with
 | .box true none u,some y=>(.var u y,.ptr i [])
 | .box true (some f) u,some y=>(.var u y,.C7 f (.cons (.ptr i []) .nil))
 | t,x=>(.own t x,.at_ i [])
def Y6:(ts:List Ty)->DL ts->Nat->Nat->List (Nat×i6)->Option (AV×List (Nat×i6))
 | [],_,_,_,hp=>some (.nil,hp)
 | t::ts,x,d,j,hp =>
  match t.shared with
  | true=>match Y6 ts x.2 d (j+1) hp with
   | some (l,cE)=>some (.cons (.val t x.1) l,cE)
   | none=>none
  | false=>match look (P7 d j) hp with
   | some _=>none
   | none=>match Y6 ts x.2 d (j+1) (Ex.put (P7 d j) (vQ t x.1 (P7 d j)).1 hp) with
    | some (l,cE)=>some (.cons (vQ t x.1 (P7 d j)).2 l,cE)
    | none=>none
def AV.one:AV->AV
 | .cons a .nil=>a
 | l=>.K6 l
def xU (d:Nat):Nat->List (Nat×AV)->Bool
 | 0,_=>true
 | j+1,fr=>wu (P7 d j) fr && xU d j fr
def wV:List Nat->Bool
 | []=>true
 | a::l=>!l.contains a && wV l
def Df:List Nat->List Nat->Bool
 | [],_=>true
 | a::l,m=>!m.contains a && Df l m
def An (d:Nat):Nat->List (Nat×i6)->Bool
 | 0,_=>true
 | j+1,hp=>(look (P7 d j) hp).isNone && An d j hp
def pinned (i:Nat):Bool:=Nat.ble 2000000 i
def xE:List Step->Bool
 | []=>true
 | .l8 _::p=>xE p
 | .idx _::_=>false
def AV.xQ (i:Nat) (ow:Bool) (v:AV):AV :=
 match v.i8 i with
 | false=>v
 | true=>match v with
  | .ptr j p=>match xE p with|true=>.ptr j p|false=>.any
  | .at_ j []=>match ow with|true=>.at_ j []|false=>.any
  | .sub j [] a b=>match ow with|true=>.sub j [] a b|false=>.any
  | _=>.any
def St.X3 (i:Nat) (ow:Bool) (s:St):St:={ s with fr:=mapA (AV.map (AV.xQ i ow)) s.fr }
def wr (ks:List PK) (y:DL (E8 ks)) (m:List Nat) (s:St):Option St :=
 match ks,y,m with
 | [],_,[]=>some s
 | .rw t::ks,y,[i]=>match E8 ks with
  | []=>some ((s.X3 i false).w8 i (.var t y.1))
  | _=>none
 | .mu t::ks,y,[i]=>match E8 ks with
  | []=>some ((s.X3 i true).w8 i (.own (.d0 true t) y.1))
  | _=>none
 | .v _::ks,y,m=>wr ks y m s
 | .rd _::ks,y,m=>wr ks y m s
 | .C7 _ _::ks,y,m=>wr ks y m s
 | .own _::ks,y,m=>wr ks y m s
 | .W6::ks,y,m=>wr ks y m s
 | .rcs _ _::ks,y,m=>wr ks y m s
 | .el _::ks,y,m=>wr ks y m s
 | _,_,_=>none
def T9 (E:Env) (f:FuncId) (args:AV) (dst:Option Nat) (s:St):OR :=
 match look f E.C9 with
 | none=>.fail "call: no contract"
 | some c=>match AV.vu s c.ps args with
  | none=>.fail "call: arguments"
  | some (x,g,m)=>match wV (g++m) && Df (g++m) (loose c.ps args) && (g.all λ i=>!pinned i) && (((c.rs.all Ty.K0 || c.new) && (E8 c.ps).all Ty.K0) || (match loose c.ps args with|[]=>true|_=>false)) && (xU (dst.getD 0) c.rs.length s.fr && An (dst.getD 0) c.rs.length s.hp) with
   | false=>.fail "call: objects"
   | true=>match wr c.ps (c.out x) m (St.w9 g s) with
    | none=>.fail "call: writing"
    | some s=>match xU (dst.getD 0) c.rs.length s.fr with
     | false=>.fail "call: names"
     | true=>match Y6 c.rs (c.fn x) (dst.getD 0) 0 s.hp with
      | some (l,hp)=>.F8 (c.pre x) l.one { s with hp:=hp }
      | none=>.fail "call: results"
where
 loose:List PK->AV->List Nat
  | .own _::ks,.cons _ b=>loose ks b
  | .rw _::ks,.cons _ b=>loose ks b
  | .mu _::ks,.cons _ b=>loose ks b
  | _::ks,.cons a b=>a.G8++loose ks b
  | _,_=>[]
def ofConst:Value->AV
 | .int k n=>if k.min<=n/\n<=k.max then .val (.int k) n else .raw (.int k n)
 | .bool b=>.val .bool b
 | .string s=>if s.data.size<=maxLen then .val .str s.data.toList else .raw (.string s)
 | v=>.raw v
abbrev J4:Nat:=5000000
def St.ev (s:St):Operand->AV
 | .tmp t=>match Nat.beq t J4 with
  | true=>.any
  | false=>s.get t
 | .const v=>ofConst v
 | .global _=>.any
 | .func f=>.C7 f .nil
def St.K3 (s:St):List Operand->AV
 | []=>.nil
 | x::l=>.cons (s.ev x) (s.K3 l)
def T4 (k:IntKind) (x y:Int):Int:=k.wrap (BitVec.ofInt k.bits x &&& BitVec.ofInt k.bits y).toNat
def bOr (k:IntKind) (x y:Int):Int:=k.wrap (BitVec.ofInt k.bits x ||| BitVec.ofInt k.bits y).toNat
def vP (k:IntKind) (x y:Int):Int:=k.wrap (BitVec.ofInt k.bits x ^^^ BitVec.ofInt k.bits y).toNat
def S8 (k:IntKind) (x y:Int):Int:=k.wrap (BitVec.ofInt k.bits x &&& ~~~(BitVec.ofInt k.bits y)).toNat
def arith (k:IntKind) (r:Int) (s:St):OR :=
 match k with
 | .i64=>.F8 (r9 .i64 r) (.val (.int .i64) r) s
 | k=>.ok (.val (.int k) (k.wrap r)) s
def xI (op:BinOp) (k:IntKind) (a:Int) (k':IntKind) (b:Int) (s:St):OR :=
 match op with
 | .shl=>.F8 (0<=b) (.val (.int k) (k.wrap (a*2^(min b.toNat k.bits)))) s
 | .shr=>.F8 (0<=b) (.val (.int k) (a / 2^(min b.toNat k.bits))) s
 | op =>
  if k=k' then
   match op with
   | .add=>arith k (a+b) s
   | .sub=>arith k (a - b) s
   | .mul=>arith k (a*b) s
   | .quo=>.F8 (0<b) (.val (.int k) (Int.tdiv a b)) s
   | .rem=>.F8 (0<b) (.val (.int k) (Int.tmod a b)) s
   | .and=>.ok (.val (.int k) (T4 k a b)) s
   | .or=>.ok (.val (.int k) (bOr k a b)) s
   | .xor=>.ok (.val (.int k) (vP k a b)) s
   | .andNot=>.ok (.val (.int k) (S8 k a b)) s
   | .eql=>.ok (.val .bool (decide (a=b))) s
   | .neq=>.ok (.val .bool (decide (a≠b))) s
   | .lss=>.ok (.val .bool (decide (a<b))) s
   | .leq=>.ok (.val .bool (decide (a<=b))) s
   | .gtr=>.ok (.val .bool (decide (b<a))) s
   | .geq=>.ok (.val .bool (decide (b<=a))) s
   | _=>.fail "binop int"
  else .fail "binop kinds"
def yT (op:BinOp) (a b:yY) (s:St):OR :=
 match op with
 | .eql=>.ok (.val .bool (decide (a=b))) s
 | .neq=>.ok (.val .bool (decide (a≠b))) s
 | .add=>.F8 (a.length+b.length<=maxLen) (.val .str (a++b)) s
 | _=>.fail "binop string"
def Ty.T5:Ty->Ty
 | .pair a b=>.pair a.T5 b.T5
 | .arr n t=>.arr n t.T5
 | .d0 o t=>.d0 o t.T5
 | .box o g t=>.box o g t.T5
 | .B9 t=>.d0 false t.T5
 | .hole t=>.hole t.T5
 | t=>t
def I6 (E:Env) (T:TypeId) (u:Ty):Bool :=
 match look T E.tt with
 | some i=>decide (i.ty.T5.sh=u.T5.sh)
 | none=>false
def F5:(t:Ty)->t.den->t.den->Bool
 | .int _,x,y=>decide ((x:Int)=y)
 | .bool,x,y=>(x:Bool) == y
 | .str,x,y=>decide ((x:yY)=y)
 | .unit,_,_=>true
 | .fn _,_,_=>false
 | .map _ _ _,_,_=>false
 | .box _ _ _,_,_=>false
 | .hole _,_,_=>false
 | .B9 _,_,_=>false
 | .pair a b,x,y=>F5 a x.1 y.1 && F5 b x.2 y.2
 | .arr _ t,x,y=>xD (F5 t) x y
 | .d0 _ _,_,_=>false
where xD {α:Type} (f:α->α->Bool):List α->List α->Bool
 | [],[]=>true
 | x::l,y::m=>f x y && xD f l m
 | _,_=>false
def MK (E:Env):Bool:=E.B8.any λ c=>Nat.beq c.1 999999
def xJ (W:Bool) (op:BinOp) (k:IntKind) (a:Int) (k':IntKind) (b:Int) (s:St):OR :=
 match W,op with
 | true,.add=>if k=k' then .ok (.val (.int k) (k.wrap (a+b))) s else .fail "binop kinds"
 | _,op=>xI op k a k' b s
def yg (E:Env) (T:TypeId) (op:BinOp) (x y:AV) (s:St):OR :=
 match x,y with
 | .val (.int k) a,.val (.int k') b=>xJ (MK E) op k a k' b s
 | .val .bool a,.val .bool b =>
  match I6 E T .bool,op with
  | true,.eql=>.ok (.val .bool (a == b)) s
  | true,.neq=>.ok (.val .bool (a != b)) s
  | _,_=>.fail "binop bool"
 | .val .str a,.val .str b=>yT op a b s
 | _,_=>.fail "binop"
def Ty.ht:Ty->Nat
 | .pair a b=>max (a.ht+1) b.ht
 | .arr _ t=>t.ht+1
 | _=>0
def yj (ck:TypeId->Ty->Bool):List Field->Ty->Bool
 | [],.unit=>true
 | f::fs,.pair a b=>ck f.type a && yj ck fs b
 | _,_=>false
def V9 (P:Program):Nat->TypeId->Ty->Bool
 | 0,_,_=>false
 | n+1,T,t=>match P.underlying T,t with
  | some (.struct fs),t=>!P.stoodInHeld T && yj (V9 P n) fs.toList t
  | some (.array _ e),.arr _ t=>V9 P n e t
  | some .bool,.bool=>true
  | some (.int _),.int _=>true
  | some .string,.str=>true
  | _,_=>false
def eqA (E:Env) (T:TypeId) (op:BinOp) (t:Ty) (x:t.den) (u:Ty) (y:u.den) (s:St):OR :=
 if h:u=t then
  (match t.agg && I6 E T t && V9 E.P 100 T t && !(E.P.eqGuardType E.P.depth T) && Nat.blt t.ht 100,op with
  | true,.eql=>.ok (.val .bool (F5 t x (h▸y))) s
  | true,.neq=>.ok (.val .bool (!(F5 t x (h▸y)))) s
  | _,_=>.fail "eq")
 else .fail "eq: types"
def zS (E:Env) (T:TypeId) (op:BinOp) (s:St):OR :=
 match look T E.tt,op with
 | some ⟨.box _ none _,_⟩,.eql=>.ok (.val .bool false) s
 | some ⟨.box _ none _,_⟩,.neq=>.ok (.val .bool true) s
 | _,_=>.fail "binop nil"
def wP (E:Env) (T:TypeId) (op:BinOp) (x y:AV) (s:St):OR :=
 match x,y with
 | .ptr _ _,.raw (.pointer none)=>zS E T op s
 | .val (.pair p q) a,.val u b=>eqA E T op (.pair p q) a u b s
 | .val (.arr n q) a,.val u b=>eqA E T op (.arr n q) a u b s
 | x,y=>yg E T op x y s
def unA (op:UnOp) (x:AV) (s:St):OR :=
 match op,x with
 | .not,.val .bool b=>.ok (.val .bool (!b)) s
 | .neg,.val (.int k) a=>arith k (0 - a) s
 | .xor,.val (.int k) a=>.ok (.val (.int k) (vP k (if k.signed then -1 else k.max) a)) s
 | _,_=>.fail "unop"
def Y3 (t:Ty) (i:Nat):List Step :=
 match t with
 | .arr _ _=>[.idx i]
 | _=>[.l8 i]
def U0 (s:St):Sigma Ty.den->List (Nat×Operand)->Option (Sigma Ty.den×List Nat)
 | r,[]=>some (r,[])
 | ⟨t,x⟩,(i,v)::parts =>
  match j9 t x (Y3 t i) with
  | none=>none
  | some ⟨u0,_⟩=>match s.ev v with
   | .raw (.slice none 0 0)=>(match u0 with
    | .d0 o u'=>(match u6 t x (Y3 t i) (.d0 o u') ([]:List u'.den) with
     | some r=>U0 s r parts
     | none=>none)
    | _=>none)
   | v=>(match v.vL s with
    | some (⟨u,z⟩,g)=>(match u6 t x (Y3 t i) u z with
     | some r=>(match U0 s r parts with
      | some (r,g')=>some (r,g++g')
      | none=>none)
     | none=>none)
    | none=>none)
def zK (s:St) (n:Nat) (t:Ty) (parts:List (Nat×Operand)):Option (Sigma Ty.den×List Nat) :=
 match U0 s ⟨.arr n t,(Ty.arr n t).s4⟩ parts with
 | some r=>some r
 | none=>U0 s ⟨.arr n t.sh,(Ty.arr n t.sh).s4⟩ parts
def St.lay (s:St) (d:Nat) (g:List Nat) (t:Ty) (x:t.den):OR :=
 match wV g && (g.all λ i=>!pinned i) && s.fresh d with
 | false=>.fail "lay: objects"
 | true=>match (St.w9 g s).fresh d with
  | true=>.ok (.at_ d []) ((St.w9 g s).w8 d (.own t x))
  | false=>.fail "lay: name"
def OR.f8 (p:Prop):OR->OR
 | .ok v s=>.F8 p v s
 | r=>r
def OR.yd (p:Prop):OR->OR
 | .ok v s=>.F8 (p/\True) v s
 | .F8 q v s=>.F8 (p/\q) v s
 | .fail y=>.fail y
def wU (t:Ty) (i:Nat):Bool :=
 match t with
 | .arr n _=>Nat.blt i n
 | _=>true
def MO:Option TI->Bool
 | some ⟨.box _ none _,_⟩=>true
 | some ⟨.fn _,_⟩=>true
 | _=>false
def Z0 (E:Env) (T:TypeId) (a:AV) (s:St):OR :=
 match a with
 | .M1 t x=>match I6 E T t with|true=>.ok (.val t x) s|false=>.fail "load: type"
 | .bx l=>match MO (look T E.tt) with
  | true=>.ok l s
  | false=>.fail "load: pointer"
 | .ptr i p=>match s.part i p with
  | some ⟨u,y⟩=>(match I6 E T u with
   | true=>(match u.shared with|true=>.ok (.val u y) s|false=>.ok (.at_ i p) s)
   | false=>.fail "load: type")
  | none=>.fail "load: path"
 | _=>.fail "load"
def Ty.wc:Ty->Ty
 | .pair a b=>.pair a.wc b.wc
 | .d0 o t=>match o with
  | true=>.hole t
  | false=>.d0 false t
 | t=>t
def DG:(t:Ty)->t.den->t.wc.den
 | .int _,x=>x
 | .bool,x=>x
 | .str,x=>x
 | .unit,x=>x
 | .fn _,x=>x
 | .map _ _ _,x=>x
 | .box _ _ _,x=>x
 | .pair a b,x=>(DG a x.1,DG b x.2)
 | .arr _ _,x=>x
 | .d0 true _,_=>[]
 | .d0 false _,x=>x
 | .hole _,x=>x
 | .B9 _,x=>x
def Q8 (E:Env) (T:TypeId) (i:Nat) (p:List Step) (x:AV) (s:St):OR :=
 match s.obj i with
 | none=>.fail "store: object"
 | some e=>match j9 e.ty e.x p with
  | none=>.fail "store: path"
  | some ⟨u,y⟩=>match I6 E T u with
   | false=>.fail "store: type"
   | true=>match x with
    | .raw (.slice none 0 0)=>(match u with
     | .d0 o u'=>(match u6 e.ty e.x p (.d0 o u') ([]:List u'.den) with
      | some r=>.ok (.raw undef) ((s.kill i e.kd p).w8 i (e.E3 r))
      | none=>.fail "store: nil")
     | .B9 a=>(match u6 e.ty e.x p (.B9 a) ((1,([],[])):Nat×(List a.den×List a.den)) with
      | some r=>.ok (.raw undef) ((s.kill i e.kd p).w8 i (e.E3 r))
      | none=>.fail "store: nil")
     | _=>.fail "store: nil of what")
    | .sub j q lo hi=>(match u,y with
     | .d0 true u',(y:List u'.den)=>(match u6 e.ty e.x p (.d0 true u') (o5 lo hi y) with
      | some r=>(match Nat.beq i j with
       | true=>.F8 (q=p/\True) (.raw undef) ((s.kill i e.kd p).w8 i (e.E3 r))
       | false=>.fail "store: a view of another")
      | none=>.fail "store: view")
     | _,_=>.fail "store: view of what")
    | x=>(match x.vL s with
     | some (q,g)=>(match u6 e.ty e.x p (Q9 u q).1 (Q9 u q).2 with
      | some r=>(match !g.contains i && wV g && g.all λ i=>!pinned i with
       | true=>.ok (.raw undef) (((St.w9 g s).kill i e.kd p).w8 i (e.E3 r))
       | false=>.fail "store: itself")
      | none=>.fail "store: value")
     | none=>(match x with
      | .at_ j q=>(match s.part j q with
       | some ⟨u',y'⟩=>(match u6 e.ty e.x p u'.wc (DG u' y') with
        | some r=>(match u'.wc.shared && !u'.shared && !Nat.beq i j with
         | true=>.ok (.raw undef) ((s.kill i e.kd p).w8 i (e.E3 r))
         | false=>.fail "store: what")
        | none=>.fail "store: value")
       | none=>.fail "store: what")
      | _=>.fail "store: what"))
def AV.els (s:St):AV->Option (Sigma λ t:Ty=>List t.den)
 | .val (.d0 _ t) l=>some ⟨t,l⟩
 | .at_ i p=>match s.part i p with
  | some ⟨.d0 _ t,l⟩=>some ⟨t,l⟩
  | _=>none
 | .sub i p lo hi=>s.view i p lo hi
 | _=>none
def AV.vw (s:St) (t0:Ty):AV->Option (Sigma (λ t:Ty=>List t.den)×List Nat)
 | .raw (.slice none 0 0)=>some (⟨t0,[]⟩,[])
 | .val .str y=>some (⟨.int .u8,(List.map (λ b:UInt8=>(b.toNat:Int)) y:List Int)⟩,[])
 | v=>match v.els s with
  | none=>none
  | some ⟨t,l⟩=>match t.shared with
   | true=>some (⟨t,l⟩,[])
   | false=>match v.vl s with
    | some (⟨.d0 true u,m⟩,g)=>some (⟨u,m⟩,g)
    | _=>none
def Q4 {t u:Ty} (h:t=u) (l:List t.den):List u.den:=h▸l
def xe (E:Env) (T:TypeId) (x y:AV) (dst:Option Nat) (s:St):OR :=
 match look T E.tt,dst with
 | some ⟨.d0 _ t0,_⟩,some d=>match y.vw s t0 with
  | none=>.fail "append: what"
  | some (⟨t,m⟩,g) =>
   let own (l:List t0.den) (f:List Nat):OR :=
    if h:t=t0 then (s.lay d (f++g) (.d0 true t0) (l++Q4 h m)).f8 ((l.length+m.length:Nat)<=140737488355328/\(l.length+m.length:Nat)*(t0.wb:Nat)<=140737488355328)
    else .fail "append: type"
   match x with
   | .raw (.slice none 0 0)=>own [] []
   | .val (.d0 true u) _=>(match I6 E T (.d0 true u) with|true=>own [] []|false=>.fail "append: type")
   | x=>match x.vl s with
    | some (⟨.d0 true u,l⟩,f)=>if h:u=t0 then own (Q4 h l) f else .fail "append: type"
    | _=>.fail "append: to what"
 | _,_=>.fail "append"
def Ty.Hf:Ty->Bool
 | .B9 _=>true
 | _=>false
def DH (s:St):AV->Bool
 | .at_ i []=>(match s.obj i with
  | some (.own (.B9 _) _)=>true
  | _=>false)
 | _=>false
def Mx (E:Env) (T:TypeId) (x y:AV) (dst:Option Nat) (s:St):OR:=.fail ""
def Dx (E:Env) (T:TypeId) (x y:AV) (dst:Option Nat) (s:St):OR:=.fail ""
def xH (E:Env) (T:TypeId) (x y:AV) (dst:Option Nat) (s:St):OR :=
 match E.rs.any Ty.Hf && DH s x with
 | true=>Dx E T x y dst s
 | false=>xe E T x y dst s
def Au (E:Env) (T:TypeId) (x y:AV) (dst:Option Nat) (s:St):OR :=
 match look T E.tt,dst,x,y with
 | some ⟨.d0 true t0,_⟩,some d,.raw (.slice none 0 0),.val (.int _) n =>
  (s.lay d [] (.d0 true t0) (List.replicate n.toNat t0.s4)).f8 (0<=n/\n<=140737488355328/\n*(t0.wb:Nat)<=140737488355328)
 | _,_,_,_=>.fail "append: zeros"
def AV.MQ:AV->AV->Bool
 | .sub i _ _ _,.sub j _ _ _=>Nat.beq i j
 | _,_=>false
def posOf {α β:Type} (f:α->α->Bool) (a:α):List (α×β)->Nat->Option (Nat×β)
 | [],_=>none
 | (x,y)::l,i=>match f a x with|true=>some (i,y)|false=>posOf f a l (i+1)
def V7 {α β:Type} (f:α->α->Bool) (a:α) (l:List (α×β)):Option β:=(posOf f a l 0).map (·.2)
def vD {α β:Type} (f:α->α->Bool) (a:α) (y:β) (l:List (α×β)):List (α×β) :=
 match posOf f a l 0 with
 | some (i,_)=>l.set i (a,y)
 | none=>l++[(a,y)]
def Ty.key:Ty->Bool
 | .int _|.bool|.str=>true
 | .arr _ (.int _)=>true
 | _=>false
def DI (E:Env) (T:TypeId) (k v:Ty):Bool :=
 match look T E.tt,E.P.underlying T with
 | some ⟨.map _ k' v',_⟩,some (.map K _)=>decide (k'=k) && decide (v'=v) && k.key && V9 E.P 100 K k
 | _,_=>false
def AV.mp (s:St):AV->Option (Sigma λ q:Ty×Ty=>Option (List (q.1.den×q.2.den)))
 | .val (.map _ k v) m=>some ⟨(k,v),m⟩
 | .at_ i p=>match s.part i p with
  | some ⟨.map _ k v,m⟩=>some ⟨(k,v),m⟩
  | _=>none
 | _=>none
def zo (E:Env) (T:TypeId) (x i:AV) (ok:Bool) (s:St):OR :=
 match x.mp s,i with
 | some ⟨(k,v),m⟩,.val u a =>
  if h:u=k then
   (match DI E T k v with
   | true=>match ok with
    | true=>.ok (.K6 (.cons (.val v ((V7 (F5 k) (I8 h a) (m.getD [])).getD v.s4)) (.cons (.val .bool (V7 (F5 k) (I8 h a) (m.getD [])).isSome) .nil))) s
    | false=>.ok (.val v ((V7 (F5 k) (I8 h a) (m.getD [])).getD v.s4)) s
   | false=>.fail "lookup: type")
  else .fail "lookup: key"
 | _,_=>.fail "lookup"
def yi (E:Env) (T:TypeId) (x i z:AV) (s:St):OR :=
 match x,i,z with
 | .at_ j [],.val u a,.val u' y=>(match s.obj j with
  | some (.own (.map true k v) (some l)) =>
   if h:u=k then
    if h':u'=v then
     (match DI E T k v with
     | true=>.ok (.raw undef) ((s.X3 j true).w8 j (.own (.map true k v) (some (vD (F5 k) (I8 h a) (I8 h' y) l))))
     | false=>.fail "update: type")
    else .fail "update: value"
   else .fail "update: key"
  | _=>.fail "update: of what")
 | _,_,_=>.fail "update"
def zf (e:i6) (p:List Step) (r:Sigma Ty.den):Bool :=
 match e with
 | .var t _=>decide (r.1=t)
 | .own (.d0 true t) _=>decide (r.1=.d0 true t) && (match p with
  | []=>true
  | .idx _::_=>true
  | _=>false)
 | _=>false
def vZ (s:St) (i:Nat) (p:List Step) (lo:Nat) (t:Ty) (m:List t.den):Option St :=
 match s.obj i with
 | some e=>(match j9 e.ty e.x p with
  | some ⟨.d0 true u,l⟩ =>
   if h:t=u then
    (match u6 e.ty e.x p (.d0 true u) (List.take lo l++Q4 h m++List.drop (lo+m.length) l) with
    | some r=>(match t.shared && zf e p r with
     | true=>some ((s.X3 i e.vB).w8 i (e.E3 r))
     | false=>none)
    | none=>none)
   else none
  | _=>none)
 | none=>none
def AV.wC (s:St):AV->Option (Nat×List Step×Int×Int)
 | .at_ i p=>match s.part i p with
  | some ⟨.d0 true _,l⟩=>some (i,p,0,(List.length l:Int))
  | _=>none
 | .sub i p lo hi=>match s.part i p with
  | some ⟨.d0 true _,_⟩=>some (i,p,lo,hi)
  | _=>none
 | _=>none
def a80 (E:Env) (T:TypeId) (x y:AV) (s:St):OR :=
 match x.wC s,y.els s with
 | some (i,p,lo,hi),some ⟨t,m⟩=>(match vZ s i p lo.toNat t (List.take (hi - lo).toNat m),I6 E T (.d0 true t) with
  | some s',true=>.ok (.val (.int .i64) ((List.take (hi - lo).toNat m).length:Int)) s'
  | _,_=>.fail "copy")
 | _,_=>.fail "copy: what"
def As (E:Env) (T:TypeId) (x:AV) (s:St):OR :=
 match x.wC s,look T E.tt with
 | some (i,p,lo,hi),some ⟨.d0 _ t,_⟩=>(match vZ s i p lo.toNat t (List.replicate (hi - lo).toNat t.s4) with
  | some s'=>.ok (.raw (.tuple #[])) s'
  | none=>.fail "clear")
 | _,_=>.fail "clear: what"
def xf (E:Env) (T:TypeId) (x y:AV) (s:St):OR :=
 match x,look T E.tt with
 | .sub i [] lo hi,some ⟨.d0 _ t0,_⟩=>(match y.vw s t0,s.obj i with
  | some (⟨t,m⟩,[]),some (.own (.d0 true u) l)=>(match vZ s i [] hi.toNat t m,I6 E T (.d0 true t),decide (t=u) with
   | some s',true,true=>.F8 (hi+(List.length m:Int)<=(List.length l:Int)) (.sub i [] lo (hi+(List.length m:Int))) s'
   | _,_,_=>.fail "append: in place")
  | _,_=>.fail "append: in place")
 | _,_=>.fail "append: in place"
def bnd (s:St) (d:Int):Option Operand->Option Int
 | none=>some d
 | some x=>match s.ev x with
  | .val (.int _) n=>some n
  | _=>none
def yA (E:Env) (T:TypeId) (x:AV) (lo hi max:Option Operand) (s:St):OR :=
 match bnd s 0 lo with
 | none=>.fail "slice: low"
 | some a =>
 match x with
 | .val .str y=>(match bnd s (List.length y:Int) hi,max with
  | some b,none=>(match I6 E T .str with|true=>.F8 (0<=a/\a<=b/\b<=(List.length y:Int)) (.val .str (o5 a b y)) s|false=>.fail "slice: type")
  | _,_=>.fail "slice: bounds")
 | .val (.d0 false t) y=>(match bnd s (List.length y:Int) hi,max with
  | some b,none=>(match I6 E T (.d0 false t) with|true=>.F8 (0<=a/\a<=b/\b<=(List.length y:Int)) (.val (.d0 false t) (o5 a b y)) s|false=>.fail "slice: type")
  | some b,some _=>(match I6 E T (.d0 false t) && hi.isSome,bnd s 0 max with
   | true,some c=>.F8 (a=0/\b=0/\c=0) (.val (.d0 true t) ([]:List t.den)) s
   | _,_=>.fail "slice: type")
  | _,_=>.fail "slice: bounds")
 | .val (.B9 t) y=>(match bnd s (List.length y.2.1:Int) hi,max with
  | some b,none=>(match I6 E T (.d0 false t) with|true=>.F8 (y.1=3/\0<=a/\a<=b/\b<=(List.length y.2.1+List.length y.2.2:Nat)) (.val (.d0 false t) (o5 a b (y.2.1++y.2.2))) s|false=>.fail "slice: type")
  | _,_=>.fail "slice: bounds")
 | .raw (.slice none 0 0)=>(match bnd s 0 hi,max,look T E.tt with
  | some b,none,some ⟨.d0 _ _,_⟩=>.F8 (a=0/\b=0) (.raw (.slice none 0 0)) s
  | _,_,_=>.fail "slice: nil")
 | .at_ i p=>(match s.part i p with
  | some ⟨.d0 true t,y⟩=>(match bnd s (List.length y:Int) hi,max with
   | some b,none=>(match I6 E T (.d0 true t) with|true=>.F8 (0<=a/\a<=b/\b<=(List.length y:Int)) (.sub i p a b) s|false=>.fail "slice: type")
   | some b,some _=>(match I6 E T (.d0 true t) && hi.isSome,bnd s 0 max with
    | true,some c=>(match lo.isSome with
     | false=>.F8 (a=0/\b=0/\c=0) (.val (.d0 true t) ([]:List t.den)) s
     | true=>.F8 (0<=a/\a<=b/\b<=c/\c<=(List.length y:Int)) .any s)
    | _,_=>.fail "slice: type")
   | _,_=>.fail "slice: bounds")
  | _=>.fail "slice: of what")
 | .sub i p a0 b0=>(match s.part i p with
  | some ⟨.d0 true t,y⟩=>(match bnd s (b0 - a0) hi,max with
   | some b,none=>(match I6 E T (.d0 true t) with|true=>.F8 (0<=a/\a<=b/\a0+b<=(List.length y:Int)) (.sub i p (a0+a) (a0+b)) s|false=>.fail "slice: type")
   | _,_=>.fail "slice: bounds")
  | some ⟨.arr _ t,_⟩=>(match bnd s (b0 - a0) hi,max with
   | some b,none=>(match I6 E T (.d0 true t) with|true=>.F8 (0<=a/\a<=b/\b<=b0 - a0) (.sub i p (a0+a) (a0+b)) s|false=>.fail "slice: type")
   | _,_=>.fail "slice: bounds")
  | _=>.fail "slice: view")
 | .ptr i p=>(match s.part i p with
  | some ⟨.arr n t,_⟩=>(match bnd s (n:Int) hi,max with
   | some b,none=>(match Ml E T (.arr n t) && Nat.ble n 1000000 with|true=>.F8 (0<=a/\a<=b/\b<=(n:Int)) (.sub i p a b) s|false=>.fail "slice: type")
   | _,_=>.fail "slice: bounds")
  | _=>.fail "slice: of what")
 | _=>.fail "slice"
where
 Ml (E:Env) (T:TypeId) (u:Ty):Bool :=
  match E.P.underlying T with
  | some (.pointer A)=>I6 E A u
  | some (.array _ _)=>I6 E T u
  | _=>false
def foldI (s:St) (k:IntKind) (f:Int->Int->Int):Int->List Operand->OR
 | a,[]=>.ok (.val (.int k) a) s
 | a,x::l=>match s.ev x with
  | .val (.int k') b=>if k=k' then foldI s k f (f a b) l else .fail "max"
  | _=>.fail "max"
def m0 (E:Env) (o:Oper) (s:St):OR :=
 match o.op with
 | .move x=>.ok (s.ev x) s
 | .assign x=>.ok (s.ev x) s
 | .alloc T=>match look T E.tt,o.dst with
  | some t,some d=>(match s.fresh d with
   | true=>.ok (.ptr d []) (s.w8 d (.var t.ty t.ty.s4))
   | false=>.fail "alloc: name")
  | _,_=>.fail "alloc"
 | .box T x=>match look T E.tt,o.dst with
  | some t,some d=>(match s.fresh d with
   | true=>(match (s.ev x).vL s with
    | some (⟨u,y⟩,g)=>if u.T5.sh=t.ty.T5.sh then (match wV g && !g.contains d && g.all λ i=>!pinned i with
     | true=>.ok (.ptr d []) ((St.w9 g s).w8 d (.var u y))
     | false=>.fail "box: objects") else .fail "box: value"
    | none=>(match s.ev x,t.ty with
     | .raw (.slice none 0 0),.d0 o u=>.ok (.ptr d []) (s.w8 d (.var (.d0 o u) ([]:List u.den)))
     | .ptr i p,.box _ none _=>.ok (.bx (.ptr i p)) s
     | _,_=>.fail "box: what"))
   | false=>.fail "box: name")
  | _,_=>.fail "box"
 | .build T parts=>match look T E.tt with
  | some t=>(match t.ty.agg && parts.toList.all (λ q=>wU t.ty q.1) with
   | true=>(match U0 s ⟨t.ty,t.ty.s4⟩ parts.toList,o.dst with
    | some (⟨u,y⟩,[]),_=>.ok (.val u y) s
    | some (⟨u,y⟩,g),some d=>s.lay d g u y
    | _,_=>.fail "build: parts")
   | false=>.fail "build: index")
  | none=>.fail "build"
 | .buildSlice T n parts=>match look T E.tt,o.dst with
  | some ⟨.d0 true t,_⟩,some d=>(match s.fresh d && parts.toList.all (λ q=>Nat.blt q.1 n) && Nat.ble (n*t.size) 16777216 with
   | true=>(match zK s n t parts.toList with
    | some (⟨.arr _ t',l⟩,g)=>s.lay d g (.d0 true t') l
    | _=>.fail "buildSlice: parts")
   | false=>.fail "buildSlice: name")
  | _,_=>.fail "buildSlice"
 | .load T a=>Z0 E T (s.ev a) s
 | .store T a x=>match s.ev a with
  | .ptr i p=>Q8 E T i p (s.ev x) s
  | _=>.fail "store"
 | .nilCheck x=>match s.ev x with
  | .ptr i p=>.ok (.ptr i p) s
  | .M1 t y=>.ok (.M1 t y) s
  | .val (.box false none t) y=>.F8 ((y:Option t.den).isSome=true) (.M1 t (Option.getD (y:Option t.den) t.s4)) s
  | .val (.box false (some f) t) y=>.F8 ((y:Option t.den).isSome=true) (.val (.box false (some f) t) y) s
  | .C7 f l=>.ok (.C7 f l) s
  | .val (.fn f) b=>.F8 ((b:Bool)=true) (.val (.fn f) b) s
  | _=>.fail "nilCheck"
 | .fieldAddr T x n=>match s.ev x with
  | .ptr i p=>(match s.part i p with
   | some ⟨u,z⟩=>(match I6 E T u,j9 u z [.l8 n] with
    | true,some _=>.ok (.ptr i (p++[.l8 n])) s
    | _,_=>.fail "fieldAddr: type")
   | none=>.fail "fieldAddr: path")
  | .M1 t y=>match I6 E T t,j9 t y [.l8 n] with
   | true,some ⟨u,z⟩=>.ok (.M1 u z) s
   | _,_=>.fail "fieldAddr"
  | .val (.box false none t) y=>match I6 E T t,j9 t (Option.getD (y:Option t.den) t.s4) [.l8 n] with
   | true,some ⟨u,z⟩=>.F8 ((y:Option t.den).isSome=true) (.M1 u z) s
   | _,_=>.fail "fieldAddr"
  | _=>.fail "fieldAddr"
 | .indexAddr T x i=>match s.ev x,s.ev i with
  | .ptr d p,.val (.int _) n=>(match s.part d p with
   | some ⟨.arr m u,_⟩=>(match I6 E T (.arr m u) with
    | true=>.F8 (0<=n/\n<m) (.ptr d (p++[.idx n])) s
    | false=>.fail "indexAddr: type")
   | _=>.fail "indexAddr: type")
  | .M1 (.arr m t) y,.val (.int _) n=>(match I6 E T (.arr m t) with
   | true=>.F8 (0<=n/\n<m) (.M1 t (List.getD y (Int.toNat n) t.s4)) s
   | false=>.fail "indexAddr: type")
  | .val (.d0 false t) y,.val (.int _) n=>(match I6 E T (.d0 false t) with
   | true=>.F8 (0<=n/\n<List.length y) (.M1 t (List.getD y (Int.toNat n) t.s4)) s
   | false=>.fail "indexAddr: type")
  | .at_ d p,.val (.int _) n=>(match s.part d p with
   | some ⟨.d0 true u,z⟩=>(match I6 E T (.d0 true u) with
    | true=>.F8 (0<=n/\n<List.length z) (.ptr d (p++[.idx n])) s
    | false=>.fail "indexAddr: type")
   | _=>.fail "indexAddr: type")
  | .sub d p lo hi,.val (.int _) n=>(match s.view d p lo hi with
   | some ⟨u,_⟩=>(match I6 E T (.d0 true u) with
    | true=>.F8 (0<=n/\n<hi - lo) (.ptr d (p++[.idx (lo+n)])) s
    | false=>.fail "indexAddr: type")
   | none=>.fail "indexAddr: view")
  | _,_=>.fail "indexAddr"
 | .field T x n=>match s.ev x with
  | .val t y=>(match I6 E T t,j9 t y [.l8 n] with
   | true,some ⟨u,z⟩=>.ok (.val u z) s
   | _,_=>.fail "field")
  | .at_ i p=>(match s.part i p with
   | some ⟨t,y⟩=>(match I6 E T t,j9 t y [.l8 n] with
    | true,some ⟨u,z⟩=>(match u.shared with|true=>.ok (.val u z) s|false=>.ok (.at_ i (p++[.l8 n])) s)
    | _,_=>.fail "field")
   | none=>.fail "field: part")
  | _=>.fail "field"
 | .index T x i=>match s.ev x,s.ev i with
  | .val .str y,.val (.int _) n=>(match I6 E T .str with
   | true=>.F8 (0<=n/\n<List.length y) (.val (.int .u8) ((List.getD y (Int.toNat n) 0).toNat:Int)) s
   | false=>.fail "index: type")
  | .val (.arr m t) y,.val (.int _) n=>(match I6 E T (.arr m t) with
   | true=>.F8 (0<=n/\n<m) (.val t (List.getD y (Int.toNat n) t.s4)) s
   | false=>.fail "index: type")
  | .at_ i p,.val (.int _) n=>(match s.part i p with
   | some ⟨.arr m t,y⟩=>(match I6 E T (.arr m t) with
    | true=>(match t.shared with
     | true=>.F8 (0<=n/\n<m) (.val t (List.getD y (Int.toNat n) t.s4)) s
     | false=>.F8 (0<=n/\n<m) (.at_ i (p++[.idx n])) s)
    | false=>.fail "index: type")
   | _=>.fail "index: of what")
  | _,_=>.fail "index"
 | .binOp op T x y _=>wP E T op (s.ev x) (s.ev y) s
 | .unOp op _ x=>unA op (s.ev x) s
 | .convert T' T x=>match s.ev x,look T' E.tt,look T E.tt with
  | .val (.int _) n,some ⟨.int _,_⟩,some ⟨.int k,_⟩=>.ok (.val (.int k) (k.wrap n)) s
  | .val .str y,some ⟨.str,_⟩,some ⟨.d0 true (.int .u8),_⟩=>(match o.dst with
   | some d=>s.lay d [] (.d0 true (.int .u8)) (List.map (λ b:UInt8=>(b.toNat:Int)) y:List Int)
   | none=>.fail "convert")
  | v,some ⟨.d0 true (.int .u8),_⟩,some ⟨.str,_⟩=>(match v.els s with
   | some ⟨.int .u8,l⟩=>.ok (.val .str (List.map (λ n:Int=>UInt8.ofNat n.toNat) l)) s
   | _=>match v with
    | .raw (.slice none 0 0)=>.ok (.val .str []) s
    | _=>.fail "convert: bytes")
  | _,_,_=>.fail "convert"
 | .extract x i=>match s.ev x with
  | .K6 l=>match nth i l with
   | some v=>.ok v s
   | none=>.fail "extract"
  | _=>.fail "extract"
 | .makeSlice T x y=>match E.rs.any Ty.Hf with
  | true=>Mx E T (s.ev x) (s.ev y) o.dst s
  | false=>match look T E.tt,o.dst,s.ev x,s.ev y with
  | some ⟨.d0 true t,_⟩,some d,.val (.int _) n,.val (.int _) m=>(s.lay d [] (.d0 true t) (List.replicate n.toNat t.s4)).f8 (0<=n/\n<=m/\m<=140737488355328/\m*(t.wb:Nat)<=140737488355328)
  | _,_,_,_=>.fail "makeSlice"
 | .slice T x lo hi max=>yA E T (s.ev x) lo hi max s
 | .makeMap T r=>match r,look T E.tt,o.dst with
  | none,some ⟨.map true k v,_⟩,some d=>s.lay d [] (.map true k v) (some ([]:List (k.den×v.den)))
  | _,_,_=>.fail "makeMap"
 | .lookup T x i ok=>zo E T (s.ev x) (s.ev i) ok s
 | .mapUpdate T m i x=>yi E T (s.ev m) (s.ev i) (s.ev x) s
 | .makeFunc (.func f) first caps=>match first.toList with
  | []=>.ok (.C7 f (s.K3 caps.toList)) s
  | _=>.fail "makeFunc"
 | .call c=>match c.callee with
  | .value f=>match s.ev f with
   | .C7 f caps=>T9 E f ((s.K3 c.args.toList).app caps) o.dst s
   | .val (.fn f) b=>(T9 E f ((s.K3 c.args.toList).app .nil) o.dst s).yd ((b:Bool)=true)
   | .val (.box false (some f) t) y=>(T9 E f ((s.K3 c.args.toList).app (.cons (.M1 t (Option.getD (y:Option t.den) t.s4)) .nil)) o.dst s).yd ((y:Option t.den).isSome=true)
   | _=>.fail "call of what"
  | .builtin .len=>match c.args.toList,c.argTypes.toList with
   | [x],[T]=>(match s.ev x with
    | .val (.d0 q u) y=>(match I6 E T (.d0 q u) with|true=>.ok (.val (.int .i64) (List.length y:Int)) s|false=>.fail "len")
    | .val (.B9 u) y=>(match I6 E T (.d0 false u) with|true=>.ok (.val (.int .i64) (List.length y.2.1:Int)) s|false=>.fail "len")
    | .val .str y=>(match I6 E T .str with|true=>.ok (.val (.int .i64) (List.length y:Int)) s|false=>.fail "len")
    | .val (.arr n u) _=>(match I6 E T (.arr n u) with|true=>(if (n:Int)<=9223372036854775807 then .ok (.val (.int .i64) (n:Int)) s else .fail "len")|false=>.fail "len")
    | .at_ d p=>(match s.part d p with
     | some ⟨.d0 q u,z⟩=>(match I6 E T (.d0 q u) with|true=>.ok (.val (.int .i64) (List.length z:Int)) s|false=>.fail "len")
     | some ⟨.B9 u,z⟩=>(match I6 E T (.d0 false u) with|true=>.ok (.val (.int .i64) (List.length z.2.1:Int)) s|false=>.fail "len")
     | some ⟨.map true k u,z⟩=>(match I6 E T (.map true k u) with|true=>.F8 ((List.length (Option.getD (z:Option (List (k.den×u.den))) []):Int)<=9223372036854775807) (.val (.int .i64) (List.length (Option.getD (z:Option (List (k.den×u.den))) []):Int)) s|false=>.fail "len")
     | _=>.fail "len")
    | .sub d p lo hi=>(match s.view d p lo hi with
     | some ⟨u,_⟩=>(match I6 E T (.d0 true u) with|true=>.ok (.val (.int .i64) (hi - lo)) s|false=>.fail "len")
     | none=>.fail "len")
    | .raw (.slice none 0 0)=>(match look T E.tt with|some ⟨.d0 _ _,_⟩=>.ok (.val (.int .i64) 0) s|_=>.fail "len")
    | _=>.fail "len")
   | _,_=>.fail "len"
  | .builtin .cap=>match c.args.toList,c.argTypes.toList with
   | [x],[T]=>(match s.ev x,look T E.tt with
    | .raw (.slice none 0 0),some ⟨.d0 _ _,_⟩=>.ok (.val (.int .i64) 0) s
    | _,_=>.fail "cap")
   | _,_=>.fail "cap"
  | .builtin .append=>match c.args.toList,c.argTypes.toList with
   | [x,y],[T,U]=>(match look U E.tt with
    | some ⟨.d0 _ _,_⟩=>(match (s.ev x).MQ (s.ev y) with
     | true=>xf E T (s.ev x) (s.ev y) s
     | false=>xH E T (s.ev x) (s.ev y) o.dst s)
    | some ⟨.str,_⟩=>xe E T (s.ev x) (s.ev y) o.dst s
    | some ⟨.int _,_⟩=>Au E T (s.ev x) (s.ev y) o.dst s
    | _=>.fail "append: of what type")
   | _,_=>.fail "append"
  | .builtin .max=>match c.args.toList with
   | x::l=>(match s.ev x with
    | .val (.int k) a=>foldI s k (λ a b=>if a<b then b else a) a l
    | _=>.fail "max")
   | _=>.fail "max"
  | .builtin .min=>match c.args.toList with
   | x::l=>(match s.ev x with
    | .val (.int k) a=>foldI s k (λ a b=>if b<a then b else a) a l
    | _=>.fail "min")
   | _=>.fail "min"
  | .builtin .copy=>match c.args.toList,c.argTypes.toList with
   | [x,y],[T,_]=>a80 E T (s.ev x) (s.ev y) s
   | _,_=>.fail "copy"
  | .builtin .clear=>match c.args.toList,c.argTypes.toList with
   | [x],[T]=>As E T (s.ev x) s
   | _,_=>.fail "clear"
  | _=>.fail "builtin"
 | _=>.fail "op"
where nth:Nat->AV->Option AV
 | 0,.cons a _=>some a
 | n+1,.cons _ b=>nth n b
 | _,_=>none
def AN (ops:Array Oper) (j:Nat):Option Nat:=(ops[j]?).bind (·.dst)
def H7 (n:Nat):Option Nat->Bool
 | some d=>Nat.blt d n
 | none=>true
def yZ (E:Env) (o:Oper) (s:St) (k:St->Tree (E.rs++E8 E.ps)):Tree (E.rs++E8 E.ps) :=
 match H7 E.nt o.dst with
 | false=>.stuck "slot"
 | true =>
 match o.op with
 | .pick c a b=>match s.ev c with
  | .val .bool g=>cond g (k (s.put o.dst (s.ev a))) (k (s.put o.dst (s.ev b)))
  | _=>.stuck "pick"
 | _=>match m0 E o s with
  | .fail why=>.stuck why
  | .ok v s'=>k (s'.put o.dst v)
  | .F8 p v s'=>.f8 p (k (s'.put o.dst v))
def yy (E:Env) (ops:Array Oper) (o:Oper) (s:St) (k:St->Tree (E.rs++E8 E.ps)):Tree (E.rs++E8 E.ps) :=
 match o.guard with
 | none=>yZ E o s k
 | some (j,want)=>match AN ops j with
  | none=>.stuck "guard"
  | some g=>match s.ev (.tmp g) with
   | .raw (.tuple _)=>match H7 E.nt o.dst with
    | true=>k (s.put o.dst (.raw undef))
    | false=>.stuck "slot"
   | .val .bool b=>match H7 E.nt o.dst with
    | false=>.stuck "slot"
    | true=>cond b
     (match want with
      | true=>yZ E o (s.put (some g) (.val .bool true)) k
      | false=>k ((s.put (some g) (.val .bool true)).put o.dst (.raw undef)))
     (match want with
      | false=>yZ E o (s.put (some g) (.val .bool false)) k
      | true=>k ((s.put (some g) (.val .bool false)).put o.dst (.raw undef)))
   | _=>.stuck "guard value"
def brA (E:Env) (s:St) (o:Oper):Option (Prop×AV×AV) :=
 match o.op with
 | .binOp op T x y _=>match op with
  | .eql=>(match s.ev y,look T E.tt with
   | .raw (.slice none 0 0),some ⟨.d0 _ _,_⟩=>(match (s.ev x).els s with
    | some r=>some (r.2=[],.val .bool true,.val .bool false)
    | none=>none)
   | _,_=>none)
  | .neq=>(match s.ev y,look T E.tt with
   | .raw (.slice none 0 0),some ⟨.d0 _ _,_⟩=>(match (s.ev x).els s with
    | some r=>some (r.2=[],.val .bool false,.val .bool true)
    | none=>none)
   | _,_=>none)
  | _=>none
 | _=>none
def Am:Op->Bool
 | .fieldAddr _ _ _=>true
 | .indexAddr _ _ _=>true
 | .nilCheck _=>true
 | _=>false
def BO (o:Oper):List Nat:=o.op.operands.toList.filterMap λ|.tmp t=>some t|_=>none
def Ac (e:i6) (p:List Step) (r:Sigma Ty.den):Bool :=
 match e with
 | .var t _=>decide (r.1=t)
 | .own (.d0 true t) _=>(match p with
  | .idx _::_=>decide (r.1=.d0 true t)
  | _=>false)
 | _=>false
def ye (E:Env) (T U T2:TypeId) (x y ad:AV) (d:Nat) (s:St):Option (Prop×St) :=
 match x,ad,look T E.tt,look U E.tt with
 | .at_ i p,.ptr j q,some ⟨.d0 _ t0,_⟩,some ⟨u1,_⟩=>(match s.obj i,Nat.beq i j && (match u1 with|.d0 _ _=>true|.str=>true|_=>false) with
  | some e,true=>(match j9 e.ty e.x p with
   | some ⟨.d0 true u,l⟩=>(match y.vw s t0 with
    | some (⟨t,m⟩,g) =>
     if hu:u=t0 then
      if ht:t=t0 then
       (match u6 e.ty e.x p (.d0 true t0) (Q4 hu l++Q4 ht m) with
        | some r=>(match I6 E T2 (.d0 true t0) && Ac e p r && !g.contains i && wV g && g.all (λ i=>!pinned i) with
         | true=>some (q=p/\(l.length+m.length:Nat)<=140737488355328/\(l.length+m.length:Nat)*(t0.wb:Nat)<=140737488355328,
          ((St.w9 g (s.put (some d) .any)).kill i e.kd p).w8 i (e.E3 r))
         | false=>none)
        | none=>none)
      else none
     else none
    | none=>none)
   | _=>none)
  | _,_=>none)
 | _,_,_,_=>none
def DW (E:Env) (T U:TypeId) (x y:Operand) (d:Nat):List Oper->St->Option (Prop×St×Nat)
 | [],_=>none
 | o::rest,s=>match o.guard,H7 E.nt o.dst with
  | none,true=>(match Am o.op with
   | true=>(match o.dst with
    | some d1=>(match !Nat.beq d1 d && !(BO o).contains d && (match x with|.tmp t=>!Nat.beq t d1|_=>true) && (match y with|.tmp t=>!Nat.beq t d1|_=>true),(match m0 E o s with|.fail _=>none|.ok v _=>some (True,v)|.F8 p v _=>some (p,v)) with
     | true,some (p,v)=>(match DW E T U x y d rest (s.put (some d1) v) with
      | some (p2,s2,n)=>some (p/\p2,s2,n+1)
      | none=>none)
     | _,_=>none)
    | none=>none)
   | false=>(match o.op with
    | .store T2 ad (.tmp d')=>(match Nat.beq d' d && (match ad with|.tmp t=>!Nat.beq t d|_=>true) with
     | true=>(match ye E T U T2 (s.ev x) (s.ev y) (s.ev ad) d s with
      | some (p,s2)=>some (p,s2.put o.dst (.raw undef),1)
      | none=>none)
     | false=>none)
    | _=>none))
  | _,_=>none
def MD (E:Env) (o:Oper) (rest:List Oper) (s:St):Option (Prop×St×Nat) :=
 match o.guard,o.dst,H7 E.nt o.dst,o.op with
 | none,some d,true,.call c=>(match c.callee,c.args.toList,c.argTypes.toList with
  | .builtin .append,[x,y],[T,U]=>(match s.ev x with
   | .at_ i p=>(match (AV.at_ i p).vl s with
    | some _=>none
    | none=>DW E T U x y d rest s)
   | _=>none)
  | _,_,_=>none)
 | _,_,_,_=>none
def Bp (s:St) (ks:List PK) (i:Nat) (e:i6) (p:List Step) (t:Ty) (ys:List Operand):Option (DK ks×List Nat×List Nat) :=
 match (T9.loose ks (s.K3 ys)).contains i with
 | false=>AV.vu s ks (s.K3 ys)
 | true=>match e with
  | .var u x=>(match u6 u x p (.hole t) ([]:List t.den) with
   | some r=>AV.vu ((s.kill i (i6.var u x).kd p).w8 i (.var r.1 r.2)) ks (((s.kill i (i6.var u x).kd p).w8 i (.var r.1 r.2)).K3 ys)
   | none=>none)
  | _=>none
def GD (E:Env) (T2:TypeId) (g:FuncId) (x:AV) (ys:List Operand) (ad:AV) (d:Nat) (s:St):Option (Prop×St) :=
 match look g E.C9,x,ad with
 | some ⟨.own (.d0 true t)::ks,[.d0 true t'],pre,fn,_,_⟩,.at_ i p,.ptr j q=>(match s.obj i,Nat.beq i j && (match E8 ks with|[]=>true|_=>false) && (Ty.d0 true t').K0 && I6 E T2 (.d0 true t) with
  | some e,true=>(match j9 e.ty e.x p,Bp s ks i e p t ys with
   | some ⟨u,l⟩,some (y,[],[]) =>
    if h:u=.d0 true t then
     (match u6 e.ty e.x p (.d0 true t') (fn (I8 h l,y)).1 with
     | some r=>(match I6 E T2 (.d0 true t') && Ac e p r with
      | true=>some (q=p/\pre (I8 h l,y),((s.put (some d) .any).X3 i e.vB).w8 i (e.E3 r))
      | false=>none)
     | none=>none)
    else none
   | _,_=>none)
  | _,_=>none)
 | _,_,_=>none
def El (E:Env) (g:FuncId) (x:Operand) (ys:List Operand) (d:Nat):List Oper->St->Option (Prop×St×Nat)
 | [],_=>none
 | o::rest,s=>match o.guard,H7 E.nt o.dst with
  | none,true=>(match Am o.op with
   | true=>(match o.dst with
    | some d1=>(match !Nat.beq d1 d && !(BO o).contains d && (x::ys).all (λ z=>match z with|.tmp t=>!Nat.beq t d1|_=>true),(match m0 E o s with|.fail _=>none|.ok v _=>some (True,v)|.F8 p v _=>some (p,v)) with
     | true,some (p,v)=>(match El E g x ys d rest (s.put (some d1) v) with
      | some (p2,s2,n)=>some (p/\p2,s2,n+1)
      | none=>none)
     | _,_=>none)
    | none=>none)
   | false=>(match o.op with
    | .store T2 ad (.tmp d')=>(match Nat.beq d' d && (match ad with|.tmp t=>!Nat.beq t d|_=>true) with
     | true=>(match GD E T2 g (s.ev x) ys (s.ev ad) d s with
      | some (p,s2)=>some (p,s2.put o.dst (.raw undef),1)
      | none=>none)
     | false=>none)
    | _=>none))
  | _,_=>none
def ME (E:Env) (o:Oper) (rest:List Oper) (s:St):Option (Prop×St×Nat) :=
 match o.guard,o.dst,H7 E.nt o.dst,o.op with
 | none,some d,true,.call c=>(match c.callee,c.args.toList with
  | .value (.func g),x::ys=>(match s.ev x with
   | .at_ i p=>(match (AV.at_ i p).vl s with
    | some _=>none
    | none=>El E g x ys d rest s)
   | _=>none)
  | _,_=>none)
 | _,_,_,_=>none
def GC (_E:Env) (_o:Oper) (_s:St):Option (Prop×St):=none
def PK.l4:PK->Bool
 | .own _|.rw _|.mu _=>true
 | _=>false
def pm:List (Option Nat)->List Step->Bool
 | [],[]=>true
 | some n::q,.l8 m::p=>Nat.beq n m && pm q p
 | none::q,.idx _::p=>pm q p
 | _,_=>false
def Hh (_E:Env) (_o:Oper) (_s:St):Option (Prop×St):=none
def vJ:Ty->Ty->Bool
 | .pair a b,.pair c d=>vJ a c && vJ b d
 | .arr n a,.arr m b=>Nat.beq n m && vJ a b
 | .d0 true a,.d0 true b=>vJ a b
 | .d0 _ a,.B9 b=>decide (a=b)
 | a,b=>decide (a=b)
def msV:(u t:Ty)->u.den->t.den
 | .pair a b,.pair c d,y=>(msV a c y.1,msV b d y.2)
 | .arr n a,.arr _ b,y=>if h:a=b then h▸y else List.map (msV a b) y
 | .d0 true a,.d0 true b,y=>if h:a=b then h▸y else List.map (msV a b) y
 | .d0 true a,.B9 b,y=>if h:a=b then (1,h▸y,[]) else (1,[],[])
 | .d0 false a,.B9 b,y=>if h:a=b then (0,h▸y,[]) else (0,[],[])
 | a,b,y=>if h:a=b then h▸y else b.s4
def yV:(u t:Ty)->u.den->Option t.den
 | .pair a b,.pair c d,y=>(match yV a c y.1,yV b d y.2 with
  | some x1,some x2=>some (x1,x2)
  | _,_=>none)
 | u,t,y=>if h:u=t then some (I8 h y) else if h:u.sh=t then (match u.W4 with
  | true=>some (cast ((E9 u).symm.trans (congrArg Ty.den h)) y)
  | false=>none) else (match vJ u t with
  | true=>some (msV u t y)
  | false=>none)
def AV.MG (i:Nat) (v:AV):AV :=
 match v.i8 i with
 | false=>v
 | true=>match v with
  | .ptr j []=>.ptr j []
  | _=>.any
def St.xM (i:Nat) (s:St):St:={ s with fr:=mapA (AV.map (AV.MG i)) s.fr }
def AV.Mo (s:St) (i:Nat) (t:Ty) (v:AV):AV :=
 match v.i8 i with
 | false=>v
 | true=>match v.asV s t with
  | some x=>.val t x
  | none=>(match v with
   | .ptr j p=>(match s.vI t j p with
    | some x=>.M1 t x
    | none=>.any)
   | _=>.any)
def St.wQ (i:Nat) (t:Ty) (s:St):St:={ fr:=mapA (AV.map (AV.Mo s i t)) s.fr,hp:=del i s.hp }
def EC (s:St):List AV->Option (Nat×Ty)
 | []=>none
 | .sub i [] _ _::l=>(match s.obj i,l.any (·.i8 i),pinned i with
  | some (.own (.d0 true u) _),true,false=>some (i,.d0 false u.sh)
  | _,_,_=>EC s l)
 | .at_ i []::l=>(match s.obj i,l.any (·.i8 i),pinned i with
  | some (.own (.d0 true u) _),true,false=>some (i,.d0 false u.sh)
  | _,_,_=>EC s l)
 | _::l=>EC s l
def UW:AV->Bool
 | .val (.d0 false _) _=>true
 | _=>false
def JK (s:St):List AV->Option (Nat×Ty)
 | []=>none
 | .at_ i []::l=>(match s.obj i,pinned i with
  | some (.own (.d0 true u) _),false=>some (i,.d0 false u.sh)
  | _,_=>JK s l)
 | _::l=>JK s l
def XB (s:St) (l:List AV):Option (Nat×Ty) :=
 match EC s l,l.any UW with
 | some r,_=>some r
 | none,true=>JK s l
 | none,false=>none
def St.xF:List Nat->St->St
 | [],s=>s
 | i::l,s=>(match s.obj i,pinned i with
  | some (.own (.d0 true u) _),false=>St.xF l (s.wQ i (.d0 false u.sh))
  | _,_=>St.xF l s)
def Ba (E:Env) (o:Oper) (s:St):Option St :=
 match E.ps.any PK.l4,o.op with
 | false,.call c=>(match c.callee,c.args.toList with
  | .value (.func g),x::_=>(match look g E.C9,s.ev x with
   | some ⟨.rw t::_,_,_,_,_,_⟩,.ptr i []=>(match s.obj i with
    | some (.var u y)=>(match decide (u=t) with
     | true=>none
     | false=>(match yV u t y with
      | some z=>some ((s.xM i).w8 i (.var t z))
      | none=>none))
    | _=>none)
   | some ⟨.rd t::_,rs,_,_,_,nw⟩,.ptr i []=>(match rs.all Ty.K0 || nw,pinned i,s.vI t i [] with
    | false,false,some _=>some (s.wQ i t)
    | _,_,_=>none)
   | some ⟨ps,rs,_,_,_,nw⟩,_=>(match rs.all Ty.K0 || nw with
    | true=>none
    | false=>some (s.xF (T9.loose ps (s.K3 c.args.toList))))
   | _,_=>none)
  | _,_=>none)
 | false,.buildSlice _ _ parts=>(match XB s (parts.toList.map λ q=>s.ev q.2) with
  | some (i,t)=>(match pinned i with
   | false=>some (s.wQ i t)
   | true=>none)
  | none=>none)
 | _,_=>none
def PK.vB:PK->Bool
 | .own _=>true
 | _=>false
def DJ (E:Env) (o:Oper) (s:St):Option St :=
 match o.op with
 | .call c=>(match c.callee,c.args.toList with
  | .value (.func g),.tmp tx::_=>(match look g E.C9,look tx s.fr with
   | some ⟨.own (.d0 true t)::ks,rs,_,_,_,_⟩,some (.at_ i (st::p))=>(match s.obj i with
    | some (.var u y)=>(match j9 u y (st::p),u6 u y (st::p) (.hole t) ([]:List t.den) with
     | some ⟨v,l⟩,some r =>
      if h:v=.d0 true t then
       (match (ks.any PK.vB || rs.isEmpty) && ((s.kill i (i6.var u y).kd (st::p)).w8 i (.var r.1 r.2)).fresh (1600000+tx) with
       | true=>some { ((s.kill i (i6.var u y).kd (st::p)).w8 i (.var r.1 r.2)).w8 (1600000+tx) (.own (.d0 true t) (I8 h l)) with fr:=Ex.put tx (.at_ (1600000+tx) []) ((s.kill i (i6.var u y).kd (st::p)).w8 i (.var r.1 r.2)).fr }
       | false=>none)
      else none
     | _,_=>none)
    | _=>none)
   | _,_=>none)
  | _,_=>none)
 | _=>none
def Dr (E:Env) (o:Oper) (s:St):St :=
 match o.op with
 | .call c=>(match c.callee,c.args.toList with
  | .value (.func g),x::_=>(match look g E.C9,s.ev x with
   | some ⟨.mu _::_,_,_,_,_,_⟩,.at_ i []=>(match s.obj i with
    | some (.own (.B9 t) z)=>(match Nat.ble 1 z.1 && Nat.ble z.1 2 with
     | true=>match t.shared with|false=>s|true=>{ fr:=mapA (AV.map λ v=>match v.i8 i with|false=>v|true=>match v with|.at_ j []=>.at_ j []|_=>.any) s.fr,hp:=Ex.put i (.own (.d0 true t) z.2.1) s.hp }
     | false=>s)
    | _=>s)
   | _,_=>s)
  | _,_=>s)
 | _=>s
def MN (E:Env) (o:Oper) (s:St):St:=(DJ E o ((Ba E o s).getD s)).getD ((Ba E o s).getD s)
def Dt (E:Env) (o:Oper) (s:St):St:=MN E o (Dr E o s)
def wF (E:Env) (ops:Array Oper):Nat->List Oper->St->(St->Tree (E.rs++E8 E.ps))->Tree (E.rs++E8 E.ps)
 | _,[],s,k=>k s
 | n+1,_::rest,s,k=>wF E ops n rest s k
 | 0,o::rest,s0,k=>let s:=Dt E o s0
  match MD E o rest s with
  | some (p,s',n)=>.f8 p (wF E ops n rest s' k)
  | none=>match ME E o rest s with
  | some (p,s',n)=>.f8 p (wF E ops n rest s' k)
  | none=>match GC E o s with
  | some (p,s')=>.f8 p (wF E ops 0 rest s' k)
  | none=>match Hh E o s with
  | some (p,s')=>.f8 p (wF E ops 0 rest s' k)
  | none=>match o.guard,H7 E.nt o.dst,brA E s o with
   | none,true,some (p,v1,v2)=>.both p (wF E ops 0 rest (s.put o.dst v1) k) (wF E ops 0 rest (s.put o.dst v2) k)
   | _,_,_=>yy E ops o s λ s'=>wF E ops 0 rest s' k
def OR.get:OR->Option (Prop×AV×St)
 | .fail _=>none
 | .ok v s=>some (True,v,s)
 | .F8 p v s=>some (p,v,s)
def Y2 (E:Env) (o:Oper) (s:St):Option (Prop×St) :=
 match H7 E.nt o.dst with
 | false=>none
 | true =>
 match o.op with
 | .pick c a b=>match s.ev c with
  | .val .bool g=>some (True,s.put o.dst (match g with|true=>s.ev a|false=>s.ev b))
  | _=>none
 | _=>match (m0 E o s).get with
  | none=>none
  | some (p,v,s')=>some (p,s'.put o.dst v)
def I0 (E:Env) (ops:Array Oper) (o:Oper) (s:St):Option (Prop×St) :=
 match o.guard with
 | none=>Y2 E o s
 | some (j,want)=>match AN ops j with
  | none=>none
  | some g=>match s.ev (.tmp g) with
   | .raw (.tuple _)=>match H7 E.nt o.dst with
    | true=>some (True,s.put o.dst (.raw undef))
    | false=>none
   | .val .bool b=>match H7 E.nt o.dst with
    | false=>none
    | true=>match b == want with
     | true=>Y2 E o (s.put (some g) (.val .bool b))
     | false=>some (True,(s.put (some g) (.val .bool b)).put o.dst (.raw undef))
   | _=>none
def looks (ops:Array Oper) (o:Oper):List Nat :=
 (o.op.operands.toList.filterMap λ|.tmp t=>some t|_=>none) ++
 (match o.guard with
 | some (g,_)=>(AN ops g).toList
 | none=>[])
def Ng (ops:Array Oper) (x y:Oper):Bool :=
 (match x.dst with
 | some d=>!(looks ops y).contains d && (match y.dst with|some e=>!(Nat.beq d e)|none=>true)
 | none=>true) &&
 (match y.dst with
 | some d=>!(looks ops x).contains d
 | none=>true)
def indep (ops:Array Oper) (x y:Oper):Bool:=Ng ops x y && !(Nat.beq ((x.dst.getD 0) % 1000) ((y.dst.getD 0) % 1000))
def l4 (E:Env) (o:Oper) (s:St):List Nat :=
 match o.op with
 | .store _ a x=>(s.ev a).G8++(s.ev x).G8
 | .box _ x=>(s.ev x).G8
 | .build _ parts=>(s.K3 (parts.toList.map (·.2))).G8
 | .buildSlice _ _ parts=>(s.K3 (parts.toList.map (·.2))).G8
 | .mapUpdate _ m _ _=>(s.ev m).G8
 | .call c=>(match c.callee with
  | .value f=>(match s.ev f with
   | .C7 g caps=>(match look g E.C9 with
    | some c'=>(match c'.ps.any PK.l4 with
     | false=>[]
     | true=>((s.K3 c.args.toList).app caps).G8)
    | none=>[])
   | .val (.fn g) _=>(match look g E.C9 with
    | some c'=>(match c'.ps.any PK.l4 with
     | false=>[]
     | true=>((s.K3 c.args.toList).app .nil).G8)
    | none=>[])
   | .val (.box false (some g) t) y=>(match look g E.C9 with
    | some c'=>(match c'.ps.any PK.l4 with
     | false=>[]
     | true=>((s.K3 c.args.toList).app (.cons (.M1 t (Option.getD (y:Option t.den) t.s4)) .nil)).G8)
    | none=>[])
   | _=>[])
  | .builtin .append=>(s.K3 c.args.toList).G8
  | .builtin .copy=>(s.K3 c.args.toList).G8
  | .builtin .clear=>(s.K3 c.args.toList).G8
  | _=>[])
 | _=>[]
structure Met where
 i:Nat
 o:Oper
 s:St
 T:List Nat
def K2 (o:Oper) (v:AV):AV :=
 match o.guard,o.op with
 | none,.extract _ j=>(match v with
  | .K6 l=>(match m0.nth j l with
   | some v=>.K6 (.cons v .nil)
   | none=>.any)
  | _=>.any)
 | _,_=>v
def By (ops:Array Oper) (e:Met) (y:Oper) (Ty:List Nat):Bool :=
 (match e.T with
  | []=>true
  | T=>((looks ops y).all λ m=>T.all λ i=>!(K2 y (e.s.get m)).i8 i) && T.all λ i=>!(Nat.beq (i % 1000) ((y.dst.getD 0) % 1000))) &&
 (match Ty with
  | []=>true
  | T=>(looks ops e.o).all λ m=>T.all λ i=>!(K2 e.o (e.s.get m)).i8 i)
def E0:List Oper->List Nat->List Nat
 | [],acc=>acc
 | o::l,acc=>E0 l (acc++[o.after.toList.foldl (λ m e=>match Region.binds .any e with|true=>Nat.lor (Nat.lor m (2^e.on)) (acc.getD e.on 0)|false=>m) 0])
def MA (_:List Nat) (o:Oper) (_ i:Nat):Bool :=
 o.after.toList.all λ e=>!Region.binds .any e || Nat.blt e.on i
def NB (M:List Nat) (o:Oper) (m n:Nat):Bool :=
 (List.range n).all λ j=>!(m.testBit j) || o.after.toList.any λ e=>Region.binds .any e && (Nat.beq e.on j || (M.getD e.on 0).testBit j)
def wW (ops:Array Oper):Bool :=
 let M:=E0 ops.toList []
 let L:=ops.toList
 let n:=L.length
 (List.range n).all λ i=>match L[i]? with
  | none=>false
  | some o=>MA M o (M.getD i 0) i && NB M o (M.getD i 0) n &&
   (List.range i).all λ j=>match L[j]? with
    | none=>false
    | some x=>(M.getD i 0).testBit j || indep ops x o
def AV.clean:AV->Bool
 | .ptr _ _|.at_ _ _|.sub _ _ _ _=>false
 | .cons a b=>a.clean && b.clean
 | .K6 l|.C7 _ l|.bx l|.rc _ l=>l.clean
 | _=>true
def Bx {α:Type _}:List (Nat×α)->Bool
 | []=>true
 | (n,_)::l=>(match l with
  | []=>true
  | (m,_)::_=>Nat.blt n m) && Bx l
def Cx:List Nat->Bool
 | []=>true
 | a::l=>!l.contains a && Cx l
def wD (ops:List Oper):List Nat:=ops.filterMap (·.dst)
def BU (ops:Array Oper) (s:St):Bool :=
 Bx s.fr && Cx (wD ops.toList) && (wD ops.toList.dropLast).all λ d=>(s.get d).clean
def zn (ops:Array Oper) (j:Nat):Bool:=(List.range ops.size).all λ i=>!Nat.blt j i || ((E0 ops.toList []).getD i 0).testBit j
def JI (ops:Array Oper) (s:St):Bool :=
 Bx s.fr && Cx (wD ops.toList) && (List.range ops.size).all λ j=>zn ops j || (match ops[j]? with
  | some o=>(match o.dst with
   | some d=>(s.get d).clean
   | none=>true)
  | none=>true)
def R0:Code->Nat
 | .region id _ _=>id
 | .seq a _=>R0 a
 | .block _ c=>R0 c
 | .loop c=>R0 c
 | .cond _ a _=>R0 a
 | _=>0
structure vW where
 k:Nat
 x:Operand
 y:Operand
 T:TypeId
 U:TypeId
 d:Nat
def Hb (E:Env) (o:Oper) (s:St) (i:Nat):Option vW :=
 match o.guard,o.dst,H7 E.nt o.dst,o.op with
 | none,some d,true,.call c=>(match c.callee,c.args.toList,c.argTypes.toList with
  | .builtin .append,[x,y],[T,U]=>(match s.ev x with
   | .at_ j p=>(match (AV.at_ j p).vl s with
    | some _=>none
    | none=>some ⟨i,x,y,T,U,d⟩)
   | _=>none)
  | _,_,_=>none)
 | _,_,_,_=>none
def Mp (o:Oper):Bool:=match o.guard,o.op with|none,.store _ _ _=>true|_,_=>false
def quiet (o:Oper):Bool :=
 o.guard.isNone && (match o.op with
  | .move _=>true
  | .load _ _=>true
  | .fieldAddr _ _ _=>true
  | .indexAddr _ _ _=>true
  | .nilCheck _=>true
  | .binOp .rem _ _ _ _=>true
  | _=>false)
def zZ (d:Option Nat) (L:List Nat):Bool :=
 match d with
 | some e=>!L.contains e
 | none=>true
def Ei (ops:Array Oper) (M:List Nat) (k n:Nat):Bool :=
 Nat.beq (n+1) ops.size && Nat.blt k n && (match ops[k]? with
  | some ok=>(List.range n).all λ j=>(M.getD n 0).testBit j && (Nat.beq j k || (match ops[j]? with
   | some o=>zZ o.dst ok.dst.toList && ((M.getD k 0).testBit j || ((quiet o || Mp o) && zZ o.dst (looks ops ok)))
   | none=>false))
  | none=>false)
def zi (ops:Array Oper) (q:vW) (n j:Nat) (o:Oper) (s:St):Bool :=
 match o.op with
 | .store _ ad x=>(match s.ev ad,s.ev x with
  | .ptr j0 _,.val _ _=>!(s.ev q.x).i8 j0 && !(s.ev q.y).i8 j0
  | _,_=>false) && o.guard.isNone && o.dst.isNone && (List.range n).all λ j'=>Nat.ble j' j || (match ops[j']? with
   | some o'=>zZ o'.dst (looks ops o)
   | none=>true)
 | _=>false
def DY (ops:Array Oper) (M:List Nat) (q:vW) (n:Nat) (s:St):Bool :=
 (List.range n).all λ j=>Nat.beq j q.k || (match ops[j]? with
  | some o=>(M.getD q.k 0).testBit j || quiet o || zi ops q n j o s
  | none=>true)
def zP (E:Env) (ops:Array Oper) (M:List Nat) (q:vW) (i:Nat) (o:Oper) (s:St):Option (Prop×St) :=
 match o.guard,o.op with
 | none,.store T2 ad (.tmp d')=>(match Nat.beq d' q.d && (match ad with|.tmp t=>!Nat.beq t q.d|_=>true) && Ei ops M q.k i && DY ops M q i s && H7 E.nt o.dst with
  | true=>(match ye E q.T q.U T2 (s.ev q.x) (s.ev q.y) (s.ev ad) q.d s with
   | some (p,s2)=>some (p,s2.put o.dst (.raw undef))
   | none=>none)
  | false=>none)
 | _,_=>none
def Be (E:Env) (ops:Array Oper) (M:List Nat) (q:vW):Nat->List Oper->St->List Met->(St->Tree (E.rs++E8 E.ps))->Tree (E.rs++E8 E.ps)
 | _,[],_,_,_=>.stuck "draw: pending"
 | i,[o],s,_,k=>(match zP E ops M q i o s with
  | some (p,s2)=>.f8 p (k s2)
  | none=>.stuck "draw: append")
 | i,o::o2::rest,s,acc,k =>
  match acc.all λ e=>(M.getD i 0).testBit e.i || By ops e o (l4 E o s) with
  | false=>.stuck "draw: objects"
  | true=>yy E ops o s λ s'=>Be E ops M q (i+1) (o2::rest) s' (⟨i,o,s,l4 E o s⟩::acc) k
def Dn (E:Env) (ops:Array Oper) (M:List Nat):Nat->List Oper->St->List Met->(St->Tree (E.rs++E8 E.ps))->Tree (E.rs++E8 E.ps)
 | _,[],s,_,k=>k s
 | i,o::rest,s,acc,k =>
  match Hb E o s i with
  | some q=>Be E ops M q (i+1) rest s acc k
  | none=>match acc.all λ e=>(M.getD i 0).testBit e.i || By ops e o (l4 E o s) with
   | false=>.stuck "draw: objects"
   | true=>yy E ops o s λ s'=>Dn E ops M (i+1) rest s' (⟨i,o,s,l4 E o s⟩::acc) k
def Dp (E:Env) (ops:Array Oper) (M:List Nat):Nat->List Oper->St->List Met->(St->Tree (E.rs++E8 E.ps))->Tree (E.rs++E8 E.ps)
 | _,[],s,_,k=>k s
 | i,o::rest,s,acc,k =>
  match acc.all λ e=>(M.getD i 0).testBit e.i || By ops e o (l4 E o s) with
  | false=>.stuck "draw: objects"
  | true=>yy E ops o s λ s'=>Dp E ops M (i+1) rest s' (⟨i,o,s,l4 E o s⟩::acc) k
def YS (ops:Array Oper) (s:St) (t:Nat):Option Nat :=
 ops.toList.findSome? λ o=>match o.dst,o.op with
  | some d,.slice _ (.tmp a) _ _ _=>(match Nat.beq d t with
   | true=>ops.toList.findSome? λ o2=>(match o2.dst,o2.op with
    | some d2,.move (.tmp x)=>(match Nat.beq d2 a,look x s.fr with
     | true,some (.at_ i [])=>some i
     | _,_=>none)
    | _,_=>none)
   | false=>none)
  | _,_=>none
def Xi (ops:Array Oper) (s:St):Option Nat :=
 ops.toList.findSome? λ o=>match o.op with
  | .buildSlice _ _ parts=>(match parts.toList.filterMap λ q=>(match q.2 with|.tmp t=>YS ops s t|_=>none) with
   | i::j::_=>(match Nat.beq i j with|true=>some i|false=>none)
   | _=>none)
  | _=>none
def MH (m i:Nat) (p:List Step) (s:St):St :=
 match s.obj i with
 | some (.var u y)=>(match j9 u y p with
  | some ⟨.B9 t0,z⟩=>(match t0.shared,u6 u y p (.B9 t0) ((0,z.2.1,[]):Nat×(List t0.den×List t0.den)) with
   | true,some r=>{ ((s.xM i).w8 i (.var r.1 r.2)) with fr:=Ex.put m (.val (.d0 false t0) z.2.1) ((s.xM i).w8 i (.var r.1 r.2)).fr }
   | _,_=>s)
  | _=>s)
 | _=>s
def Gh (E:Env) (m:Nat) (t:Ty) (s:St):St :=
 match E.ps.any PK.l4,s.get m with
 | false,.ptr i []=>(match s.obj i with
  | some (.var u y)=>(match decide (u=t) with
   | true=>s
   | false=>(match yV u t y with
    | some z=>(s.xM i).w8 i (.var t z)
    | none=>s))
  | _=>s)
 | _,.at_ i p=>(match t with
  | .d0 false _=>MH m i p s
  | _=>s)
 | _,.raw (.slice none 0 0)=>(match t with
  | .d0 false u=>{ s with fr:=Ex.put m (.val (.d0 false u) ([]:List u.den)) s.fr }
  | _=>s)
 | _,_=>s
def Ah (E:Env):List (Nat×Option Ty)->St->St
 | [],s=>s
 | (m,some t)::l,s=>Ah E l (Gh E m t s)
 | (_,none)::l,s=>Ah E l s
def Ww (ops:Array Oper):Nat:=(ops.toList.findSome? λ o=>o.dst).getD 0
def Dm (E:Env) (ops:Array Oper) (s:St):St :=
 match look (998000+Ww ops) E.B8 with
 | some l=>Ah E l s
 | none=>s
def Hy (E:Env) (ops:Array Oper) (s:St):St :=
 match E.ps.any PK.l4,Xi ops s with
 | false,some i=>(match s.obj i,pinned i with
  | some (.own (.d0 true u) _),false=>s.wQ i (.d0 false u.sh)
  | _,_=>s)
 | _,_=>s
def zU (E:Env) (ops:Array Oper) (s:St):St:=Hy E ops (Dm E ops s)
def Ty.Gc:Ty->Bool
 | .int _|.bool|.str|.unit=>true
 | .pair a b=>a.Gc && b.Gc
 | _=>false
def Aw (o:Oper) (s:St):Bool :=
 match o.guard,o.op with
 | none,.store _ a x=>(match s.ev a,s.ev x with
  | .ptr _ _,.val t _=>t.Gc
  | _,_=>false)
 | _,_=>false
def Vc (o:Oper):Bool :=
 match o.guard,o.op with
 | none,.indexAddr _ _ _=>true
 | none,.fieldAddr _ _ _=>true
 | _,_=>false
def It (o:Oper) (s:St):Bool :=
 match o.guard,o.op with
 | none,.indexAddr _ a i=>(match s.ev a,s.ev i with
  | .at_ _ _,.val (.int _) _=>true
  | _,_=>false)
 | none,.fieldAddr _ a _=>(match s.ev a with
  | .ptr _ _=>true
  | _=>false)
 | _,_=>false
def Ge (o:Oper) (s:St):Option (Nat×(Bool×Ty)×List Step) :=
 match Aw o s,o.op with
 | true,.store _ a _=>(match s.ev a with
  | .ptr j q=>(look j s.hp).map λ e=>(j,e.kd,q)
  | _=>none)
 | _,_=>none
def tyP:Ty->List Step->Option Ty
 | t,[]=>some t
 | .pair a _,.l8 0::p=>tyP a p
 | .pair _ b,.l8 (n+1)::p=>tyP b (.l8 n::p)
 | .arr _ t,.idx _::p=>tyP t p
 | .d0 true t,.idx _::p=>tyP t p
 | _,_=>none
def Bk (j:Nat) (kd:Bool×Ty) (q:List Step) (v:AV):Bool :=
 match v with
 | .ptr i p=>!Nat.beq j i || kp q p
 | .at_ i p=>!Nat.beq j i || (match AV.Bm j kd q (.at_ i p) with|.at_ _ _=>true|_=>false)
 | .val _ _=>true
 | _=>false
def hpk (s:St) (i:Nat):Option (Bool×Ty):=(look i s.hp).map i6.kd
def Bl (o:Oper) (s:St) (j:Nat) (kd:Bool×Ty) (q:List Step):Bool :=
 match o.guard,o.op with
 | none,.move a=>Bk j kd q (s.ev a)
 | none,.fieldAddr _ a n=>(match s.ev a with
  | .ptr i p=>Bk j kd q (.ptr i p) && Bk j kd q (.ptr i (p++[.l8 n]))
  | _=>false)
 | none,.load _ a=>(match s.ev a with
  | .ptr i p=>Bk j kd q (.ptr i p) && Bk j kd q (.at_ i p) && (match hpk s i with
   | some k=>(match tyP k.2 p with
    | some u=>!u.shared
    | none=>false)
   | none=>false)
  | _=>false)
 | _,_=>false
def Mj (ops:Array Oper):List Nat:=ops.toList.filterMap λ o=>match Vc o with|true=>o.dst|false=>none
def K8:List Oper->St->St
 | [],s=>s
 | o::l,s=>match o.op with
  | .call c=>(match c.callee,o.dst with
   | .builtin .append,some d=>K8 l { s with fr:=Ex.put d .any s.fr }
   | _,_=>K8 l s)
  | _=>K8 l s
def Np (i:Nat) (s:St):List Nat->Bool
 | []=>false
 | t::l=>(s.get t).i8 i || Np i s l
def Q6 (live:List Nat) (s0:St):List (Nat×i6)->St->St
 | [],s=>s
 | (i,_)::l,s=>match pinned i || Np i s0 live with
  | true=>Q6 live s0 l s
  | false=>Q6 live s0 l (s.drop i)
def AV.ren (i j:Nat):AV->AV:=AV.map λ v =>
 match v.i8 i with
 | false=>v
 | true=>match v with
  | .ptr _ p=>.ptr j p
  | .at_ _ p=>.at_ j p
  | .sub _ p a b=>.sub j p a b
  | _=>.any
def settle (m:Nat) (t:Ty) (s:St):St :=
 match s.get m with
 | .raw (.slice none 0 0)=>(match t,s.fresh (1000000+m) with
  | .d0 true u,true=>{ s.w8 (1000000+m) (.own (.d0 true u) ([]:List u.den)) with fr:=Ex.put m (.at_ (1000000+m) []) s.fr }
  | _,_=>s)
 | .at_ i []=>(match s.obj i with
  | some (.own u x)=>(match pinned i || !s.fresh (1000000+m) with
   | true=>s
   | false=>{ fr:=mapA (AV.ren i (1000000+m)) s.fr,hp:=Ex.put (1000000+m) (.own u x) (del i s.hp) })
  | _=>s)
 | .sub i [] lo hi=>(match (AV.sub i [] lo hi).vl s with
  | some (⟨u,x⟩,_)=>(match pinned i || !(s.drop i).fresh (1000000+m) with
   | true=>s
   | false=>{ (s.drop i).w8 (1000000+m) (.own u x) with fr:=Ex.put m (.at_ (1000000+m) []) (s.drop i).fr })
  | none=>s)
 | .val u x=>(match decide (u=t) && s.fresh (1000000+m) with
  | true=>{ s.w8 (1000000+m) (.own u x) with fr:=Ex.put m (.at_ (1000000+m) []) s.fr }
  | false=>s)
 | _=>s
def X9:List (Nat×Option Ty)->St->St
 | [],s=>s
 | (_,none)::l,s=>X9 l s
 | (m,some t)::l,s=>X9 l (settle m t s)
def canon (live:List (Nat×Option Ty)) (s:St):St :=
 let ts:=live.map (·.1)
 let s:=Q6 ts s s.hp s
 let s:=X9 live s
 let s:=Q6 ts s s.hp s
 { fr:=ts.map λ t=>(t,s.get t),hp:=s.hp }
def St.cutAt (E:Env) (c:Code) (s:St):St:=canon ((look (R0 c) E.B8).getD []) (Ah E ((look (R0 c) E.B8).getD []) s)
def yl (E:Env) (s:St):List ResultVar->Option AV
 | []=>some .nil
 | .tmp t::l=>match yl E s l with|some v=>some (.cons (s.ev (.tmp t)) v)|none=>none
 | .cell a T::l=>match s.ev (.tmp a) with
  | .ptr i p=>(match s.part i p with
   | some ⟨u,y⟩=>(match I6 E T u with
    | true=>(match yl E s l with
     | some v=>(match u.shared with|true=>some (.cons (.val u y) v)|false=>some (.cons (.at_ i p) v))
     | none=>none)
    | false=>none)
   | none=>none)
  | _=>none
def Iv (s:St) (t:Ty) (used:List Nat) (a:AV):Option (t.den×List Nat) :=
 match a with
 | .at_ i []=>(match used.contains i || pinned i with
  | true=>none
  | false=>match s.obj i with
   | some (.var u x)=>if h:u=t then some (I8 h x,i::used) else none
   | some (.own u x)=>if h:u=t then some (I8 h x,i::used) else none
   | _=>none)
 | .sub i [] lo hi=>(match used.contains i || pinned i with
  | true=>none
  | false=>match (AV.sub i [] lo hi).vl s with
   | some (⟨u,x⟩,_)=>if h:u=t then some (I8 h x,i::used) else none
   | none=>none)
 | .ptr i []=>(match used.contains i || pinned i with
  | true=>none
  | false=>match s.obj i with
   | some (.var u x)=>if h:Ty.box true none u=t then some (I8 h (some x),i::used) else none
   | _=>none)
 | .C7 f (.cons (.ptr i []) .nil)=>(match used.contains i || pinned i with
  | true=>none
  | false=>match s.obj i with
   | some (.var u x)=>if h:Ty.box true (some f) u=t then some (I8 h (some x),i::used) else none
   | _=>none)
 | .raw (.pointer none)=>(match t with
  | .box true none u=>some ((none:Option u.den),used)
  | _=>none)
 | a=>match a.as t with
  | some x=>some (x,used)
  | none=>none
def Bf (s:St):(rs:List Ty)->List Nat->AV->Option (DL rs)
 | [],_,.nil=>some ()
 | t::ts,used,.cons a b=>match Iv s t used a with
  | some (x,fc)=>match Bf s ts fc b with
   | some y=>some (x,y)
   | none=>none
  | none=>none
 | _,_,_=>none
def vz (s:St):(ks:List PK)->Nat->Option (DL (E8 ks))
 | [],_=>some ()
 | .rw t::ks,j=>match s.obj (2000000+j),vz s ks (j+1) with
  | some (.var u x),some y=>if h:u=t then some (I8 h x,y) else none
  | _,_=>none
 | .mu t::ks,j=>match s.obj (2000000+j),vz s ks (j+1) with
  | some (.own u x),some y=>if h:u=.d0 true t then some (I8 h x,y) else none
  | _,_=>none
 | .v _::ks,j=>vz s ks (j+1)
 | .rd _::ks,j=>vz s ks (j+1)
 | .C7 _ _::ks,j=>vz s ks (j+1)
 | .own _::ks,j=>vz s ks (j+1)
 | .W6::ks,j=>vz s ks (j+1)
 | .rcs _ _::ks,j=>vz s ks (j+1)
 | .el _::ks,j=>vz s ks (j+1)
def finish (E:Env) (s:St):Tree (E.rs++E8 E.ps) :=
 match yl E s E.res with
 | none=>.stuck "result"
 | some l=>match Bf s E.rs [] l,vz s E.ps 0 with
  | some y,some z=>.ret (DL.app y z)
  | _,_=>.stuck "result: type"
def Cn:List ResultVar->List Ty->List (Nat×Option Ty)
 | .cell a _::l,t::ts=>(a,some t)::Cn l ts
 | _::l,_::ts=>Cn l ts
 | _,_=>[]
def Jf (E:Env) (s:St):Tree (E.rs++E8 E.ps) :=
 match E.gp with
 | none=>finish E s
 | some p=>match look J4 s.fr with
  | some (.ptr i q)=>.f8 (i=2000000/\q=p/\E.nt<=J4) (finish E s)
  | _=>.stuck "ghost"
def OG (E:Env) (s:St):Tree (E.rs++E8 E.ps):=Jf E (Ah E (Cn E.res E.rs) s)
def exec (E:Env):Nat->List Item->St->Tree (E.rs++E8 E.ps)
 | 0,_,_=>.stuck "fuel"
 | n+1,k,s =>
  match k with
  | []=>OG E s
  | .inBlock _::k=>exec E n k s
  | .inLoop c::k=>.cut c k (s.cutAt E c)
  | .code c::k =>
   match c with
   | .skip=>exec E n k s
   | .seq a b=>exec E n (.code a::.code b::k) s
   | .cond c a b=>match s.ev c with
    | .val .bool g=>cond g (exec E n (.code a::k) s) (exec E n (.code b::k) s)
    | _=>.stuck "cond"
   | .block id c=>exec E n (.code c::.inBlock id::k) s
   | .loop c=>.cut c k (s.cutAt E c)
   | .exit id=>match exitTo id k with
    | some k'=>exec E n k' s
    | none=>.stuck "exit"
   | .ret=>OG E s
   | .region _ ops draw=>match draw with
    | false=>wF E ops 0 ops.toList (Dm E ops s) λ s'=>exec E n k s'
    | true=>match wW ops && BU ops (K8 ops.toList (zU E ops s)) && E.P.follows .mixedOrders with
     | true=>Dn E ops (E0 ops.toList []) 0 ops.toList (K8 ops.toList (zU E ops s)) [] λ s'=>exec E n k s'
     | false=>match wW ops && JI ops (K8 ops.toList (zU E ops s)) && E.P.follows .mixedOrders with
      | true=>Dp E ops (E0 ops.toList []) 0 ops.toList (K8 ops.toList (zU E ops s)) [] λ s'=>exec E n k s'
      | false=>.stuck "draw"
   | _=>.stuck "code"
  | _::_=>.stuck "item"
def zh:Code->List Item->List (Nat×(Code×List Item))
 | .seq a b,k=>zh a (.code b::k)++zh b k
 | .cond _ a b,k=>zh a k++zh b k
 | .block id c,k=>zh c (.inBlock id::k)
 | .loop c,k=>(R0 c,(c,k))::zh c (.inLoop c::k)
 | _,_=>[]
def g8 (c:Code) (r:Nat):Code×List Item:=(look r (zh c [])).getD (.skip,[])
def W9:(ks:List PK)->DK ks->Nat->List (Nat×AV)
 | [],_,_=>[]
 | .v t::ks,x,i=>(i,.val t x.1)::W9 ks x.2 (i+1)
 | .rd t::ks,x,i=>(i,.M1 t x.1)::W9 ks x.2 (i+1)
 | .C7 f ts::ks,x,i=>(i,.C7 f (rdA ts x.1))::W9 ks x.2 (i+1)
 | .own _::ks,x,i=>(i,.at_ (1500000+i) [])::W9 ks x.2 (i+1)
 | .rw _::ks,x,i=>(i,.ptr (2000000+i) [])::W9 ks x.2 (i+1)
 | .mu _::ks,x,i=>(i,.at_ (2000000+i) [])::W9 ks x.2 (i+1)
 | .W6::ks,x,i=>(i,.raw (.slice none 0 0))::W9 ks x.2 (i+1)
 | .rcs _ _::ks,x,i=>(i,.any)::W9 ks x.2 (i+1)
 | .el _::ks,x,i=>(i,.any)::W9 ks x.2 (i+1)
where rdA:(ts:List Ty)->DL ts->AV
 | [],_=>.nil
 | t::ts,x=>.cons (.M1 t x.1) (rdA ts x.2)
def F4:(ks:List PK)->DK ks->Nat->List (Nat×i6)
 | [],_,_=>[]
 | .own t::ks,x,i=>Ex.put (1500000+i) (.own t x.1) (F4 ks x.2 (i+1))
 | .rw t::ks,x,i=>Ex.put (2000000+i) (.var t x.1) (F4 ks x.2 (i+1))
 | .mu t::ks,x,i=>Ex.put (2000000+i) (.own (.d0 true t) x.1) (F4 ks x.2 (i+1))
 | .v _::ks,x,i=>F4 ks x.2 (i+1)
 | .rd _::ks,x,i=>F4 ks x.2 (i+1)
 | .C7 _ _::ks,x,i=>F4 ks x.2 (i+1)
 | .W6::ks,x,i=>F4 ks x.2 (i+1)
 | .rcs _ _::ks,x,i=>F4 ks x.2 (i+1)
 | .el _::ks,x,i=>F4 ks x.2 (i+1)
def Hc (fr:List (Nat×AV)):Nat->Nat->AV
 | _,0=>.nil
 | j,n+1=>.cons ((look j fr).getD .any) (Hc fr (j+1) n)
def wI:(ks:List PK)->DK ks->Nat->List (Nat×AV)->List (Nat×AV)
 | [],_,_,fr=>fr
 | .rcs f n::ks,x,i,fr=>wI ks x.2 (i+1) (Ex.put i (.bx (.C7 f (.rc f (Hc fr (i - n) n)))) fr)
 | .el q::ks,x,i,fr=>wI ks x.2 (i+1) (Ex.put i (.ptr (2000000+(i - 1)) (q++[.idx x.1])) fr)
 | .v _::ks,x,i,fr=>wI ks x.2 (i+1) fr
 | .rd _::ks,x,i,fr=>wI ks x.2 (i+1) fr
 | .C7 _ _::ks,x,i,fr=>wI ks x.2 (i+1) fr
 | .own _::ks,x,i,fr=>wI ks x.2 (i+1) fr
 | .rw _::ks,x,i,fr=>wI ks x.2 (i+1) fr
 | .mu _::ks,x,i,fr=>wI ks x.2 (i+1) fr
 | .W6::ks,x,i,fr=>wI ks x.2 (i+1) fr
def s5 (ks:List PK) (x:DK ks):St:={ fr:=wI ks x 0 (W9 ks x 0),hp:=F4 ks x 0 }
end Go.Ex
namespace Go.Ex
theorem yu {n m:Nat} (h:n≠m):Nat.beq n m=false:=by
 cases e:Nat.beq n m with
 | true=>exact absurd (aAd e) h
 | false=>rfl
section
variable {α:Type _}
theorem o7 (n m:Nat) (x:α):∀ l:List (Nat×α),look n (put m x l)=if n=m then some x else look n l
 | []=>by
  simp only [put,look];by_cases h:n=m
  ·subst h; simp
  ·rw [if_neg h]; have:Nat.beq n m=false:=yu h
   simp [this]
 | (k,y)::l=>by
  simp only [put];cases hk:Nat.beq m k with
  | true =>
   have:m=k:=aAd hk;subst this;simp only [look];by_cases h:n=m
   ·subst h; simp
   ·rw [if_neg h]; have:Nat.beq n m=false:=yu h
    simp [this]
  | false =>
   have pK:m≠k:=λ e=>by subst e; simp at hk
   cases Nat.blt m k with
   | true =>
    simp only [look];by_cases h:n=m
    ·subst h; simp
    ·rw [if_neg h]; have:Nat.beq n m=false:=yu h
     simp [this]
   | false =>
    simp only [look];cases hn:Nat.beq n k with
    | true =>
     have:n=k:=aAd hn;subst this;simp [Ne.symm pK]
    | false=>exact o7 n m x l
theorem L8 (n m:Nat):∀ l:List (Nat×α),look n (del m l)=if n=m then none else look n l
 | []=>by simp [del,look]
 | (k,y)::l=>by
  simp only [del];cases hk:Nat.beq m k with
  | true =>
   have:m=k:=aAd hk;subst this;simp only [look,L8 n m l];by_cases h:n=m
   ·simp [h]
   ·have:Nat.beq n m=false:=yu h
    simp [h,this]
  | false =>
   have pK:m≠k:=λ e=>by subst e; simp at hk
   simp only [look];cases hn:Nat.beq n k with
   | true =>
    have:n=k:=aAd hn;subst this;simp [Ne.symm pK]
   | false=>exact L8 n m l
theorem P9 (n:Nat) (f:α->α):∀ l:List (Nat×α),look n (mapA f l)=(look n l).map f
 | []=>rfl
 | (k,y)::l=>by
  simp only [mapA,look];cases Nat.beq n k with
  | true=>rfl
  | false=>exact P9 n f l
end
theorem CR {d:Nat}:∀ {l:List (Nat×AV)},wu d l=true->∀ {n:Nat} {v:AV},look n l=some v->v.i8 d=false
 | [],_,_,_,h=>by cases h
 | (k,y)::l,h,n,v,hv=>by
  simp only [wu,aAa,aAt] at h;simp only [look] at hv;cases hk:Nat.beq n k with
  | true=>rw [hk] at hv; cases hv; exact h.1
  | false=>rw [hk] at hv; exact CR h.2 hv
def AV.ref:AV->Bool
 | .ptr _ _|.at_ _ _|.sub _ _ _ _=>true
 | _=>false
theorem AV.map_id:∀ v:AV,v.map (λ u=>u)=v:=by
 intro v
 induction v with
 | cons a b iha ihb=>simp only [AV.map,iha,ihb]
 | K6 l ih=>simp only [AV.map,ih]
 | C7 f l ih=>simp only [AV.map,ih]
 | bx l ih=>simp only [AV.map,ih]
 | rc f l ih=>simp only [AV.map,ih]
 | _=>rfl
theorem YF {H H':Array Go.Obj} {S:Nat->Prop}:∀ {t:Ty} {p:List Step} {r off r' aA:Nat} {O:List Nat} {x:t.den},g9 H S t O (e8 H r off t.size) x->off+t.size<=(w6 H r).length->x8 t x p ->
  e8 H' r' aA t.size=e8 H r off t.size->(∀ c∈O,H'[c]?=H[c]?)->∀ {u:Ty} {y:u.den},j9 t x p=some ⟨u,y⟩ ->
  (∃ k,y8 H t p r off=some (r,off+k)/\y8 H' t p r' aA=some (r',aA+k)/\k+u.size<=t.size)\/(∃ b o,y8 H t p r off=some (b,o)/\y8 H' t p r' aA=some (b,o)/\b∈O):=by
 intro t;have sub:∀ {r off r' aA n o m:Nat},e8 H' r' aA n=e8 H r off n->o+m<=n->e8 H' r' (aA+o) m=e8 H r (off+o) m:=by
  intro r off r' aA n o m h hm;have e:∀ (K:Array Go.Obj) (c d:Nat),e8 K c (d+o) m=((e8 K c d n).drop o).take m:=by
   intro K c d;rw [o6,n7 _ _ _ _ (by omega)]
  rw [e H',e H,h]
 have shift:∀ {a:Ty} {q:List Step} {r off r' aA d n s:Nat} {O:List Nat},(∃ k,y8 H a q r (off+d)=some (r,off+d+k)/\y8 H' a q r' (aA+d)=some (r',aA+d+k)/\k+s<=n)\/(∃ b o,y8 H a q r (off+d)=some (b,o)/\y8 H' a q r' (aA+d)=some (b,o)/\b∈O) ->
   ∀ {m:Nat} {O':List Nat},d+n<=m->(∀ c∈O,c∈O')->(∃ k,y8 H a q r (off+d)=some (r,off+k)/\y8 H' a q r' (aA+d)=some (r',aA+k)/\k+s<=m)\/(∃ b o,y8 H a q r (off+d)=some (b,o)/\y8 H' a q r' (aA+d)=some (b,o)/\b∈O'):=by
  intro a q r off r' aA d n s O h m O' hm hO;rcases h with ⟨k,h1,h2,h3⟩|⟨b,o,h1,h2,h3⟩
  ·exact .inl ⟨d+k,by rw [h1,aBk],by rw [h2,aBk],by omega⟩
  ·exact .inr ⟨b,o,h1,h2,hO b h3⟩
 induction t with
 | pair a c iha ihc =>
  intro p r off r' aA O x hR hb ho hc hO u y hg
  match p,ho,hg with
  | [],_,hg=>simp only [j9,aAc] at hg; cases hg; exact .inl ⟨0,rfl,rfl,by omega⟩
  | .l8 0::p,ho,hg =>
   obtain ⟨P1,P2,rfl,h1,h2⟩:=hR;simp only [Ty.size] at *
   rw [n7 _ _ _ _ (by omega)] at h1;have:=iha h1 (by omega) ho (by have:=sub (o:=0) (m:=a.size) hc (by omega); simpa using this) (λ c hc=>hO c (by simp [hc])) hg;exact shift (d:=0) this (by omega) (λ c hc=>by simp [hc])
  | .l8 (n+1)::p,ho,hg =>
   obtain ⟨P1,P2,rfl,h1,h2⟩:=hR;simp only [Ty.size] at *
   rw [o6,aCs] at h2;have:=ihc h2 (by omega) ho (sub (o:=a.size) (m:=c.size) hc (by omega)) (λ c hc=>hO c (by simp [hc])) hg;exact shift (d:=a.size) this (by omega) (λ c hc=>by simp [hc])
  | .idx i::p,ho,_=>simp [x8] at ho
 | arr n t ih =>
  intro p r off r' aA O x hR hb ho hc hO u y hg
  match p,ho,hg with
  | [],_,hg=>simp only [j9,aAc] at hg; cases hg; exact .inl ⟨0,rfl,rfl,by omega⟩
  | .idx i::p,ho,hg =>
   obtain ⟨hi,ho⟩:=ho;obtain ⟨hl,hR⟩:=hR;simp only [Ty.size] at *
   obtain ⟨b1,b2,b3,b4⟩:=E1 (sz:=t.size) hi;obtain ⟨P1,P2,P3,rfl,g1,g2,g3⟩:=j5.split (d:=t.s4) (i:=i.toNat) (by rw [hl]; exact b1) hR;rw [o6,n7 _ _ _ _ (by omega)] at g2;have:=ih g2 (by omega) ho (sub (o:=i.toNat*t.size) (m:=t.size) hc (by omega)) (λ c hc=>hO c (by simp [hc])) hg;exact shift (d:=i.toNat*t.size) this (by omega) (λ c hc=>by simp [hc])
  | .l8 i::p,ho,_=>simp [x8] at ho
 | d0 o t ih =>
  intro p r off r' aA O x hR hb ho hc hO u y hg
  match p,ho,hg with
  | [],_,hg=>refine .inl ⟨0,by cases o<;>rfl,by cases o<;>rfl,?_⟩; have hg:some (⟨.d0 o t,x⟩:Sigma Ty.den)=some ⟨u,y⟩:=(by cases o<;>exact hg); cases hg; omega
  | .idx i::p,ho,hg =>
   cases o with
   | false=>simp [x8] at ho
   | true =>
    obtain ⟨hi,ho⟩:=ho;rcases hR with ⟨_,_,hn⟩|⟨b1,o1,cap,O',c1,c2,c3,c4,c5,rfl,c6⟩
    ·subst hn; simp at hi; omega
    ·simp only [Ty.size] at *
     have hh:=(R3 r off _).1 c1;have pW:=(R3 r' aA _).1 (hc.trans c1);obtain ⟨b1',b2,b3,b4⟩:=E1 (sz:=t.size) hi;obtain ⟨P1,P2,P3,rfl,g1,g2,g3⟩:=j5.split (d:=t.s4) (i:=i.toNat) b1' c5;rw [o6,n7 _ _ _ _ (by omega)] at g2;have cO:List.length x*t.size<=cap*t.size:=aAm _ c2;have:=ih g2 (by omega) ho (r':=b1) (aA:=o1+i.toNat*t.size) (l6 (hO b1 (by simp)) _ _) (λ c hc=>hO c (by simp [hc])) hg;simp only [y8,hh,pW];rcases this with ⟨k,h1,h2,h3⟩|⟨b,o,h1,h2,h3⟩
     ·exact .inr ⟨b1,_,h1,h2,by simp⟩
     ·exact .inr ⟨b,o,h1,h2,by simp [h3]⟩
  | .l8 i::p,ho,_=>cases o<;>simp [x8] at ho
 | _ =>
  intro p r off r' aA O x hR hb ho hc hO u y hg
  match p,ho,hg with
  | [],_,hg=>simp only [j9,aAc] at hg; cases hg; exact .inl ⟨0,rfl,rfl,by omega⟩
  | .l8 i::p,ho,_=>simp [x8] at ho
  | .idx i::p,ho,_=>simp [x8] at ho
structure Ix where
 root:Nat->Nat×Nat
 cells:Nat->List Value
 own:Nat->List Nat
def gh (H:Array Go.Obj) (cs:List Value):Array Go.Obj:=H.push (.cells cs.toArray 0)
def VH (H:Array Go.Obj) (ι:Ix) (i:Nat):i6->Array Go.Obj
 | .own _ _=>gh H (ι.cells i)
 | _=>H
def VR (H:Array Go.Obj) (ι:Ix) (i:Nat):i6->Nat×Nat
 | .own _ _=>(H.size,0)
 | _=>ι.root i
def Place (H:Array Go.Obj) (ι:Ix) (i:Nat) (e:i6) (p:List Step):Option (Nat×Nat) :=
 match e with
 | .M0=>none
 | e=>y8 (VH H ι i e) e.ty p (VR H ι i e).1 (VR H ι i e).2
theorem I2 {H:Array Go.Obj} {ι:Ix} {i:Nat} {e:i6} {p:List Step} (he:e≠.M0):Place H ι i e p=y8 (VH H ι i e) e.ty p (VR H ι i e).1 (VR H ι i e).2:=by
 cases e<;>first|rfl|exact absurd rfl he
theorem Kp {H:Array Go.Obj} {ι:Ix} {i:Nat} {e:i6} {p:List Step} {r:Nat×Nat} (h:Place H ι i e p=some r):e≠.M0:=by
 rintro rfl; cases h
def Loc (H:Array Go.Obj) (ι:Ix) (i:Nat) (e:i6) (p:List Step):Option (Nat×Nat) :=
 match Place H ι i e p with
 | some (b,off)=>if b<H.size then some (b,off) else none
 | none=>none
def Cells (H:Array Go.Obj) (ι:Ix) (i:Nat) (e:i6) (p:List Step) (u:Ty) (cs:List Value):Prop :=
 ∃ b off,Place H ι i e p=some (b,off)/\cs=e8 (VH H ι i e) b off u.size
def AY (sz:Nat) (a:Option Addr) (cap:Nat) (lo hi:Int) (v:Value):Prop :=
 ∃ c A,v=.slice A (hi - lo).toNat c/\(c≠0->A=a.map (·.add (lo.toNat*sz)))/\(hi - lo).toNat<=c/\lo.toNat+c=cap
def VX (H:Array Go.Obj) (S:Nat->Prop) (ι:Ix) (hp:List (Nat×i6)):AV->List Value->Prop
 | .any,vs=>∃ v,vs=[v]
 | .raw v,vs=>vs=[v]
 | .val t x,vs=>∃ cs,vs=[l5 t cs]/\g9 H S t [] cs x
 | .ptr i p,vs=>∃ e b off,look i hp=some e/\x8 e.ty e.x p/\Loc H ι i e p=some (b,off)/\vs=[.pointer (some ⟨b,off,none⟩)]
 | .M1 t x,vs=>∃ b off,vs=[.pointer (some ⟨b,off,none⟩)]/\S b/\off+t.size<=(w6 H b).length/\g9 H S t [] (e8 H b off t.size) x
 | .at_ i p,vs=>∃ e u y cs,look i hp=some e/\x8 e.ty e.x p/\j9 e.ty e.x p=some ⟨u,y⟩/\Cells H ι i e p u cs/\vs=[l5 u cs]
 | .sub i p lo hi,vs=>∃ e v,look i hp=some e/\x8 e.ty e.x p/\vs=[v]/\0<=lo/\lo<=hi /\
   ((∃ t l a cap,j9 e.ty e.x p=some ⟨.d0 true t,l⟩/\hi<=(List.length l:Int)/\Cells H ι i e p (.d0 true t) [.slice a (List.length l) cap]/\AY t.size a cap lo hi v) \/
   (∃ n t l b off,j9 e.ty e.x p=some ⟨.arr n t,l⟩/\(hi<=(n:Int)/\n<=maxLen)/\Loc H ι i e p=some (b,off)/\AY t.size (some ⟨b,off,none⟩) n lo hi v))
 | .nil,vs=>vs=[]
 | .cons a b,vs=>∃ v us,vs=v::us/\VX H S ι hp a [v]/\VX H S ι hp b us
 | .K6 l,vs=>∃ us,vs=[.tuple us.toArray]/\VX H S ι hp l us
 | .C7 f l,vs=>∃ us,vs=[.func (.func f) #[] us.toArray]/\VX H S ι hp l us
 | .bx l,vs=>∃ b off u,vs=[.pointer (some ⟨b,off,none⟩)]/\S b/\off+1<=(w6 H b).length/\e8 H b off 1=[u]/\VX H S ι hp l [u]
 | .rc f l,vs=>∃ b off us,vs=us++[.pointer (some ⟨b,off,none⟩)]/\S b/\off+1<=(w6 H b).length/\e8 H b off 1=[.func (.func f) #[] (us++[.pointer (some ⟨b,off,none⟩)]).toArray]/\VX H S ι hp l us
def OB (H:Array Go.Obj) (S:Nat->Prop) (ι:Ix) (i:Nat):i6->Prop
 | .var t x=>(∃ O,O.Perm (ι.own i)/\g9 H S t O (e8 H (ι.root i).1 (ι.root i).2 t.size) x)/\P5 H (ι.root i).1 ((ι.root i).2+t.size)/\((ι.root i).1::ι.own i).Nodup
 | .own t x=>(∃ O,O.Perm (ι.own i)/\g9 H S t O (ι.cells i) x)/\(ι.own i).Nodup
 | .M0=>(ι.own i).Nodup
def l7 (ι:Ix) (i:Nat):i6->List Nat
 | .var _ _=>(ι.root i).1::ι.own i
 | .own _ _=>ι.own i
 | .M0=>ι.own i
structure E6 where
 w0:World
 S0:Nat->Prop
 M:Nat->Prop
 n:Nat
 pins:List (Nat×(Nat×Nat)×List Value)
 gv:Value:=undef
def W8 (w w':World):Prop:=w'.tape=w.tape/\w.drawn<=w'.drawn
theorem W8.refl (w:World):W8 w w:=⟨rfl,aAj _⟩
theorem W8.trans {w w' w'':World} (h':W8 w' w'') (h:W8 w w'):W8 w w'':=⟨h'.1.trans h.1,aAv h.2 h'.2⟩
theorem W8.of {w w':World} (h:w'.tape=w.tape) (h2:w'.drawn=w.drawn):W8 w w':=⟨h,by rw [h2]; exact aAj _⟩
structure HS (B:E6) (S:Nat->Prop) (ι:Ix) (hp:List (Nat×i6)) (w:World):Prop where
 os:w.os=B.w0.os
 tape:W8 B.w0 w
 out:w.output=B.w0.output
 size:B.w0.heap.size<=w.heap.size
 frame:∀ c,c<B.w0.heap.size->¬ B.M c->w.heap[c]?=B.w0.heap[c]?
 slt:∀ b,S b->b<w.heap.size
 s0:∀ b,B.S0 b->S b
 s1:∀ b,S b->B.S0 b\/B.w0.heap.size<=b\/B.M b
 ob:∀ i e,look i hp=some e->OB w.heap S ι i e
 bl:∀ i e,look i hp=some e->∀ b∈l7 ι i e,¬ S b/\(B.w0.heap.size<=b\/B.M b)/\b<w.heap.size
 dj:∀ i j ei ej,look i hp=some ei->look j hp=some ej->i≠j->∀ b∈l7 ι i ei,b∉l7 ι j ej
 pin:∀ q∈B.pins,pinned q.1=true/\(∃ e,look q.1 hp=some e)/\ι.root q.1=q.2.1/\ι.cells q.1=q.2.2
def E6.gd (B:E6) (t:Nat):Value:=match Nat.beq t J4 with|true=>B.gv|false=>undef
structure RS (B:E6) (S:Nat->Prop) (ι:Ix) (s:St) (a:Act) (w:World):Prop where
 hs:HS B S ι s.hp w
 dfr:a.defers=[]
 sz:a.tmps.size=B.n
 fr:∀ t v,look t s.fr=some v->VX w.heap S ι s.hp v [a.tmps.getD t (B.gd t)]
section
variable {H H':Array Go.Obj} {S S':Nat->Prop} {ι ι':Ix} {hp cE:List (Nat×i6)}
theorem VX.map {f:AV->AV} (hH:∀ b,S b->H'[b]?=H[b]?) (hS:∀ b,S b->S' b):∀ {v:AV} {vs:List Value},
  (∀ u vs,u.ref=true->(∀ i,u.i8 i=true->v.i8 i=true)->VX H S ι hp u vs->VX H' S' ι' cE (f u) vs)->VX H S ι hp v vs->VX H' S' ι' cE (v.map f) vs:=by
 intro v
 induction v with
 | any=>intro vs _ h; exact h
 | raw v=>intro vs _ h; exact h
 | val t x=>rintro vs _ ⟨cs,e,h⟩; exact ⟨cs,e,h.u5 (λ b hb=>by rcases hb with hb|hb; cases hb; exact hH b hb) hS⟩
 | ptr i p=>intro vs hf h; exact hf _ vs rfl (λ _ h=>h) h
 | M1 t x =>
  rintro vs _ ⟨b,off,e,hb,h3,h4⟩;refine ⟨b,off,e,hS b hb,by rw [Q5 (hH b hb)]; exact h3,?_⟩;rw [l6 (hH b hb)];exact h4.u5 (λ b hb=>by rcases hb with hb|hb; cases hb; exact hH b hb) hS
 | at_ i p=>intro vs hf h; exact hf _ vs rfl (λ _ h=>h) h
 | sub i p a b=>intro vs hf h; exact hf _ vs rfl (λ _ h=>h) h
 | nil=>intro vs _ h; exact h
 | cons a b iha ihb=>rintro vs hf ⟨v,us,e,ha,hb⟩; exact ⟨v,us,e,iha (λ u vs hu hm=>hf u vs hu (λ i hi=>by simp [AV.i8,hm i hi])) ha,ihb (λ u vs hu hm=>hf u vs hu (λ i hi=>by simp [AV.i8,hm i hi])) hb⟩
 | K6 l ih=>rintro vs hf ⟨us,e,h⟩; exact ⟨us,e,ih hf h⟩
 | C7 f l ih=>rintro vs hf ⟨us,e,h⟩; exact ⟨us,e,ih hf h⟩
 | bx l ih=>rintro vs hf ⟨b,off,u,e,hb,h1,h2,h⟩; exact ⟨b,off,u,e,hS b hb,by rw [Q5 (hH b hb)]; exact h1,by rw [l6 (hH b hb)]; exact h2,ih hf h⟩
 | rc f l ih=>rintro vs hf ⟨b,off,us,e,hb,h1,h2,h⟩; exact ⟨b,off,us,e,hS b hb,by rw [Q5 (hH b hb)]; exact h1,by rw [l6 (hH b hb)]; exact h2,ih hf h⟩
theorem VX.one {v:AV} {vs:List Value} (hr:v.ref=true) (h:VX H S ι hp v vs):∃ x,vs=[x]:=by
 cases v<;>simp only [AV.ref] at hr<;>try cases hr
 ·obtain ⟨e,b,off,_,_,_,h4⟩:=h; exact ⟨_,h4⟩
 ·obtain ⟨e,u,y,cs,_,_,_,_,h5⟩:=h; exact ⟨_,h5⟩
 ·obtain ⟨e,v,_,_,h3,_⟩:=h; exact ⟨_,h3⟩
theorem Al {cs:List Value} {b:Nat} (h:b<H.size):(gh H cs)[b]?=H[b]?:=by
 rw [gh,aEc,if_neg (by omega)]
theorem DX {cs:List Value}:(gh H cs)[H.size]?=some (.cells cs.toArray 0):=by simp [gh]
theorem wH {cs:List Value}:w6 (gh H cs) H.size=cs:=by simp [w6,DX]
theorem BW {cs:List Value}:(gh H cs).size=H.size+1:=by simp [gh]
theorem P5.lt {b n:Nat} (h:P5 H b n):b<H.size:=by
 obtain ⟨arr,T,⟨fz,e,_⟩,_⟩:=h;exact (aAo.1 e).1
theorem OB.U5 {i:Nat} {e:i6} (he:e≠.M0) (ho:OB H S ι i e) {c:Nat} (hc:c∈ι.own i):c<H.size:=by
 cases e with
 | var t x=>obtain ⟨⟨O,hO,hR⟩,_⟩:=ho; exact hR.xA c (hO.mem_iff.2 hc)
 | own t x=>obtain ⟨⟨O,hO,hR⟩,_⟩:=ho; exact hR.xA c (hO.mem_iff.2 hc)
 | M0=>exact absurd rfl he
theorem OB.see {i:Nat} {e:i6} (he:e≠.M0) (ho:OB H S ι i e) (hS:∀ c,S c->c<H.size):∃ O,O.Perm (ι.own i)/\g9 (VH H ι i e) S e.ty O (e8 (VH H ι i e) (VR H ι i e).1 (VR H ι i e).2 e.ty.size) e.x /\
  (VR H ι i e).2+e.ty.size<=(w6 (VH H ι i e) (VR H ι i e).1).length/\((VR H ι i e).1::ι.own i).Nodup/\(VR H ι i e).1<(VH H ι i e).size/\(¬ S (VR H ι i e).1\/∃ t x,e=.var t x)/\P5 (VH H ι i e) (VR H ι i e).1 ((VR H ι i e).2+e.ty.size):=by
 cases e with
 | var t x =>
  obtain ⟨⟨O,hO,hR⟩,hf,aJ⟩:=ho;exact ⟨O,hO,hR,hf.w6,aJ,hf.lt,.inr ⟨t,x,rfl⟩,hf⟩
 | own t x =>
  have bf:=λ c hc=>OB.U5 (c:=c) he ho hc;obtain ⟨⟨O,hO,hR⟩,aJ⟩:=ho;have hl:=hR.length;have cC:e8 (gh H (ι.cells i)) H.size 0 t.size=ι.cells i:=by
   simp only [e8,wH,aCb];exact aAu (by omega)
  refine ⟨O,hO,?_,?_,?_,by simp [VR,VH,BW],.inl (λ h=>aCx _ (hS _ h)),⟨_,_,⟨_,DX,.inl rfl⟩,by simp [VR,i6.ty,hl]⟩⟩
  ·simp only [VH,VR,i6.ty,i6.x,cC]
   exact hR.u5 (λ c hc=>Al (hc.elim (λ h=>bf c (hO.mem_iff.1 h)) (hS c))) (λ _ h=>h)
  ·simp only [VH,VR,i6.ty,wH]; omega
  ·exact aAs.2 ⟨λ h=>aCx _ (bf _ h),aJ⟩
 | M0=>exact absurd rfl he
theorem G4 {i:Nat} {e:i6} {c:Nat} (h:c<H.size):(VH H ι i e)[c]?=H[c]?:=by
 cases e<;>first|rfl|exact Al h
theorem wx {i:Nat} {e:i6} {t:Ty} {O:List Nat} {cs:List Value} {x:t.den} (hO:∀ c∈O,c<H.size) (hS:∀ c,S c->c<H.size):g9 (VH H ι i e) S t O cs x↔g9 H S t O cs x :=
 ⟨λ h=>h.u5 (λ c hc=>(G4 (hc.elim (hO c) (hS c))).symm) (λ _ h=>h),λ h=>h.u5 (λ c hc=>G4 (hc.elim (hO c) (hS c))) (λ _ h=>h)⟩
theorem OB.part {i:Nat} {e:i6} (he:e≠.M0) (ho:OB H S ι i e) (hS:∀ c,S c->c<H.size) {p:List Step} (aM:x8 e.ty e.x p) {u:Ty} {y:u.den} (hg:j9 e.ty e.x p=some ⟨u,y⟩) :
  ∃ b off O2,Place H ι i e p=some (b,off)/\(∀ c∈O2,c∈ι.own i)/\O2.Nodup/\g9 H S u O2 (e8 (VH H ι i e) b off u.size) y/\off+u.size<=(w6 (VH H ι i e) b).length /\
   (b<H.size->b∈l7 ι i e/\P5 H b (off+u.size)):=by
 obtain ⟨O,hO,hR,hb,aJ,bf,gi,dV⟩:=ho.see he hS;obtain ⟨O1,O2,b',aA,e1,e2,e3,e4,e5,e6⟩:=focus hR hb aM hg
 have hm:∀ c,c∈O1\/c∈O2->c∈ι.own i:=λ c hc=>hO.mem_iff.1 (e1.mem_iff.2 (by simpa using hc));have kT:∀ c∈O2,c<H.size:=λ c hc=>ho.U5 he (hm c (.inr hc));refine ⟨b',aA,O2,(I2 he).trans e3,λ c hc=>hm c (.inr hc),?_,(wx kT hS).1 e4,e5,λ bO=>?_⟩
 ·exact (aAg.1 ((e1.nodup_iff).1 ((hO.nodup_iff).2 (aAs.1 aJ).2))).2.1
 ·have fX:P5 (VH H ι i e) b' (aA+u.size):=by
   rcases e6 with ⟨rfl,g1,g2⟩|⟨_,g⟩
   ·exact dV.mono g2
   ·exact g
  refine ⟨?_,?_⟩
  ·rcases e6 with ⟨rfl,g1,g2⟩|⟨g,_⟩
   ·cases e with
    | var t x=>simp [l7,VR]
    | own t x=>simp [VR] at bO
    | M0=>exact absurd rfl he
   ·have:=hm b' (.inl g)
    cases e<;>simp [l7,this]
  ·obtain ⟨arr,T,⟨fz,h1,h3⟩,h2⟩:=fX
   rw [G4 bO] at h1;exact ⟨arr,T,⟨fz,h1,h3⟩,h2⟩
theorem C8 {i:Nat} {e:i6} {p:List Step} {b off:Nat} (h:Loc H ι i e p=some (b,off)):Place H ι i e p=some (b,off)/\b<H.size:=by
 unfold Loc at h;split at h
 ·rename_i b' aA hp
  split at h
  ·rename_i bf; cases h; exact ⟨hp,bf⟩
  ·cases h
 ·cases h
theorem wv {i:Nat} {e:i6} {p:List Step} {b off:Nat} (h:Place H ι i e p=some (b,off)) (hb:b<H.size):Loc H ι i e p=some (b,off):=by
 unfold Loc; rw [h]; simp [hb]
theorem N5 {i:Nat} {e:i6} (he:e≠.M0) (ho:OB H S ι i e) (hS:∀ c,S c->c<H.size) {p:List Step} (aM:x8 e.ty e.x p) {u:Ty} {y:u.den} (hg:j9 e.ty e.x p=some ⟨u,y⟩) {b off:Nat} (hl:Loc H ι i e p=some (b,off)) :
  ∃ O2,(∀ c∈O2,c∈ι.own i)/\O2.Nodup/\g9 H S u O2 (e8 H b off u.size) y/\off+u.size<=(w6 H b).length/\b∈l7 ι i e/\P5 H b (off+u.size):=by
 obtain ⟨b',aA,O2,k1,k2,k3,k4,k5,k6⟩:=ho.part he hS aM hg;obtain ⟨h1,h2⟩:=C8 hl;rw [k1] at h1; cases h1;rw [l6 (G4 h2)] at k4;rw [Q5 (G4 h2)] at k5;exact ⟨O2,k2,k3,k4,k5,k6 h2⟩
theorem OB.u5 {i:Nat} {e:i6} (ho:OB H S ι i e) (hH:∀ b,b∈l7 ι i e\/S b->H'[b]?=H[b]?) (hS:∀ b,S b->S' b):OB H' S' ι i e:=by
 cases e with
 | var t x =>
  obtain ⟨⟨O,hO,hR⟩,⟨arr,T,⟨fz,hf,tC⟩,hn⟩,aJ⟩:=ho;have hr:H'[(ι.root i).1]?=H[(ι.root i).1]?:=hH _ (.inl (by simp [l7]));refine ⟨⟨O,hO,?_⟩,⟨arr,T,⟨fz,hr.trans hf,tC⟩,hn⟩,aJ⟩;rw [l6 hr];exact hR.u5 (λ b hb=>hH b (hb.imp (λ h=>by simp [l7,hO.mem_iff.1 h]) id)) hS
 | own t x =>
  obtain ⟨⟨O,hO,hR⟩,aJ⟩:=ho;exact ⟨⟨O,hO,hR.u5 (λ b hb=>hH b (hb.imp (λ h=>hO.mem_iff.1 h) id)) hS⟩,aJ⟩
 | M0=>exact ho
theorem Ue {i:Nat} {e:i6} (he:e≠.M0) (ho:OB H S ι i e) (je:∀ c,S c->c<H.size) (hH:∀ b,b∈l7 ι i e->H'[b]?=H[b]?) {p:List Step} (aM:x8 e.ty e.x p) {u:Ty} {y:u.den} (hg:j9 e.ty e.x p=some ⟨u,y⟩) :
  ∃ b off b' aA,Place H ι i e p=some (b,off)/\Place H' ι i e p=some (b',aA)/\e8 (VH H' ι i e) b' aA u.size=e8 (VH H ι i e) b off u.size/\(b<H.size->b'=b/\aA=off/\b<H'.size)/\(¬ b<H.size->¬ b'<H'.size):=by
 have bf:∀ c∈ι.own i,c<H.size/\c<H'.size:=λ c hc=>by
  have h1:=ho.U5 he hc;refine ⟨h1,?_⟩;have h2:=hH c (by cases e<;>simp [l7,hc]);rw [aBy h1] at h2;exact (aAo.1 h2).1
 obtain ⟨O,hO,hR,hb,aJ,_,_,dV⟩:=ho.see he je;have bI:e8 (VH H' ι i e) (VR H' ι i e).1 (VR H' ι i e).2 e.ty.size=e8 (VH H ι i e) (VR H ι i e).1 (VR H ι i e).2 e.ty.size:=by
  cases e with
  | var t x=>exact l6 (hH _ (by simp [l7,VR])) _ _
  | own t x=>simp only [VH,VR,e8,wH]
  | M0=>exact absurd rfl he
 have de:∀ c∈O,(VH H' ι i e)[c]?=(VH H ι i e)[c]?:=λ c hc=>by
  have hc:=hO.mem_iff.1 hc;rw [G4 (bf c hc).2,G4 (bf c hc).1];exact hH c (by cases e<;>simp [l7,hc])
 rcases YF hR hb aM bI de hg with ⟨k,h1,h2,h3⟩|⟨b,o,h1,h2,h3⟩
 ·refine ⟨_,_,_,_,(I2 he).trans h1,(I2 he).trans h2,?_,?_,?_⟩
  ·have e0:∀ (K:Array Go.Obj) (r:Nat×Nat),e8 K r.1 (r.2+k) u.size=((e8 K r.1 r.2 e.ty.size).drop k).take u.size:=by
    intro K r;rw [o6,n7 _ _ _ _ (by omega)]
   rw [e0,e0,bI]
  ·intro bO
   cases e with
   | var t x =>
    refine ⟨rfl,rfl,?_⟩;have h2:=hH (ι.root i).1 (by simp [l7]);have bO:(ι.root i).1<H.size:=bO;rw [aBy bO] at h2;exact (aAo.1 h2).1
   | own t x=>simp [VR] at bO
   | M0=>exact absurd rfl he
  ·intro bO
   cases e with
   | var t x=>exact absurd dV.lt bO
   | own t x=>simp [VR]
   | M0=>exact absurd rfl he
 ·have hc:=hO.mem_iff.1 h3
  refine ⟨b,o,b,o,(I2 he).trans h1,(I2 he).trans h2,?_,λ _=>⟨rfl,rfl,(bf b hc).2⟩,λ bO=>absurd (bf b hc).1 bO⟩;exact l6 (de b h3) _ _
theorem Fk {i:Nat} {e:i6} (he:e≠.M0) (ho:OB H S ι i e) (je:∀ c,S c->c<H.size) (hH:∀ b,b∈l7 ι i e->H'[b]?=H[b]?) {p:List Step} (aM:x8 e.ty e.x p) {r:Nat×Nat} (h:Loc H ι i e p=some r):Loc H' ι i e p=some r:=by
 obtain ⟨u,y,hg⟩:=Ss aM;obtain ⟨b,off,b',aA,h1,h2,h3,h4,h5⟩:=Ue (H':=H') he ho je hH aM hg;obtain ⟨k1,k2⟩:=C8 (b:=r.1) (off:=r.2) h;rw [h1] at k1; cases k1;obtain ⟨rfl,rfl,h6⟩:=h4 k2;exact wv h2 h6
theorem LU {i:Nat} {e:i6} (he:e≠.M0) (ho:OB H S ι i e) (je:∀ c,S c->c<H.size) (hH:∀ b,b∈l7 ι i e->H'[b]?=H[b]?) {p:List Step} (aM:x8 e.ty e.x p) {u:Ty} {y:u.den} (hg:j9 e.ty e.x p=some ⟨u,y⟩)
  {cs:List Value} (h:Cells H ι i e p u cs):Cells H' ι i e p u cs:=by
 obtain ⟨b0,off0,k1,k2⟩:=h;obtain ⟨b,off,b',aA,h1,h2,h3,h4,h5⟩:=Ue (H':=H') he ho je hH aM hg;rw [h1] at k1; cases k1;exact ⟨b',aA,h2,k2.trans h3.symm⟩
theorem K9 {i:Nat} {e:i6} {p:List Step} {r:Nat×Nat} (h:Loc H ι i e p=some r):e≠.M0:=Kp (C8 (b:=r.1) (off:=r.2) h).1
theorem Ct {i:Nat} {e:i6} {p:List Step} {u:Ty} {cs:List Value} (h:Cells H ι i e p u cs):e≠.M0:=by obtain ⟨_,_,h,_⟩:=h; exact Kp h
theorem VX.grow (hH:∀ b,(∃ i e,look i hp=some e/\b∈l7 ι i e)\/S b->H'[b]?=H[b]?) (hS:∀ b,S b->S' b) (je:∀ c,S c->c<H.size) (aS:∀ i e,look i hp=some e->OB H S ι i e) {v:AV} {vs:List Value} (h:VX H S ι hp v vs) :
  VX H' S' ι hp v vs:=by
 have:=VX.map (H':=H') (S':=S') (ι':=ι) (cE:=hp) (f:=λ u=>u) (λ b hb=>hH b (.inr hb)) hS ?_ h
 ·rwa [AV.map_id] at this
 ·intro u vs hu _ h
  cases u<;>simp only [AV.ref] at hu<;>try cases hu
  ·obtain ⟨e,b,off,h1,h2,h3,h4⟩:=h
   exact ⟨e,b,off,h1,h2,Fk (K9 h3) (aS _ e h1) je (λ b hb=>hH b (.inl ⟨_,e,h1,hb⟩)) h2 h3,h4⟩
  ·obtain ⟨e,u,y,cs,h1,h2,h3,h4,h5⟩:=h
   exact ⟨e,u,y,cs,h1,h2,h3,LU (Ct h4) (aS _ e h1) je (λ b hb=>hH b (.inl ⟨_,e,h1,hb⟩)) h2 h3 h4,h5⟩
  ·obtain ⟨e,v,h1,h2,h3,h4,h5,h6⟩:=h
   refine ⟨e,v,h1,h2,h3,h4,h5,?_⟩;rcases h6 with ⟨t,l,a,cap,k1,k2,k3,k4⟩|⟨n,t,l,b,off,k1,k2,k3,k4⟩
   ·exact .inl ⟨t,l,a,cap,k1,k2,LU (Ct k3) (aS _ e h1) je (λ b hb=>hH b (.inl ⟨_,e,h1,hb⟩)) h2 k1 k3,k4⟩
   ·exact .inr ⟨n,t,l,b,off,k1,k2,Fk (K9 k3) (aS _ e h1) je (λ b hb=>hH b (.inl ⟨_,e,h1,hb⟩)) h2 k3,k4⟩
end
end Go.Ex
namespace Go.Ex
theorem MM:∀ t:Ty,zc t.sh=zc t:=by
 intro t
 induction t with
 | pair a b iha ihb=>simp only [Ty.sh,zc,iha,ihb]
 | arr n t ih=>simp only [Ty.sh,zc,ih]
 | _=>rfl
theorem Nd (t:Ty):t.sh.agg=t.agg:=by cases t<;>rfl
theorem ML {u t:Ty} (h:u.sh=t.sh):zc u=zc t:=by rw [<- MM u,h,MM]
theorem Ea {u t:Ty} (h:u.sh=t.sh):u.agg=t.agg:=by rw [<- Nd u,h,Nd]
theorem Iw {u t:Ty} (h:u.sh=t.sh) (cs:List Value):l5 u cs=l5 t cs:=by simp only [l5,Ea h]
theorem VO:∀ t:Ty,t.sh.al=t.al:=by
 intro t
 induction t with
 | pair a b iha ihb=>simp only [Ty.sh,Ty.al,iha,ihb]
 | arr n t ih=>simp only [Ty.sh,Ty.al,ih]
 | _=>rfl
theorem MR:∀ t:Ty,t.sh.wb=t.wb/\∀ o,t.sh.yk o=t.yk o:=by
 intro t
 induction t with
 | pair a b iha ihb=>refine ⟨?_,λ o=>?_⟩<;>simp only [Ty.sh,Ty.wb,Ty.yk,iha.1,ihb.2,VO]
 | arr n t ih=>refine ⟨?_,λ o=>rfl⟩; simp only [Ty.sh,Ty.wb,ih.1]
 | d0 o t ih=>exact ⟨rfl,λ o=>rfl⟩
 | _=>exact ⟨rfl,λ o=>rfl⟩
theorem Vq {u t:Ty} (h:u.sh=t.sh):u.wb=t.wb:=by rw [<- (MR u).1,h,(MR t).1]
theorem S4:∀ t:Ty,(zc t).length=t.size:=by
 intro t
 induction t with
 | pair a b iha ihb=>simp only [zc,Ty.size,aAe,iha,ihb]
 | arr n t ih=>simp [zc,Ty.size,ih]
 | _=>rfl
theorem Ns:∀ t:Ty,zc t.T5=zc t:=by
 intro t
 induction t with
 | pair a b iha ihb=>simp only [Ty.T5,zc,iha,ihb]
 | arr n t ih=>simp only [Ty.T5,zc,ih]
 | _=>rfl
theorem Wn (t:Ty):t.T5.agg=t.agg:=by cases t<;>rfl
theorem Ow (t:Ty) (cs:List Value):l5 t.T5 cs=l5 t cs:=by simp only [l5,Wn]
theorem Vd:∀ t:Ty,t.T5.al=t.al:=by
 intro t
 induction t with
 | pair a b iha ihb=>simp only [Ty.T5,Ty.al,iha,ihb]
 | arr n t ih=>simp only [Ty.T5,Ty.al,ih]
 | _=>rfl
theorem Nr:∀ t:Ty,t.T5.wb=t.wb/\∀ o,t.T5.yk o=t.yk o:=by
 intro t
 induction t with
 | pair a b iha ihb=>refine ⟨?_,λ o=>?_⟩<;>simp only [Ty.T5,Ty.wb,Ty.yk,iha.1,ihb.2,Vd]
 | arr n t ih=>refine ⟨?_,λ o=>rfl⟩; simp only [Ty.T5,Ty.wb,ih.1]
 | _=>exact ⟨rfl,λ o=>rfl⟩
theorem AF:∀ t:Ty,t.T5.size=t.size:=by
 intro t
 induction t with
 | pair a b iha ihb=>simp only [Ty.T5,Ty.size,iha,ihb]
 | arr n t ih=>simp only [Ty.T5,Ty.size,ih]
 | _=>rfl
section
variable {P:Program}
theorem YV:∀ {n:Nat} {T:TypeId} {t:Ty},o8 P n T t.T5=true->o8 P n T t=true:=by
 intro n
 induction n with
 | zero=>intro T t h; simp [o8] at h
 | succ n ih =>
  intro T t h;have fW:∀ (fs:List Field) (off:Nat) (t:Ty),n6 (o8 P n) fs off t.T5=true->n6 (o8 P n) fs off t=true:=by
   intro fs
   induction fs with
   | nil =>
    intro off t h;cases t<;>simp [n6,Ty.T5] at h;rfl
   | cons f fs ihf =>
    intro off t h;cases t<;>simp [n6,Ty.T5] at h;rename_i a b;have h2:=ih h.1.1.2;have h3:=ihf _ _ h.2;rw [AF] at h h3;simp only [n6,aAa];refine ⟨⟨⟨⟨?_,?_⟩,h2⟩,?_⟩,h3⟩<;>simp [h.1]
  simp only [o8,aAa] at h ⊢;obtain ⟨h1,h2⟩:=h;refine ⟨?_,?_⟩
  ·rw [AF,(Nr t).1,Ow,Ns] at h1; exact h1
  ·cases hu:P.underlying T with
   | none=>simp [hu] at h2
   | some d =>
    cases t with
    | box o g t=>cases g<;>cases d<;>simp only [hu,Ty.T5] at h2 ⊢<;>first|exact (aAy h2).elim|exact h2|exact ih h2|exact fW _ _ _ h2
    | _ =>
     cases d<;>simp only [hu,Ty.T5] at h2 ⊢<;>first|exact (aAy h2).elim|exact h2|exact fW _ _ _ h2|skip
     all_goals (simp only [aAa,AF] at h2; simp only [aAa]; exact ⟨h2.1,ih h2.2⟩)
theorem YU:∀ {n:Nat} {T:TypeId} {t:Ty},o8 P n T t=true->o8 P n T t.T5=true:=by
 intro n
 induction n with
 | zero=>intro T t h; simp [o8] at h
 | succ n ih =>
  intro T t h;have fW:∀ (fs:List Field) (off:Nat) (t:Ty),n6 (o8 P n) fs off t=true->n6 (o8 P n) fs off t.T5=true:=by
   intro fs
   induction fs with
   | nil =>
    intro off t h;cases t<;>simp [n6] at h;rfl
   | cons f fs ihf =>
    intro off t h;cases t<;>simp [n6] at h;rename_i a b;have h2:=ih h.1.1.2;have h3:=ihf _ _ h.2;simp only [Ty.T5,n6,aAa,AF];refine ⟨⟨⟨⟨?_,?_⟩,h2⟩,?_⟩,h3⟩<;>simp [h.1]
  simp only [o8,aAa] at h ⊢;obtain ⟨h1,h2⟩:=h;refine ⟨?_,?_⟩
  ·rw [AF,(Nr t).1,Ow,Ns]; exact h1
  ·cases hu:P.underlying T with
   | none=>simp [hu] at h2
   | some d =>
    cases t with
    | box o g t=>cases g<;>cases d<;>simp only [hu,Ty.T5] at h2 ⊢<;>first|exact (aAy h2).elim|exact h2|exact ih h2|exact fW _ _ _ h2
    | _ =>
     cases d<;>simp only [hu,Ty.T5] at h2 ⊢<;>first|exact (aAy h2).elim|exact h2|exact fW _ _ _ h2|skip
     all_goals (simp only [aAa] at h2; simp only [aAa,AF]; exact ⟨h2.1,ih h2.2⟩)
theorem Er:∀ {n:Nat} {T:TypeId} {t u:Ty},u.sh=t.sh->o8 P n T t=true->o8 P n T u=true:=by
 intro n
 induction n with
 | zero=>intro T t u _ h; simp [o8] at h
 | succ n ih =>
  intro T t u hs h;have fW:∀ (fs:List Field) (off:Nat) (t u:Ty),u.sh=t.sh->n6 (o8 P n) fs off t=true->n6 (o8 P n) fs off u=true:=by
   intro fs
   induction fs with
   | nil =>
    intro off t u hs h;cases t<;>simp [n6] at h;cases u<;>simp only [Ty.sh] at hs<;>try cases hs
    rfl
   | cons f fs ihf =>
    intro off t u hs h;cases t<;>simp [n6] at h;rename_i a b;cases u<;>simp only [Ty.sh] at hs<;>try cases hs
    rename_i a' b';simp only [Ty.pair.injEq] at hs;have h2:=ih hs.1 h.1.1.2;have h3:=ihf _ _ _ hs.2 h.2;simp only [n6,F9 hs.1,aAa];refine ⟨⟨⟨⟨?_,?_⟩,h2⟩,?_⟩,h3⟩<;>simp [h.1]
  simp only [o8,aAa] at h ⊢;obtain ⟨h1,h2⟩:=h;refine ⟨?_,?_⟩
  ·rw [F9 hs,Vq hs,Iw hs,ML hs]; exact h1
  ·cases t with
   | pair a b =>
    cases u<;>simp only [Ty.sh] at hs<;>try cases hs
    rename_i a' b';have lI:(Ty.pair a' b').sh=(Ty.pair a b).sh:=hs;cases hu:P.underlying T with
    | none=>simp [hu] at h2
    | some d =>
     cases d<;>simp only [hu] at h2 ⊢<;>first|exact (aAy h2).elim|skip
     exact fW _ _ _ _ lI h2
   | unit =>
    cases u<;>simp only [Ty.sh] at hs<;>try cases hs
    exact h2
   | arr m t =>
    cases u<;>simp only [Ty.sh] at hs<;>try cases hs
    rename_i m' t';simp only [Ty.arr.injEq] at hs;cases hu:P.underlying T with
    | none=>simp [hu] at h2
    | some d =>
     cases d<;>simp only [hu] at h2 ⊢<;>first|exact (aAy h2).elim|skip
     ·simp only [aAa] at h2 ⊢
      rw [hs.1,F9 hs.2];exact ⟨h2.1,ih hs.2 h2.2⟩
     ·exact fW _ _ _ _ (by simp only [Ty.sh,hs]) h2
   | d0 o t =>
    cases u<;>simp only [Ty.sh] at hs<;>try cases hs
    ·rename_i o' t'
     simp only [Ty.d0.injEq] at hs;cases hu:P.underlying T with
     | none=>simp [hu] at h2
     | some d =>
      cases d<;>simp only [hu] at h2 ⊢<;>first|exact (aAy h2).elim|skip
      ·simp only [aAa] at h2 ⊢
       rw [F9 hs.2];exact ⟨h2.1,ih hs.2 h2.2⟩
      ·exact fW _ _ _ _ (by simp only [Ty.sh,hs]) h2
    ·rename_i t'
     simp only [Ty.d0.injEq] at hs;cases hu:P.underlying T with
     | none=>simp [hu] at h2
     | some d =>
      cases d<;>simp only [hu] at h2 ⊢<;>first|exact (aAy h2).elim|skip
      ·simp only [aAa] at h2 ⊢
       rw [F9 hs.2];exact ⟨h2.1,ih hs.2 h2.2⟩
      ·exact fW _ _ _ _ (by simp only [Ty.sh,hs]) h2
   | hole t =>
    cases u<;>simp only [Ty.sh] at hs<;>try cases hs
    ·rename_i o' t'
     simp only [Ty.d0.injEq] at hs;cases hu:P.underlying T with
     | none=>simp [hu] at h2
     | some d =>
      cases d<;>simp only [hu] at h2 ⊢<;>first|exact (aAy h2).elim|skip
      ·simp only [aAa] at h2 ⊢
       rw [F9 hs.2];exact ⟨h2.1,ih hs.2 h2.2⟩
      ·exact fW _ _ _ _ (by simp only [Ty.sh,hs]) h2
    ·rename_i t'
     simp only [Ty.d0.injEq] at hs;cases hu:P.underlying T with
     | none=>simp [hu] at h2
     | some d =>
      cases d<;>simp only [hu] at h2 ⊢<;>first|exact (aAy h2).elim|skip
      ·simp only [aAa] at h2 ⊢
       rw [F9 hs.2];exact ⟨h2.1,ih hs.2 h2.2⟩
      ·exact fW _ _ _ _ (by simp only [Ty.sh,hs]) h2
   | B9 t =>
    cases u<;>simp only [Ty.sh] at hs<;>try cases hs
    rename_i t';simp only [Ty.B9.injEq] at hs;cases hu:P.underlying T with
    | none=>simp [hu] at h2
    | some d =>
     cases d<;>simp only [hu] at h2 ⊢<;>first|exact (aAy h2).elim|skip
     ·simp only [aAa] at h2 ⊢
      rw [F9 hs];exact ⟨h2.1,ih hs h2.2⟩
     ·exact fW _ _ _ _ (by simp only [Ty.sh,hs]) h2
   | map o k v =>
    cases u<;>simp only [Ty.sh] at hs<;>try cases hs
    cases hu:P.underlying T with
    | none=>simp [hu] at h2
    | some d =>
     cases d<;>simp only [hu] at h2 ⊢<;>first|exact (aAy h2).elim|exact h2|skip
     ·exact fW _ _ (.map o k v) _ rfl h2
   | box o g t =>
    cases u<;>simp only [Ty.sh] at hs<;>try cases hs
    rename_i o' g' t';simp only [Ty.box.injEq] at hs;obtain ⟨_,rfl,hs⟩:=hs;cases hu:P.underlying T with
    | none=>simp [hu] at h2
    | some d =>
     cases g'<;>cases d<;>simp only [hu] at h2 ⊢<;>first|exact (aAy h2).elim|exact ih hs h2|exact fW _ _ _ _ (by simp only [Ty.sh,hs]) h2|trivial
   | _ =>
    cases u<;>simp only [Ty.sh] at hs<;>try cases hs
    exact h2
theorem MW:∀ {a b:Value},eqS a b=true->a=b:=by
 intro a b h;unfold eqS at h;split at h
 ·simp at h; rw [h.1,h.2]
 ·simp at h; rw [h]
 ·rename_i a b
  cases a; cases b;simp at h;rw [h.1,h.2]
 ·rename_i a b c d
  simp only [aAa] at h;have h1:=aAd h.1;have h2:=aAd h.2;rw [h1,h2]
 ·rfl
 ·rfl
 ·rfl
 ·cases h
theorem MV:∀ {a b:List Value},eqL a b=true->a=b
 | [],[],_=>rfl
 | a::l,b::m,h=>by
  simp only [eqL,aAa] at h;rw [MW h.1,MV h.2]
 | [],_::_,h=>by simp [eqL] at h
 | _::_,[],h=>by simp [eqL] at h
theorem Vk {a b:Value} (h:eqV a b=true):a=b:=by
 unfold eqV at h;split at h
 ·rename_i a b
  have:=MV h;rw [show a=b from Array.toList_inj.1 this]
 ·exact MW h
theorem X5 {n:Nat} {T:TypeId} {t:Ty} (h:o8 P n T t=true):∃ i,P.info? T=some i/\i.size=t.size/\i.zero=some (l5 t (zc t)):=by
 cases n with
 | zero=>simp [o8] at h
 | succ n =>
  simp only [o8,aAa] at h;obtain ⟨h1,_⟩:=h;split at h1
  ·rename_i i hi
   simp only [aAa] at h1;refine ⟨i,hi,aAd h1.1.1,?_⟩;have h1:=h1.2;split at h1
   ·rename_i z hz; rw [hz,Vk h1]
   ·cases h1
  ·cases h1
theorem KY {n:Nat} {T:TypeId} {t:Ty} (h:o8 P n T t=true) {i:TypeInfo} (hi:P.info? T=some i):i.bytes=t.wb:=by
 cases n with
 | zero=>simp [o8] at h
 | succ n =>
  simp only [o8,aAa] at h;have h1:=h.1;rw [hi] at h1;simp only [aAa] at h1;exact aAd h1.1.2
theorem R8 {n:Nat} {T:TypeId} {t:Ty} (h:o8 P n T t=true):∃ d,P.underlying T=some d/\t.agg=(match d with|.struct _=>true|.array _ _=>true|_=>false):=by
 cases n with
 | zero=>simp [o8] at h
 | succ n =>
  simp only [o8,aAa] at h;obtain ⟨_,h2⟩:=h;cases hu:P.underlying T with
  | none=>simp [hu] at h2
  | some d =>
   refine ⟨d,rfl,?_⟩;cases d<;>simp only [hu] at h2
   case struct fs =>
    cases hf:fs.toList with
    | nil=>rw [hf] at h2; cases t<;>simp [n6] at h2; rfl
    | cons f l=>rw [hf] at h2; cases t<;>simp [n6] at h2; rfl
   all_goals cases t<;>first|rfl|(exact (aAy h2).elim)
variable {w:World}
theorem run_sizeOf {n:Nat} {T:TypeId} {t:Ty} (h:o8 P n T t=true):(sizeOf T).run P w=.ok t.size w:=by
 obtain ⟨i,h1,h2,_⟩:=X5 h;simp [sizeOf,typeInfo,program,Sem.run,h1,h2]
theorem AD {n:Nat} {T:TypeId} {t:Ty} (h:o8 P n T t=true):(zeroValue T).run P w=.ok (l5 t (zc t)) w:=by
 obtain ⟨i,h1,_,h3⟩:=X5 h;simp [zeroValue,typeInfo,program,Sem.run,h1,h3]
theorem p9 {T:TypeId} {d:TypeDesc} (h:P.underlying T=some d):(underlying T).run P w=.ok d w:=by
 simp [underlying,program,Sem.run,h]
theorem KL {n:Nat} {T:TypeId} {t:Ty} (h:o8 P n T t=true):(isAgg T).run P w=.ok t.agg w:=by
 obtain ⟨d,h1,h2⟩:=R8 h;rw [h2];simp only [isAgg,Sem.run_bind,p9 h1,Result.andThen];cases d<;>rfl
end
section
variable {H:Array Go.Obj} {S:Nat->Prop}
theorem g9.s4:∀ t:Ty,g9 H S t [] (zc t) t.s4:=by
 intro t
 induction t with
 | int k=>exact ⟨rfl,rfl,by unfold r9; cases k<;>decide⟩
 | bool=>exact ⟨rfl,rfl⟩
 | str=>exact ⟨rfl,rfl,aAz _⟩
 | unit=>exact ⟨rfl,rfl⟩
 | fn f=>exact ⟨rfl,rfl⟩
 | hole t _=>exact ⟨rfl,_,rfl,rfl⟩
 | B9 t _=>exact .inl ⟨rfl,⟨none,0,rfl,λ _=>rfl⟩,rfl⟩
 | map o k v=>exact .inl ⟨rfl,rfl,rfl⟩
 | box o g t=>exact .inl ⟨rfl,rfl,rfl⟩
 | pair a b iha ihb =>
  refine ⟨[],[],rfl,?_,?_⟩
  ·simp only [zc,<- S4 a,aDd]; exact iha
  ·simp only [zc,<- S4 a,aEy]; exact ihb
 | arr n t ih =>
  refine ⟨by simp [Ty.s4],?_⟩;simp only [Ty.s4,zc]
  induction n with
  | zero=>exact ⟨rfl,rfl⟩
  | succ n ihn =>
   refine ⟨[],[],rfl,?_,?_⟩
   ·rw [aDz,aEl,aDd (S4 t)]; exact ih
   ·rw [aDz,aEl,aEy (S4 t)]; exact ihn
 | d0 o t _=>exact .inl ⟨rfl,⟨none,0,rfl,λ _=>rfl⟩,rfl⟩
theorem c3E {t:Ty} {cs:List Value} (h:cs.length=t.size) (hn:∀ c∈cs,∀ a,c≠.agg a):(l5 t cs).cells=cs.toArray:=by
 unfold l5
 split
 ·rfl
 ·rename_i hg
  have:cs.length=1:=by rw [h]; cases t<;>simp_all [Ty.agg,Ty.size]
  match cs,this with
  | [c],_ =>
   simp only [aFr];have:=hn c (by simp);cases c<;>simp_all [Value.cells]
def Plain (v:Value):Prop:=v.oneCell'=true/\∀ a,v≠.agg a
theorem j5.plain {α:Type} {R:List Nat->List Value->α->Prop} {sz:Nat} (hR:∀ O cs x,R O cs x->∀ c∈cs,Plain c):∀ {l:List α} {O:List Nat} {cs:List Value},j5 R sz O cs l->∀ c∈cs,Plain c
 | [],_,_,⟨_,h⟩=>by rw [h]; simp
 | _::_,_,cs,⟨O1,O2,_,h1,h2⟩=>by
  intro c hc;rw [<- aBv sz cs] at hc;rcases aAi.1 hc with h|h
  ·exact hR _ _ _ h1 c h
  ·exact j5.plain hR h2 c h
theorem g9.plain:∀ {t:Ty} {O:List Nat} {cs:List Value} {x:t.den},g9 H S t O cs x->∀ c∈cs,Plain c:=by
 intro t
 induction t with
 | int k=>rintro O cs x ⟨_,rfl,_⟩ c hc; simp at hc; subst hc; exact ⟨rfl,by simp⟩
 | bool=>rintro O cs x ⟨_,rfl⟩ c hc; simp at hc; subst hc; exact ⟨rfl,by simp⟩
 | str=>rintro O cs x ⟨_,rfl,_⟩ c hc; simp at hc; subst hc; exact ⟨rfl,by simp⟩
 | unit=>rintro O cs x ⟨_,rfl⟩ c hc; simp at hc
 | fn f =>
  rintro O cs x ⟨_,rfl⟩ c hc;simp at hc; subst hc;cases x with
  | true=>exact ⟨rfl,by simp [fnV]⟩
  | false =>
   unfold fnV;dsimp only
   split<;>exact ⟨rfl,by simp⟩
 | hole t _ =>
  rintro O cs x ⟨_,v,rfl,hv⟩ c hc;simp at hc; subst hc;cases c<;>first|exact ⟨rfl,by simp⟩|exact absurd hv (by simp [Dg])
 | B9 t _ =>
  rintro O cs ⟨n,l,m⟩ h c hc
  match n,h with
  | 0,h=>rcases h with ⟨_,⟨_,_,rfl,_⟩,_⟩|⟨b,off,cap,O',rfl,_⟩<;>(simp at hc; subst hc; exact ⟨rfl,by simp⟩)
  | 1,h=>rcases h with ⟨_,⟨_,_,rfl,_⟩,_⟩|⟨b,off,cap,O',rfl,_⟩<;>(simp at hc; subst hc; exact ⟨rfl,by simp⟩)
  | n+2,⟨b,off,O',h1,_⟩=>rw [h1] at hc; simp at hc; subst hc; exact ⟨rfl,by simp⟩
 | map o k v =>
  rintro O cs x (⟨_,_,rfl⟩|⟨l,b,es,ck,_,rfl,_⟩) c hc<;>(simp at hc; subst hc; exact ⟨rfl,by simp⟩)
 | box o g t =>
  rintro O cs x (⟨_,_,rfl⟩|⟨y,b,off,O',_,rfl,_⟩) c hc<;>(simp at hc; subst hc; cases g<;>exact ⟨rfl,by simp [xi,Dc]⟩)
 | pair a b iha ihb =>
  rintro O cs x ⟨O1,O2,_,h1,h2⟩ c hc;rw [<- aBv a.size cs] at hc;rcases aAi.1 hc with h|h
  ·exact iha h1 c h
  ·exact ihb h2 c h
 | arr n t ih=>rintro O cs x ⟨_,h⟩; exact j5.plain (λ _ _ _ h=>ih h) h
 | d0 o t _ =>
  rintro O cs x h c hc;rcases h with ⟨_,⟨_,_,rfl,_⟩,_⟩|⟨b,off,cap,O',rfl,_⟩<;>(simp at hc; subst hc; exact ⟨rfl,by simp⟩)
theorem g9.cells {t:Ty} {O:List Nat} {cs:List Value} {x:t.den} (h:g9 H S t O cs x):(l5 t cs).cells=cs.toArray :=
 c3E h.length λ c hc=>(h.plain c hc).2
end
end Go.Ex
