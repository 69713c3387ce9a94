import Derived.Test.YtijlnmgondibnaaGreatDoorExK1
import Derived.Laws.Entries
set_option linter.unusedVariables false
set_option linter.unusedSimpArgs false
set_option linter.unusedSectionVars false
namespace Go.Ex
def look {α:Type _} (n:Nat):List (Nat×α)->Option α
 | []=>none
 | (m,x)::l=>match Nat.beq n m with|true=>some x|false=>look n l
def put {α:Type _} (n:Nat) (x:α) (l:List (Nat×α)):List (Nat×α) :=
 match l with
 | []=>[(n,x)]
 | (m,y)::l=>match Nat.beq n m with
  | true=>(n,x)::l
  | false=>match Nat.blt n m with
   | true=>(n,x)::(m,y)::l
   | false=>(m,y)::put n x l
def del {α:Type _} (n:Nat):List (Nat×α)->List (Nat×α)
 | []=>[]
 | (m,y)::l=>match Nat.beq n m with|true=>del n l|false=>(m,y)::del n l
structure TI where
 ty:Ty
 by_:Nat
def zc:Ty->List Value
 | .int k=>[.int k 0]
 | .bool=>[.bool false]
 | .str=>[.string ⟨#[]⟩]
 | .unit=>[]
 | .fn f=>[fnV f false]
 | .map _ _ _=>[.map none]
 | .box _ g _=>[DO g]
 | .pair a b=>zc a++zc b
 | .arr n t=>(List.replicate n (zc t)).flatten
 | .d0 _ _|.hole _|.D4 _=>[.slice none 0 0]
def eqS:Value->Value->Bool
 | .int k n,.int k' n'=>decide (k=k') && decide (n=n')
 | .bool a,.bool b=>a == b
 | .string a,.string b=>a.data.size == 0 && b.data.size == 0
 | .slice none a b,.slice none c d=>Nat.beq a c && Nat.beq b d
 | .nilFunc,.nilFunc=>true
 | .map none,.map none=>true
 | .pointer none,.pointer none=>true
 | _,_=>false
def eqL:List Value->List Value->Bool
 | [],[]=>true
 | a::l,b::m=>eqS a b && eqL l m
 | _,_=>false
def eqV:Value->Value->Bool
 | .agg a,.agg b=>eqL a.toList b.toList
 | a,b=>eqS a b
def Ty.al:Ty->Nat
 | .int k=>k.bits / 8
 | .bool=>1
 | .str|.d0 _ _|.fn _|.map _ _ _|.box _ _ _|.hole _|.D4 _=>8
 | .unit=>1
 | .pair a b=>Nat.max a.al b.al
 | .arr _ t=>t.al
def rup (n a:Nat):Nat:=(n+(a - 1)) / a*a
mutual
def Ty.wb:Ty->Nat
 | .int k=>k.bits / 8
 | .bool=>1
 | .str=>16
 | .d0 _ _|.hole _|.D4 _=>24
 | .fn _=>8
 | .map _ _ _=>8
 | .box _ _ _=>8
 | .unit=>0
 | .pair a b=>rup (b.yJ (rup 0 a.al+a.wb)) (Nat.max a.al b.al)
 | .arr n t=>n*t.wb
def Ty.yJ:Ty->Nat->Nat
 | .pair a b,o=>b.yJ (rup o a.al+a.wb)
 | _,o=>o
end
def n7 (ck:TypeId->Ty->Bool):List Field->Nat->Ty->Bool
 | [],_,.unit=>true
 | f::fs,off,.pair a b=>Nat.beq f.offset off && Nat.ble 1 a.size && ck f.type a && f.name != "_" && n7 ck fs (off+a.size) b
 | _,_,_=>false
def r8 (P:Program):Nat->TypeId->Ty->Bool
 | 0,_,_=>false
 | n+1,T,t =>
  (match P.info? T with
  | some i=>Nat.beq i.size t.size && Nat.beq i.bytes t.wb && (match i.zero with|some z=>eqV z (s5 t (zc t))|none=>false)
  | none=>false) &&
  match P.underlying T,t with
  | some .bool,.bool=>true
  | some (.int k),.int k'=>decide (k=k')
  | some .string,.str=>true
  | some (.func _ _ _),.fn _=>true
  | some (.map K V),.map _ k v=>k.shared && v.shared && r8 P n K k && r8 P n V v
  | some (.pointer e),.box _ none t=>r8 P n e t
  | some (.func _ _ _),.box _ (some _) _=>true
  | some (.struct fs),t=>n7 (r8 P n) fs.toList 0 t
  | some (.array m e),.arr m' t=>Nat.beq m m' && Nat.ble 1 t.size && r8 P n e t
  | some (.slice e),.d0 _ t=>Nat.ble 1 t.size && r8 P n e t
  | some (.slice e),.hole t=>Nat.ble 1 t.size && r8 P n e t
  | some (.slice e),.D4 t=>Nat.ble 1 t.size && r8 P n e t
  | _,_=>false
def yc (P:Program) (x:TypeId×TI):Bool:=r8 P 100 x.1 x.2.ty && Nat.beq (P.bytesOf x.1) x.2.by_
inductive AV where
 | any
 | raw (v:Value)
 | val (t:Ty) (x:t.den)
 | ptr (i:Nat) (p:List Step)
 | N1 (t:Ty) (x:t.den)
 | at_ (i:Nat) (p:List Step)
 | sub (i:Nat) (p:List Step) (lo hi:Int)
 | nil
 | cons (a b:AV)
 | M9 (l:AV)
 | D9 (f:FuncId) (l:AV)
 | bx (l:AV)
 | rc (f:FuncId) (l:AV)
inductive g9 where
 | var (t:Ty) (x:t.den)
 | own (t:Ty) (x:t.den)
 | N0
def g9.ty:g9->Ty|.var t _=>t|.own t _=>t|.N0=>.unit
def g9.x:(e:g9)->e.ty.den|.var _ x=>x|.own _ x=>x|.N0=>()
def g9.F1 (e:g9) (r:Sigma Ty.den):g9:=match e with|.var _ _=>.var r.1 r.2|.own _ _=>.own r.1 r.2|.N0=>.N0
def g9.vQ:g9->Bool|.own _ _=>true|_=>false
def g9.kd (e:g9):Bool×Ty:=(e.vQ,e.ty)
structure St where
 fr:List (Nat×AV)
 hp:List (Nat×g9)
def St.get (s:St) (t:Nat):AV:=(look t s.fr).getD .any
def St.obj (s:St) (i:Nat):Option g9:=look i s.hp
def St.put (s:St) (d:Option Nat) (v:AV):St :=
 match d with
 | some t=>{ s with fr:=Ex.put t v s.fr }
 | none=>s
def AV.i8 (i:Nat):AV->Bool
 | .ptr j _|.at_ j _|.sub j _ _ _=>Nat.beq i j
 | .cons a b=>a.i8 i || b.i8 i
 | .M9 l|.D9 _ l|.bx l|.rc _ l=>l.i8 i
 | _=>false
def AV.map (f:AV->AV):AV->AV
 | .ptr j p=>f (.ptr j p)
 | .at_ j p=>f (.at_ j p)
 | .sub j p a b=>f (.sub j p a b)
 | .cons a b=>.cons (a.map f) (b.map f)
 | .M9 l=>.M9 (l.map f)
 | .D9 g l=>.D9 g (l.map f)
 | .bx l=>.bx (l.map f)
 | .rc g l=>.rc g (l.map f)
 | v=>v
def AV.drop (i:Nat):AV->AV:=AV.map λ v=>match v.i8 i with|true=>.any|false=>v
def AV.BO (i:Nat) (ow:Bool×Ty) (q:List Step) (v:AV):AV :=
 match v.i8 i with
 | false=>v
 | true=>match v with
  | .ptr j p=>match kp q p with|true=>.ptr j p|false=>.any
  | .at_ j []=>match ow.1,q with
   | true,.idx _::_=>.at_ j []
   | _,_=>match kc ow.2 q [] with|true=>.at_ j []|false=>.any
  | .at_ j (st::p)=>match kc ow.2 q (st::p) && kp q (st::p) with|true=>.at_ j (st::p)|false=>.any
  | .sub j [] a b=>match ow.1,q with
   | true,.idx _::_=>.sub j [] a b
   | _,_=>.any
  | _=>.any
def AV.kill (i:Nat) (ow:Bool×Ty) (q:List Step):AV->AV:=AV.map (AV.BO i ow q)
def mapA {α:Type _} (f:α->α):List (Nat×α)->List (Nat×α)
 | []=>[]
 | (n,x)::l=>(n,f x)::mapA f l
def St.drop (i:Nat) (s:St):St:={ fr:=mapA (AV.drop i) s.fr,hp:=del i s.hp }
def St.kill (i:Nat) (ow:Bool×Ty) (q:List Step) (s:St):St:={ s with fr:=mapA (AV.kill i ow q) s.fr }
def St.B9:List Nat->St->St
 | [],s=>s
 | i::l,s=>St.B9 l (s.drop i)
def St.y9 (s:St) (i:Nat) (e:g9):St:={ s with hp:=Ex.put i e s.hp }
def wP (i:Nat):List (Nat×AV)->Bool
 | []=>true
 | (_,v)::l=>!v.i8 i && wP i l
def St.fresh (s:St) (i:Nat):Bool:=(look i s.hp).isNone && wP i s.fr
inductive PK where
 | v (t:Ty)
 | rd (t:Ty)
 | D9 (f:FuncId) (ts:List Ty)
 | own (t:Ty)
 | rw (t:Ty)
 | mu (t:Ty)
 | X4
 | rcs (f:FuncId) (n:Nat)
 | el (q:List Step)
def DL:List Ty->Type
 | []=>Unit
 | t::ts=>t.den×DL ts
def PK.den:PK->Type
 | .v t=>t.den
 | .rd t=>t.den
 | .D9 _ ts=>DL ts
 | .own t=>t.den
 | .rw t=>t.den
 | .mu t=>List t.den
 | .X4=>Unit
 | .rcs _ _=>Unit
 | .el _=>Int
def DK:List PK->Type
 | []=>Unit
 | k::ks=>k.den×DK ks
def F9:List PK->List Ty
 | []=>[]
 | .rw t::ks=>t::F9 ks
 | .mu t::ks=>.d0 true t::F9 ks
 | _::ks=>F9 ks
def DL.app:{a b:List Ty}->DL a->DL b->DL (a++b)
 | [],_,_,y=>y
 | _::_,_,x,y=>(x.1,DL.app x.2 y)
structure r9 where
 ps:List PK
 rs:List Ty
 pre:DK ps->Prop
 fn:DK ps->DL rs
 out:DK ps->DL (F9 ps)
 new:Bool:=false
structure Env where
 P:Program
 tt:List (TypeId×TI)
 E3:List (FuncId×r9)
 res:List ResultVar
 rs:List Ty
 ps:List PK
 D5:List (Nat×List (Nat×Option Ty))
 nt:Nat
 keeps:List (FuncId×List (Option Nat)):=[]
 gp:Option (List Step):=none
inductive Tree (rs:List Ty) where
 | f8 (p:Prop) (t:Tree rs)
 | both (p:Prop) (a b:Tree rs)
 | cut (c:Code) (k:List Item) (s:St)
 | ret (y:DL rs)
 | stuck (why:String)
def Tree.holds {rs:List Ty} (L:Code->List Item->St->Prop) (R:DL rs->Prop):Tree rs->Prop
 | .f8 p t=>p/\(p->t.holds L R)
 | .both p a b=>(p->a.holds L R)/\b.holds L R
 | .cut c k s=>L c k s
 | .ret y=>R y
 | .stuck _=>False
inductive OR where
 | fail (why:String)
 | ok (v:AV) (s:St)
 | H3 (p:Prop) (v:AV) (s:St)
theorem G0:∀ t:Ty,t.sh.den=t.den:=by
 intro t
 induction t with
 | pair a b iha ihb=>simp only [Ty.sh,Ty.den,iha,ihb]
 | arr n t ih=>simp only [Ty.sh,Ty.den,ih]
 | d0 o t ih=>simp only [Ty.sh,Ty.den,ih]
 | hole t ih=>simp only [Ty.sh,Ty.den,ih]
 | D4 t ih=>simp only [Ty.sh,Ty.den,ih]
 | box o g t ih=>simp only [Ty.sh,Ty.den,ih]
 | _=>rfl
theorem Cu:∀ t:Ty,t.shH.den=t.den:=by
 intro t
 induction t with
 | pair a b iha ihb=>simp only [Ty.shH,Ty.den,iha,ihb]
 | d0 o t ih=>simp only [Ty.shH,Ty.den,G0]
 | D4 t ih=>simp only [Ty.shH,Ty.den,G0]
 | arr n t ih=>simp only [Ty.shH,Ty.den,G0]
 | box o g t ih=>simp only [Ty.shH,Ty.den,G0]
 | _=>rfl
def AV.as (t:Ty):AV->Option t.den
 | .val u x=>if h:u=t then some (h▸x) else none
 | .raw (.slice none 0 0)=>match t with
  | .d0 _ _=>some []
  | _=>none
 | _=>none
def St.part (s:St) (i:Nat) (p:List Step):Option (Sigma Ty.den) :=
 match s.obj i with
 | some e=>j9 e.ty e.x p
 | none=>none
def Ty.rdT:Ty->Ty
 | .pair a b=>.pair a.rdT b.rdT
 | .arr n t=>.arr n t.rdT
 | .d0 _ t=>.d0 false t.rdT
 | .D4 t=>.d0 false t.sh
 | t=>t.sh
def Ty.okM:Ty->Bool
 | .pair a b=>a.okM && b.okM
 | .arr _ t=>t.okM
 | .d0 _ t=>t.okM
 | .D4 t=>t.X1
 | t=>t.X1
theorem JH:∀ t:Ty,t.X1=true->t.rdT=t.sh:=by
 intro t
 induction t with
 | pair a b iha ihb=>intro h; simp only [Ty.X1,aAa] at h; simp only [Ty.rdT,Ty.sh,iha h.1,ihb h.2]
 | arr n t ih=>intro h; simp only [Ty.rdT,Ty.sh,ih h]
 | d0 o t ih=>intro h; simp only [Ty.rdT,Ty.sh,ih h]
 | D4 t ih=>intro h; cases h
 | _=>intro h; rfl
theorem yn {t:Ty} (h:t.X1=true):t.den=t.rdT.den:=by rw [JH t h,G0]
def rdV:(t:Ty)->t.den->t.rdT.den
 | .pair a b,x=>(rdV a x.1,rdV b x.2)
 | .arr _ t,l=>if h:t.X1=true then cast (congrArg List (yn h)) l else List.map (rdV t) l
 | .d0 _ t,l=>if h:t.X1=true then cast (congrArg List (yn h)) l else List.map (rdV t) l
 | .D4 t,x=>cast (congrArg List (G0 t).symm) x.2.1
 | .int _,x=>x
 | .bool,x=>x
 | .str,x=>x
 | .unit,x=>x
 | .fn _,x=>x
 | .map _ _ _,x=>x
 | .box _ _ t,x=>cast (congrArg Option (G0 t).symm) x
 | .hole t,x=>cast (congrArg List (G0 t).symm) x
def shF (n:Nat):Nat:=match n with|0=>0|1=>0|_=>3
def rdS (a t:Ty) (x:(Ty.D4 a).den):Option t.den :=
 match t with
 | .D4 b=>if h:a.sh=b then (match a.X1 with
  | true=>some (shF x.1,h▸cast (congrArg List (G0 a).symm) x.2.1,h▸cast (congrArg List (G0 a).symm) x.2.2)
  | false=>none) else none
 | _=>none
def rdM (t:Ty) (u:Ty) (y:u.den):Option t.den :=
 match u.okM with
 | true=>if h:u.rdT=t then some (h▸rdV u y) else (match u,y with
  | .D4 a,y=>rdS a t y
  | _,_=>none)
 | false=>none
def yj (t:Ty) (r:Option (Sigma Ty.den)):Option t.den :=
 match r with
 | some ⟨u,y⟩=>match u.okH with
  | true=>if h:u.shH=t then some (cast ((Cu u).symm.trans (congrArg Ty.den h)) y) else none
  | false=>rdM t u y
 | none=>none
def yh (u:Ty) (r:Sigma Ty.den):Sigma Ty.den :=
 match u,r with
 | .D4 a,⟨.d0 true b,z⟩=>if h:b=a then ⟨.D4 a,(1,h▸z,[])⟩ else ⟨.d0 true b,z⟩
 | .D4 a,⟨.d0 false b,z⟩=>if h:b=a then ⟨.D4 a,(0,h▸z,[])⟩ else ⟨.d0 false b,z⟩
 | _,r=>r
def Ty.Ak:Ty->Bool
 | .D4 _=>true
 | .pair a b=>a.Ak || b.Ak
 | _=>false
def S6:Ty->Sigma Ty.den->Sigma Ty.den
 | .D4 a,r=>yh (.D4 a) r
 | .pair a b,r=>match a.Ak || b.Ak,r with
  | true,⟨.pair c d,z⟩=>(match S6 a ⟨c,z.1⟩,S6 b ⟨d,z.2⟩ with
   | ⟨c',x⟩,⟨d',y⟩=>⟨.pair c' d',(x,y)⟩)
  | _,r=>r
 | _,r=>r
def St.wa (s:St) (t:Ty) (i:Nat) (p:List Step):Option t.den:=yj t (s.part i p)
def o6 {α:Type} (lo hi:Int) (l:List α):List α:=(l.drop lo.toNat).take (hi - lo).toNat
def St.view (s:St) (i:Nat) (p:List Step) (lo hi:Int):Option (Sigma λ t:Ty=>List t.den) :=
 match s.part i p with
 | some ⟨.d0 _ t,l⟩=>some ⟨t,o6 lo hi l⟩
 | some ⟨.arr _ t,l⟩=>some ⟨t,o6 lo hi l⟩
 | _=>none
def AV.asV (s:St) (t:Ty):AV->Option t.den
 | .at_ i p=>s.wa t i p
 | .sub i p lo hi=>match s.view i p lo hi with
  | some ⟨u,l⟩=>yj t (some ⟨.d0 true u,l⟩)
  | none=>none
 | .val u x=>if h:u=t then some (h▸x) else yj t (some ⟨u,x⟩)
 | v=>v.as t
def AV.asR (s:St) (t:Ty):AV->Option t.den
 | .ptr i p=>s.wa t i p
 | .N1 u x=>if h:u=t then some (h▸x) else none
 | .bx (.ptr i p)=>match t with
  | .box false none u=>(match s.wa u i p with
   | some x=>some (some x)
   | none=>none)
  | _=>none
 | _=>none
def AV.yH (s:St):(ts:List Ty)->AV->Option (DL ts)
 | [],.nil=>some ()
 | t::ts,.cons a b=>match a.asR s t,AV.yH s ts b with
  | some x,some y=>some (x,y)
  | _,_=>none
 | _,_=>none
def Y1 {u t:Ty} (h:u=t) (x:u.den):t.den:=h▸x
def AV.vF (s:St):AV->Option (Sigma Ty.den×List Nat)
 | .val t x=>some (⟨t,x⟩,[])
 | .at_ i []=>match s.obj i with
  | some (.own t x)=>some (⟨t,x⟩,[i])
  | _=>none
 | .sub i [] lo hi=>match s.obj i with
  | some (.own (.d0 true t) x)=>some (⟨.d0 true t,o6 lo hi x⟩,[i])
  | _=>none
 | _=>none
def AV.wi (s:St) (v:AV):Option (Sigma Ty.den×List Nat) :=
 match v with
 | .at_ i []=>match s.obj i with
  | some (.var t x)=>some (⟨t,x⟩,[i])
  | _=>(AV.at_ i []).vF s
 | .D9 f .nil=>some (⟨.fn f,true⟩,[])
 | v=>v.vF s
def AV.T3 (s:St) (k:PK) (v:AV):Option (k.den×List Nat×List Nat) :=
 match k with
 | .v t=>match v.asV s t with|some x=>some (x,[],[])|none=>none
 | .rd t=>match v.asR s t with|some x=>some (x,[],[])|none=>none
 | .D9 f ts=>match v with
  | .D9 g l=>match Nat.beq f g with
   | true=>match AV.yH s ts l with|some x=>some (x,[],[])|none=>none
   | false=>none
  | _=>none
 | .X4=>match v with
  | .raw (.slice none 0 0)=>some ((),[],[])
  | _=>none
 | .own t=>match v with
  | .raw (.slice none 0 0)=>match v.as t with|some x=>some (x,[],[])|none=>none
  | v=>match v.wi s with
   | some (⟨u,x⟩,l)=>if h:u=t then some (Y1 h x,l,[]) else none
   | none=>none
 | .rw t=>match v with
  | .ptr i []=>match s.obj i with
   | some (.var u x)=>if h:u=t then some (Y1 h x,[],[i]) else none
   | _=>none
  | _=>none
 | .mu t=>match v with
  | .at_ i []=>match s.obj i with
   | some (.own u x)=>if h:u=.d0 true t then some (Y1 h x,[],[i]) else none
   | _=>none
  | _=>none
 | .rcs _ _=>none
 | .el _=>none
def AV.vH (s:St):(ks:List PK)->AV->Option (DK ks×List Nat×List Nat)
 | [],.nil=>some ((),[],[])
 | k::ks,.cons a b=>match a.T3 s k,AV.vH s ks b with
  | some (x,g,m),some (y,g',m')=>some ((x,y),g++g',m++m')
  | _,_=>none
 | _,_=>none
def AV.I9:AV->List Nat
 | .at_ i _|.ptr i _|.sub i _ _ _=>[i]
 | .cons a b=>a.I9++b.I9
 | .M9 l|.D9 _ l|.bx l|.rc _ l=>l.I9
 | _=>[]
def Ty.L8:Ty->Bool
 | .pair a b=>a.L8 && b.L8
 | .arr _ t=>t.L8
 | .d0 o t=>o && t.L8
 | .map o k v=>o && k.L8 && v.L8
 | .box o _ t=>o && t.L8
 | .D4 _=>false
 | _=>true
def AV.lst:AV->Bool
 | .nil=>true
 | .cons _ b=>b.lst
 | _=>false
def AV.app:AV->AV->AV
 | .cons a b,l=>.cons a (b.app l)
 | _,l=>l
def R4 (d j:Nat):Nat:=d+1000*(j+1)
def wu (t:Ty) (x:t.den) (i:Nat):g9×AV :=
 match t,x with
 | .box true none u,some y=>(.var u y,.ptr i [])
 | .box true (some f) u,some y=>(.var u y,.D9 f (.cons (.ptr i []) .nil))
 | t,x=>(.own t x,.at_ i [])
def Z4:(ts:List Ty)->DL ts->Nat->Nat->List (Nat×g9)->Option (AV×List (Nat×g9))
 | [],_,_,_,hp=>some (.nil,hp)
 | t::ts,x,d,j,hp =>
  match t.shared with
  | true=>match Z4 ts x.2 d (j+1) hp with
   | some (l,cI)=>some (.cons (.val t x.1) l,cI)
   | none=>none
  | false=>match look (R4 d j) hp with
   | some _=>none
   | none=>match Z4 ts x.2 d (j+1) (Ex.put (R4 d j) (wu t x.1 (R4 d j)).1 hp) with
    | some (l,cI)=>some (.cons (wu t x.1 (R4 d j)).2 l,cI)
    | none=>none
def AV.one:AV->AV
 | .cons a .nil=>a
 | l=>.M9 l
def yq (d:Nat):Nat->List (Nat×AV)->Bool
 | 0,_=>true
 | j+1,fr=>wP (R4 d j) fr && yq d j fr
def xp:List Nat->Bool
 | []=>true
 | a::l=>!l.contains a && xp l
def DZ:List Nat->List Nat->Bool
 | [],_=>true
 | a::l,m=>!m.contains a && DZ l m
def AP (d:Nat):Nat->List (Nat×g9)->Bool
 | 0,_=>true
 | j+1,hp=>(look (R4 d j) hp).isNone && AP d j hp
def pinned (i:Nat):Bool:=Nat.ble 2000000 i
def xZ:List Step->Bool
 | []=>true
 | .m0 _::p=>xZ p
 | .idx _::_=>false
def AV.ym (i:Nat) (ow:Bool) (v:AV):AV :=
 match v.i8 i with
 | false=>v
 | true=>match v with
  | .ptr j p=>match xZ p with|true=>.ptr j p|false=>.any
  | .at_ j []=>match ow with|true=>.at_ j []|false=>.any
  | .sub j [] a b=>match ow with|true=>.sub j [] a b|false=>.any
  | _=>.any
def St.vR (i:Nat) (ow:Bool) (s:St):St:={ s with fr:=mapA (AV.map (AV.ym i ow)) s.fr }
def wr (ks:List PK) (y:DL (F9 ks)) (m:List Nat) (s:St):Option St :=
 match ks,y,m with
 | [],_,[]=>some s
 | .rw t::ks,y,[i]=>match F9 ks with
  | []=>some ((s.vR i false).y9 i (.var t y.1))
  | _=>none
 | .mu t::ks,y,[i]=>match F9 ks with
  | []=>some ((s.vR i true).y9 i (.own (.d0 true t) y.1))
  | _=>none
 | .v _::ks,y,m=>wr ks y m s
 | .rd _::ks,y,m=>wr ks y m s
 | .D9 _ _::ks,y,m=>wr ks y m s
 | .own _::ks,y,m=>wr ks y m s
 | .X4::ks,y,m=>wr ks y m s
 | .rcs _ _::ks,y,m=>wr ks y m s
 | .el _::ks,y,m=>wr ks y m s
 | _,_,_=>none
def U7 (E:Env) (f:FuncId) (args:AV) (dst:Option Nat) (s:St):OR :=
 match look f E.E3 with
 | none=>.fail "call: no contract"
 | some c=>match AV.vH s c.ps args with
  | none=>.fail "call: arguments"
  | some (x,g,m)=>match xp (g++m) && DZ (g++m) (loose c.ps args) && (g.all λ i=>!pinned i) && (((c.rs.all Ty.L8 || c.new) && (F9 c.ps).all Ty.L8) || (match loose c.ps args with|[]=>true|_=>false)) && (yq (dst.getD 0) c.rs.length s.fr && AP (dst.getD 0) c.rs.length s.hp) with
   | false=>.fail "call: objects"
   | true=>match wr c.ps (c.out x) m (St.B9 g s) with
    | none=>.fail "call: writing"
    | some s=>match yq (dst.getD 0) c.rs.length s.fr with
     | false=>.fail "call: names"
     | true=>match Z4 c.rs (c.fn x) (dst.getD 0) 0 s.hp with
      | some (l,hp)=>.H3 (c.pre x) l.one { s with hp:=hp }
      | none=>.fail "call: results"
where
 loose:List PK->AV->List Nat
  | .own _::ks,.cons _ b=>loose ks b
  | .rw _::ks,.cons _ b=>loose ks b
  | .mu _::ks,.cons _ b=>loose ks b
  | _::ks,.cons a b=>a.I9++loose ks b
  | _,_=>[]
def ofConst:Value->AV
 | .int k n=>if k.min<=n/\n<=k.max then .val (.int k) n else .raw (.int k n)
 | .bool b=>.val .bool b
 | .string s=>if s.data.size<=maxLen then .val .str s.data.toList else .raw (.string s)
 | v=>.raw v
abbrev K3:Nat:=5000000
def St.ev (s:St):Operand->AV
 | .tmp t=>match Nat.beq t K3 with
  | true=>.any
  | false=>s.get t
 | .const v=>ofConst v
 | .global _=>.any
 | .func f=>.D9 f .nil
def St.M2 (s:St):List Operand->AV
 | []=>.nil
 | x::l=>.cons (s.ev x) (s.M2 l)
def U2 (k:IntKind) (x y:Int):Int:=k.wrap (BitVec.ofInt k.bits x &&& BitVec.ofInt k.bits y).toNat
def bOr (k:IntKind) (x y:Int):Int:=k.wrap (BitVec.ofInt k.bits x ||| BitVec.ofInt k.bits y).toNat
def wt (k:IntKind) (x y:Int):Int:=k.wrap (BitVec.ofInt k.bits x ^^^ BitVec.ofInt k.bits y).toNat
def T8 (k:IntKind) (x y:Int):Int:=k.wrap (BitVec.ofInt k.bits x &&& ~~~(BitVec.ofInt k.bits y)).toNat
def arith (k:IntKind) (r:Int) (s:St):OR :=
 match k with
 | .i64=>.H3 (w4 .i64 r) (.val (.int .i64) r) s
 | k=>.ok (.val (.int k) (k.wrap r)) s
def xX (op:BinOp) (k:IntKind) (a:Int) (k':IntKind) (b:Int) (s:St):OR :=
 match op with
 | .shl=>.H3 (0<=b) (.val (.int k) (k.wrap (a*2^(min b.toNat k.bits)))) s
 | .shr=>.H3 (0<=b) (.val (.int k) (a / 2^(min b.toNat k.bits))) s
 | op =>
  if k=k' then
   match op with
   | .add=>arith k (a+b) s
   | .sub=>arith k (a - b) s
   | .mul=>arith k (a*b) s
   | .quo=>.H3 (0<b) (.val (.int k) (Int.tdiv a b)) s
   | .rem=>.H3 (0<b) (.val (.int k) (Int.tmod a b)) s
   | .and=>.ok (.val (.int k) (U2 k a b)) s
   | .or=>.ok (.val (.int k) (bOr k a b)) s
   | .xor=>.ok (.val (.int k) (wt k a b)) s
   | .andNot=>.ok (.val (.int k) (T8 k a b)) s
   | .eql=>.ok (.val .bool (decide (a=b))) s
   | .neq=>.ok (.val .bool (decide (a≠b))) s
   | .lss=>.ok (.val .bool (decide (a<b))) s
   | .leq=>.ok (.val .bool (decide (a<=b))) s
   | .gtr=>.ok (.val .bool (decide (b<a))) s
   | .geq=>.ok (.val .bool (decide (b<=a))) s
   | _=>.fail "binop int"
  else .fail "binop kinds"
def zA (op:BinOp) (a b:yY) (s:St):OR :=
 match op with
 | .eql=>.ok (.val .bool (decide (a=b))) s
 | .neq=>.ok (.val .bool (decide (a≠b))) s
 | .add=>.H3 (a.length+b.length<=maxLen) (.val .str (a++b)) s
 | _=>.fail "binop string"
def Ty.U3:Ty->Ty
 | .pair a b=>.pair a.U3 b.U3
 | .arr n t=>.arr n t.U3
 | .d0 o t=>.d0 o t.U3
 | .box o g t=>.box o g t.U3
 | .D4 t=>.d0 false t.U3
 | .hole t=>.hole t.U3
 | t=>t
def K0 (E:Env) (T:TypeId) (u:Ty):Bool :=
 match look T E.tt with
 | some i=>decide (i.ty.U3.sh=u.U3.sh)
 | none=>false
def eqD:(t:Ty)->t.den->t.den->Bool
 | .int _,x,y=>decide ((x:Int)=y)
 | .bool,x,y=>(x:Bool) == y
 | .str,x,y=>decide ((x:yY)=y)
 | .unit,_,_=>true
 | .fn _,_,_=>false
 | .map _ _ _,_,_=>false
 | .box _ _ _,_,_=>false
 | .hole _,_,_=>false
 | .D4 _,_,_=>false
 | .pair a b,x,y=>eqD a x.1 y.1 && eqD b x.2 y.2
 | .arr _ t,x,y=>Bx (eqD t) x y
 | .d0 _ _,_,_=>false
where Bx {α:Type} (f:α->α->Bool):List α->List α->Bool
 | [],[]=>true
 | x::l,y::m=>f x y && Bx f l m
 | _,_=>false
def Nw (E:Env):Bool:=E.D5.any λ c=>Nat.beq c.1 999999
def xY (W:Bool) (op:BinOp) (k:IntKind) (a:Int) (k':IntKind) (b:Int) (s:St):OR :=
 match W,op with
 | true,.add=>if k=k' then .ok (.val (.int k) (k.wrap (a+b))) s else .fail "binop kinds"
 | _,op=>xX op k a k' b s
def yI (E:Env) (T:TypeId) (op:BinOp) (x y:AV) (s:St):OR :=
 match x,y with
 | .val (.int k) a,.val (.int k') b=>xY (Nw E) op k a k' b s
 | .val .bool a,.val .bool b =>
  match K0 E T .bool,op with
  | true,.eql=>.ok (.val .bool (a == b)) s
  | true,.neq=>.ok (.val .bool (a != b)) s
  | _,_=>.fail "binop bool"
 | .val .str a,.val .str b=>zA op a b s
 | _,_=>.fail "binop"
def Ty.ht:Ty->Nat
 | .pair a b=>max (a.ht+1) b.ht
 | .arr _ t=>t.ht+1
 | _=>0
def yD (ck:TypeId->Ty->Bool):List Field->Ty->Bool
 | [],.unit=>true
 | f::fs,.pair a b=>ck f.type a && yD ck fs b
 | _,_=>false
def Z5 (P:Program):Nat->TypeId->Ty->Bool
 | 0,_,_=>false
 | n+1,T,t=>match P.underlying T,t with
  | some (.struct fs),t=>!P.stoodInHeld T && yD (Z5 P n) fs.toList t
  | some (.array _ e),.arr _ t=>Z5 P n e t
  | some .bool,.bool=>true
  | some (.int _),.int _=>true
  | some .string,.str=>true
  | _,_=>false
def eqA (E:Env) (T:TypeId) (op:BinOp) (t:Ty) (x:t.den) (u:Ty) (y:u.den) (s:St):OR :=
 if h:u=t then
  (match t.agg && K0 E T t && Z5 E.P 100 T t && !(E.P.eqGuardType E.P.depth T) && Nat.blt t.ht 100,op with
  | true,.eql=>.ok (.val .bool (eqD t x (h▸y))) s
  | true,.neq=>.ok (.val .bool (!(eqD t x (h▸y)))) s
  | _,_=>.fail "eq")
 else .fail "eq: types"
def Al (E:Env) (T:TypeId) (op:BinOp) (s:St):OR :=
 match look T E.tt,op with
 | some ⟨.box _ none _,_⟩,.eql=>.ok (.val .bool false) s
 | some ⟨.box _ none _,_⟩,.neq=>.ok (.val .bool true) s
 | _,_=>.fail "binop nil"
def xm (E:Env) (T:TypeId) (op:BinOp) (x y:AV) (s:St):OR :=
 match x,y with
 | .ptr _ _,.raw (.pointer none)=>Al E T op s
 | .val (.pair p q) a,.val u b=>eqA E T op (.pair p q) a u b s
 | .val (.arr n q) a,.val u b=>eqA E T op (.arr n q) a u b s
 | x,y=>yI E T op x y s
def unA (op:UnOp) (x:AV) (s:St):OR :=
 match op,x with
 | .not,.val .bool b=>.ok (.val .bool (!b)) s
 | .neg,.val (.int k) a=>arith k (0 - a) s
 | .xor,.val (.int k) a=>.ok (.val (.int k) (wt k (if k.signed then -1 else k.max) a)) s
 | _,_=>.fail "unop"
def Z2 (t:Ty) (i:Nat):List Step :=
 match t with
 | .arr _ _=>[.idx i]
 | _=>[.m0 i]
def V0 (s:St):Sigma Ty.den->List (Nat×Operand)->Option (Sigma Ty.den×List Nat)
 | r,[]=>some (r,[])
 | ⟨t,x⟩,(i,v)::parts =>
  match j9 t x (Z2 t i) with
  | none=>none
  | some ⟨u0,_⟩=>match s.ev v with
   | .raw (.slice none 0 0)=>(match u0 with
    | .d0 o u'=>(match w7 t x (Z2 t i) (.d0 o u') ([]:List u'.den) with
     | some r=>V0 s r parts
     | none=>none)
    | _=>none)
   | v=>(match v.wi s with
    | some (⟨u,z⟩,g)=>(match w7 t x (Z2 t i) u z with
     | some r=>(match V0 s r parts with
      | some (r,g')=>some (r,g++g')
      | none=>none)
     | none=>none)
    | none=>none)
def Ap (s:St) (n:Nat) (t:Ty) (parts:List (Nat×Operand)):Option (Sigma Ty.den×List Nat) :=
 match V0 s ⟨.arr n t,(Ty.arr n t).w5⟩ parts with
 | some r=>some r
 | none=>V0 s ⟨.arr n t.sh,(Ty.arr n t.sh).w5⟩ parts
def St.lay (s:St) (d:Nat) (g:List Nat) (t:Ty) (x:t.den):OR :=
 match xp g && (g.all λ i=>!pinned i) && s.fresh d with
 | false=>.fail "lay: objects"
 | true=>match (St.B9 g s).fresh d with
  | true=>.ok (.at_ d []) ((St.B9 g s).y9 d (.own t x))
  | false=>.fail "lay: name"
def OR.f8 (p:Prop):OR->OR
 | .ok v s=>.H3 p v s
 | r=>r
def OR.yF (p:Prop):OR->OR
 | .ok v s=>.H3 (p/\True) v s
 | .H3 q v s=>.H3 (p/\q) v s
 | .fail y=>.fail y
def xt (t:Ty) (i:Nat):Bool :=
 match t with
 | .arr n _=>Nat.blt i n
 | _=>true
def NC:Option TI->Bool
 | some ⟨.box _ none _,_⟩=>true
 | some ⟨.fn _,_⟩=>true
 | _=>false
def vN (E:Env) (T:TypeId) (a:AV) (s:St):OR :=
 match a with
 | .N1 t x=>match K0 E T t with|true=>.ok (.val t x) s|false=>.fail "load: type"
 | .bx l=>match NC (look T E.tt) with
  | true=>.ok l s
  | false=>.fail "load: pointer"
 | .ptr i p=>match s.part i p with
  | some ⟨u,y⟩=>(match K0 E T u with
   | true=>(match u.shared with|true=>.ok (.val u y) s|false=>.ok (.at_ i p) s)
   | false=>.fail "load: type")
  | none=>.fail "load: path"
 | _=>.fail "load"
def Ty.wD:Ty->Ty
 | .pair a b=>.pair a.wD b.wD
 | .d0 o t=>match o with
  | true=>.hole t
  | false=>.d0 false t
 | t=>t
def Ep:(t:Ty)->t.den->t.wD.den
 | .int _,x=>x
 | .bool,x=>x
 | .str,x=>x
 | .unit,x=>x
 | .fn _,x=>x
 | .map _ _ _,x=>x
 | .box _ _ _,x=>x
 | .pair a b,x=>(Ep a x.1,Ep b x.2)
 | .arr _ _,x=>x
 | .d0 true _,_=>[]
 | .d0 false _,x=>x
 | .hole _,x=>x
 | .D4 _,x=>x
def S5 (E:Env) (T:TypeId) (i:Nat) (p:List Step) (x:AV) (s:St):OR :=
 match s.obj i with
 | none=>.fail "store: object"
 | some e=>match j9 e.ty e.x p with
  | none=>.fail "store: path"
  | some ⟨u,y⟩=>match K0 E T u with
   | false=>.fail "store: type"
   | true=>match x with
    | .raw (.slice none 0 0)=>(match u with
     | .d0 o u'=>(match w7 e.ty e.x p (.d0 o u') ([]:List u'.den) with
      | some r=>.ok (.raw undef) ((s.kill i e.kd p).y9 i (e.F1 r))
      | none=>.fail "store: nil")
     | .D4 a=>(match w7 e.ty e.x p (.D4 a) ((1,([],[])):Nat×(List a.den×List a.den)) with
      | some r=>.ok (.raw undef) ((s.kill i e.kd p).y9 i (e.F1 r))
      | none=>.fail "store: nil")
     | _=>.fail "store: nil of what")
    | .sub j q lo hi=>(match u,y with
     | .d0 true u',(y:List u'.den)=>(match w7 e.ty e.x p (.d0 true u') (o6 lo hi y) with
      | some r=>(match Nat.beq i j with
       | true=>.H3 (q=p/\True) (.raw undef) ((s.kill i e.kd p).y9 i (e.F1 r))
       | false=>.fail "store: a view of another")
      | none=>.fail "store: view")
     | _,_=>.fail "store: view of what")
    | x=>(match x.wi s with
     | some (q,g)=>(match w7 e.ty e.x p (S6 u q).1 (S6 u q).2 with
      | some r=>(match !g.contains i && xp g && g.all λ i=>!pinned i with
       | true=>.ok (.raw undef) (((St.B9 g s).kill i e.kd p).y9 i (e.F1 r))
       | false=>.fail "store: itself")
      | none=>.fail "store: value")
     | none=>(match x with
      | .at_ j q=>(match s.part j q with
       | some ⟨u',y'⟩=>(match w7 e.ty e.x p u'.wD (Ep u' y') with
        | some r=>(match u'.wD.shared && !u'.shared && !Nat.beq i j with
         | true=>.ok (.raw undef) ((s.kill i e.kd p).y9 i (e.F1 r))
         | false=>.fail "store: what")
        | none=>.fail "store: value")
       | none=>.fail "store: what")
      | _=>.fail "store: what"))
def AV.els (s:St):AV->Option (Sigma λ t:Ty=>List t.den)
 | .val (.d0 _ t) l=>some ⟨t,l⟩
 | .at_ i p=>match s.part i p with
  | some ⟨.d0 _ t,l⟩=>some ⟨t,l⟩
  | _=>none
 | .sub i p lo hi=>s.view i p lo hi
 | _=>none
def AV.vJ (s:St) (t0:Ty):AV->Option (Sigma (λ t:Ty=>List t.den)×List Nat)
 | .raw (.slice none 0 0)=>some (⟨t0,[]⟩,[])
 | .val .str y=>some (⟨.int .u8,(List.map (λ b:UInt8=>(b.toNat:Int)) y:List Int)⟩,[])
 | v=>match v.els s with
  | none=>none
  | some ⟨t,l⟩=>match t.shared with
   | true=>some (⟨t,l⟩,[])
   | false=>match v.vF s with
    | some (⟨.d0 true u,m⟩,g)=>some (⟨u,m⟩,g)
    | _=>none
def R8 {t u:Ty} (h:t=u) (l:List t.den):List u.den:=h▸l
def xA (E:Env) (T:TypeId) (x y:AV) (dst:Option Nat) (s:St):OR :=
 match look T E.tt,dst with
 | some ⟨.d0 _ t0,_⟩,some d=>match y.vJ s t0 with
  | none=>.fail "append: what"
  | some (⟨t,m⟩,g) =>
   let own (l:List t0.den) (f:List Nat):OR :=
    if h:t=t0 then (s.lay d (f++g) (.d0 true t0) (l++R8 h m)).f8 ((l.length+m.length:Nat)<=140737488355328/\(l.length+m.length:Nat)*(t0.wb:Nat)<=140737488355328)
    else .fail "append: type"
   match x with
   | .raw (.slice none 0 0)=>own [] []
   | .val (.d0 true u) _=>(match K0 E T (.d0 true u) with|true=>own [] []|false=>.fail "append: type")
   | x=>match x.vF s with
    | some (⟨.d0 true u,l⟩,f)=>if h:u=t0 then own (R8 h l) f else .fail "append: type"
    | _=>.fail "append: to what"
 | _,_=>.fail "append"
def Ty.HZ:Ty->Bool
 | .D4 _=>true
 | _=>false
def Er (s:St):AV->Bool
 | .at_ i []=>(match s.obj i with
  | some (.own (.D4 _) _)=>true
  | _=>false)
 | _=>false
def Nl (E:Env) (T:TypeId) (x y:AV) (dst:Option Nat) (s:St):OR:=.fail ""
def Eh (E:Env) (T:TypeId) (x y:AV) (dst:Option Nat) (s:St):OR:=.fail ""
def xW (E:Env) (T:TypeId) (x y:AV) (dst:Option Nat) (s:St):OR :=
 match E.rs.any Ty.HZ && Er s x with
 | true=>Eh E T x y dst s
 | false=>xA E T x y dst s
def AR (E:Env) (T:TypeId) (x y:AV) (dst:Option Nat) (s:St):OR :=
 match look T E.tt,dst,x,y with
 | some ⟨.d0 true t0,_⟩,some d,.raw (.slice none 0 0),.val (.int _) n =>
  (s.lay d [] (.d0 true t0) (List.replicate n.toNat t0.w5)).f8 (0<=n/\n<=140737488355328/\n*(t0.wb:Nat)<=140737488355328)
 | _,_,_,_=>.fail "append: zeros"
def AV.ND:AV->AV->Bool
 | .sub i _ _ _,.sub j _ _ _=>Nat.beq i j
 | _,_=>false
def Ty.key:Ty->Bool
 | .int _|.bool|.str=>true
 | .arr _ (.int _)=>true
 | _=>false
def AV.mp (s:St):AV->Option (Sigma λ q:Ty×Ty=>Option (List (q.1.den×q.2.den)))
 | .val (.map _ k v) m=>some ⟨(k,v),m⟩
 | .at_ i p=>match s.part i p with
  | some ⟨.map _ k v,m⟩=>some ⟨(k,v),m⟩
  | _=>none
 | _=>none
def Jp (E:Env) (T:TypeId) (x i:AV) (ok:Bool) (s:St):OR:=.fail ""
def GN (E:Env) (T:TypeId) (x i z:AV) (s:St):OR:=.fail ""
def zH (e:g9) (p:List Step) (r:Sigma Ty.den):Bool :=
 match e with
 | .var t _=>decide (r.1=t)
 | .own (.d0 true t) _=>decide (r.1=.d0 true t) && (match p with
  | []=>true
  | .idx _::_=>true
  | _=>false)
 | _=>false
def wB (s:St) (i:Nat) (p:List Step) (lo:Nat) (t:Ty) (m:List t.den):Option St :=
 match s.obj i with
 | some e=>(match j9 e.ty e.x p with
  | some ⟨.d0 true u,l⟩ =>
   if h:t=u then
    (match w7 e.ty e.x p (.d0 true u) (List.take lo l++R8 h m++List.drop (lo+m.length) l) with
    | some r=>(match t.shared && zH e p r with
     | true=>some ((s.vR i e.vQ).y9 i (e.F1 r))
     | false=>none)
    | none=>none)
   else none
  | _=>none)
 | none=>none
def AV.wW (s:St):AV->Option (Nat×List Step×Int×Int)
 | .at_ i p=>match s.part i p with
  | some ⟨.d0 true _,l⟩=>some (i,p,0,(List.length l:Int))
  | _=>none
 | .sub i p lo hi=>match s.part i p with
  | some ⟨.d0 true _,_⟩=>some (i,p,lo,hi)
  | _=>none
 | _=>none
def AF (E:Env) (T:TypeId) (x y:AV) (s:St):OR :=
 match x.wW s,y.els s with
 | some (i,p,lo,hi),some ⟨t,m⟩=>(match wB s i p lo.toNat t (List.take (hi - lo).toNat m),K0 E T (.d0 true t) with
  | some s',true=>.ok (.val (.int .i64) ((List.take (hi - lo).toNat m).length:Int)) s'
  | _,_=>.fail "copy")
 | _,_=>.fail "copy: what"
def AI (E:Env) (T:TypeId) (x:AV) (s:St):OR :=
 match x.wW s,look T E.tt with
 | some (i,p,lo,hi),some ⟨.d0 _ t,_⟩=>(match wB s i p lo.toNat t (List.replicate (hi - lo).toNat t.w5) with
  | some s'=>.ok (.raw (.tuple #[])) s'
  | none=>.fail "clear")
 | _,_=>.fail "clear: what"
def xB (E:Env) (T:TypeId) (x y:AV) (s:St):OR :=
 match x,look T E.tt with
 | .sub i [] lo hi,some ⟨.d0 _ t0,_⟩=>(match y.vJ s t0,s.obj i with
  | some (⟨t,m⟩,[]),some (.own (.d0 true u) l)=>(match wB s i [] hi.toNat t m,K0 E T (.d0 true t),decide (t=u) with
   | some s',true,true=>.H3 (hi+(List.length m:Int)<=(List.length l:Int)) (.sub i [] lo (hi+(List.length m:Int))) s'
   | _,_,_=>.fail "append: in place")
  | _,_=>.fail "append: in place")
 | _,_=>.fail "append: in place"
def bnd (s:St) (d:Int):Option Operand->Option Int
 | none=>some d
 | some x=>match s.ev x with
  | .val (.int _) n=>some n
  | _=>none
def yS (E:Env) (T:TypeId) (x:AV) (lo hi max:Option Operand) (s:St):OR :=
 match bnd s 0 lo with
 | none=>.fail "slice: low"
 | some a =>
 match x with
 | .val .str y=>(match bnd s (List.length y:Int) hi,max with
  | some b,none=>(match K0 E T .str with|true=>.H3 (0<=a/\a<=b/\b<=(List.length y:Int)) (.val .str (o6 a b y)) s|false=>.fail "slice: type")
  | _,_=>.fail "slice: bounds")
 | .val (.d0 false t) y=>(match bnd s (List.length y:Int) hi,max with
  | some b,none=>(match K0 E T (.d0 false t) with|true=>.H3 (0<=a/\a<=b/\b<=(List.length y:Int)) (.val (.d0 false t) (o6 a b y)) s|false=>.fail "slice: type")
  | some b,some _=>(match K0 E T (.d0 false t) && hi.isSome,bnd s 0 max with
   | true,some c=>.H3 (a=0/\b=0/\c=0) (.val (.d0 true t) ([]:List t.den)) s
   | _,_=>.fail "slice: type")
  | _,_=>.fail "slice: bounds")
 | .val (.D4 t) y=>(match bnd s (List.length y.2.1:Int) hi,max with
  | some b,none=>(match K0 E T (.d0 false t) with|true=>.H3 (y.1=3/\0<=a/\a<=b/\b<=(List.length y.2.1+List.length y.2.2:Nat)) (.val (.d0 false t) (o6 a b (y.2.1++y.2.2))) s|false=>.fail "slice: type")
  | _,_=>.fail "slice: bounds")
 | .raw (.slice none 0 0)=>(match bnd s 0 hi,max,look T E.tt with
  | some b,none,some ⟨.d0 _ _,_⟩=>.H3 (a=0/\b=0) (.raw (.slice none 0 0)) s
  | _,_,_=>.fail "slice: nil")
 | .at_ i p=>(match s.part i p with
  | some ⟨.d0 true t,y⟩=>(match bnd s (List.length y:Int) hi,max with
   | some b,none=>(match K0 E T (.d0 true t) with|true=>.H3 (0<=a/\a<=b/\b<=(List.length y:Int)) (.sub i p a b) s|false=>.fail "slice: type")
   | some b,some _=>(match K0 E T (.d0 true t) && hi.isSome,bnd s 0 max with
    | true,some c=>(match lo.isSome with
     | false=>.H3 (a=0/\b=0/\c=0) (.val (.d0 true t) ([]:List t.den)) s
     | true=>.H3 (0<=a/\a<=b/\b<=c/\c<=(List.length y:Int)) .any s)
    | _,_=>.fail "slice: type")
   | _,_=>.fail "slice: bounds")
  | _=>.fail "slice: of what")
 | .sub i p a0 b0=>(match s.part i p with
  | some ⟨.d0 true t,y⟩=>(match bnd s (b0 - a0) hi,max with
   | some b,none=>(match K0 E T (.d0 true t) with|true=>.H3 (0<=a/\a<=b/\a0+b<=(List.length y:Int)) (.sub i p (a0+a) (a0+b)) s|false=>.fail "slice: type")
   | _,_=>.fail "slice: bounds")
  | some ⟨.arr _ t,_⟩=>(match bnd s (b0 - a0) hi,max with
   | some b,none=>(match K0 E T (.d0 true t) with|true=>.H3 (0<=a/\a<=b/\b<=b0 - a0) (.sub i p (a0+a) (a0+b)) s|false=>.fail "slice: type")
   | _,_=>.fail "slice: bounds")
  | _=>.fail "slice: view")
 | .ptr i p=>(match s.part i p with
  | some ⟨.arr n t,_⟩=>(match bnd s (n:Int) hi,max with
   | some b,none=>(match Na E T (.arr n t) && Nat.ble n 1000000 with|true=>.H3 (0<=a/\a<=b/\b<=(n:Int)) (.sub i p a b) s|false=>.fail "slice: type")
   | _,_=>.fail "slice: bounds")
  | _=>.fail "slice: of what")
 | _=>.fail "slice"
where
 Na (E:Env) (T:TypeId) (u:Ty):Bool :=
  match E.P.underlying T with
  | some (.pointer A)=>K0 E A u
  | some (.array _ _)=>K0 E T u
  | _=>false
def foldI (s:St) (k:IntKind) (f:Int->Int->Int):Int->List Operand->OR
 | a,[]=>.ok (.val (.int k) a) s
 | a,x::l=>match s.ev x with
  | .val (.int k') b=>if k=k' then foldI s k f (f a b) l else .fail "max"
  | _=>.fail "max"
def n6 (E:Env) (o:Oper) (s:St):OR :=
 match o.op with
 | .move x=>.ok (s.ev x) s
 | .assign x=>.ok (s.ev x) s
 | .alloc T=>match look T E.tt,o.dst with
  | some t,some d=>(match s.fresh d with
   | true=>.ok (.ptr d []) (s.y9 d (.var t.ty t.ty.w5))
   | false=>.fail "alloc: name")
  | _,_=>.fail "alloc"
 | .box T x=>match look T E.tt,o.dst with
  | some t,some d=>(match s.fresh d with
   | true=>(match (s.ev x).wi s with
    | some (⟨u,y⟩,g)=>if u.U3.sh=t.ty.U3.sh then (match xp g && !g.contains d && g.all λ i=>!pinned i with
     | true=>.ok (.ptr d []) ((St.B9 g s).y9 d (.var u y))
     | false=>.fail "box: objects") else .fail "box: value"
    | none=>(match s.ev x,t.ty with
     | .raw (.slice none 0 0),.d0 o u=>.ok (.ptr d []) (s.y9 d (.var (.d0 o u) ([]:List u.den)))
     | .ptr i p,.box _ none _=>.ok (.bx (.ptr i p)) s
     | _,_=>.fail "box: what"))
   | false=>.fail "box: name")
  | _,_=>.fail "box"
 | .build T parts=>match look T E.tt with
  | some t=>(match t.ty.agg && parts.toList.all (λ q=>xt t.ty q.1) with
   | true=>(match V0 s ⟨t.ty,t.ty.w5⟩ parts.toList,o.dst with
    | some (⟨u,y⟩,[]),_=>.ok (.val u y) s
    | some (⟨u,y⟩,g),some d=>s.lay d g u y
    | _,_=>.fail "build: parts")
   | false=>.fail "build: index")
  | none=>.fail "build"
 | .buildSlice T n parts=>match look T E.tt,o.dst with
  | some ⟨.d0 true t,_⟩,some d=>(match s.fresh d && parts.toList.all (λ q=>Nat.blt q.1 n) && Nat.ble (n*t.size) 16777216 with
   | true=>(match Ap s n t parts.toList with
    | some (⟨.arr _ t',l⟩,g)=>s.lay d g (.d0 true t') l
    | _=>.fail "buildSlice: parts")
   | false=>.fail "buildSlice: name")
  | _,_=>.fail "buildSlice"
 | .load T a=>vN E T (s.ev a) s
 | .store T a x=>match s.ev a with
  | .ptr i p=>S5 E T i p (s.ev x) s
  | _=>.fail "store"
 | .nilCheck x=>match s.ev x with
  | .ptr i p=>.ok (.ptr i p) s
  | .N1 t y=>.ok (.N1 t y) s
  | .val (.box false none t) y=>.H3 ((y:Option t.den).isSome=true) (.N1 t (Option.getD (y:Option t.den) t.w5)) s
  | .val (.box false (some f) t) y=>.H3 ((y:Option t.den).isSome=true) (.val (.box false (some f) t) y) s
  | .D9 f l=>.ok (.D9 f l) s
  | .val (.fn f) b=>.H3 ((b:Bool)=true) (.val (.fn f) b) s
  | _=>.fail "nilCheck"
 | .fieldAddr T x n=>match s.ev x with
  | .ptr i p=>(match s.part i p with
   | some ⟨u,z⟩=>(match K0 E T u,j9 u z [.m0 n] with
    | true,some _=>.ok (.ptr i (p++[.m0 n])) s
    | _,_=>.fail "fieldAddr: type")
   | none=>.fail "fieldAddr: path")
  | .N1 t y=>match K0 E T t,j9 t y [.m0 n] with
   | true,some ⟨u,z⟩=>.ok (.N1 u z) s
   | _,_=>.fail "fieldAddr"
  | .val (.box false none t) y=>match K0 E T t,j9 t (Option.getD (y:Option t.den) t.w5) [.m0 n] with
   | true,some ⟨u,z⟩=>.H3 ((y:Option t.den).isSome=true) (.N1 u z) s
   | _,_=>.fail "fieldAddr"
  | _=>.fail "fieldAddr"
 | .indexAddr T x i=>match s.ev x,s.ev i with
  | .ptr d p,.val (.int _) n=>(match s.part d p with
   | some ⟨.arr m u,_⟩=>(match K0 E T (.arr m u) with
    | true=>.H3 (0<=n/\n<m) (.ptr d (p++[.idx n])) s
    | false=>.fail "indexAddr: type")
   | _=>.fail "indexAddr: type")
  | .N1 (.arr m t) y,.val (.int _) n=>(match K0 E T (.arr m t) with
   | true=>.H3 (0<=n/\n<m) (.N1 t (List.getD y (Int.toNat n) t.w5)) s
   | false=>.fail "indexAddr: type")
  | .val (.d0 false t) y,.val (.int _) n=>(match K0 E T (.d0 false t) with
   | true=>.H3 (0<=n/\n<List.length y) (.N1 t (List.getD y (Int.toNat n) t.w5)) s
   | false=>.fail "indexAddr: type")
  | .at_ d p,.val (.int _) n=>(match s.part d p with
   | some ⟨.d0 true u,z⟩=>(match K0 E T (.d0 true u) with
    | true=>.H3 (0<=n/\n<List.length z) (.ptr d (p++[.idx n])) s
    | false=>.fail "indexAddr: type")
   | _=>.fail "indexAddr: type")
  | .sub d p lo hi,.val (.int _) n=>(match s.view d p lo hi with
   | some ⟨u,_⟩=>(match K0 E T (.d0 true u) with
    | true=>.H3 (0<=n/\n<hi - lo) (.ptr d (p++[.idx (lo+n)])) s
    | false=>.fail "indexAddr: type")
   | none=>.fail "indexAddr: view")
  | _,_=>.fail "indexAddr"
 | .field T x n=>match s.ev x with
  | .val t y=>(match K0 E T t,j9 t y [.m0 n] with
   | true,some ⟨u,z⟩=>.ok (.val u z) s
   | _,_=>.fail "field")
  | .at_ i p=>(match s.part i p with
   | some ⟨t,y⟩=>(match K0 E T t,j9 t y [.m0 n] with
    | true,some ⟨u,z⟩=>(match u.shared with|true=>.ok (.val u z) s|false=>.ok (.at_ i (p++[.m0 n])) s)
    | _,_=>.fail "field")
   | none=>.fail "field: part")
  | _=>.fail "field"
 | .index T x i=>match s.ev x,s.ev i with
  | .val .str y,.val (.int _) n=>(match K0 E T .str with
   | true=>.H3 (0<=n/\n<List.length y) (.val (.int .u8) ((List.getD y (Int.toNat n) 0).toNat:Int)) s
   | false=>.fail "index: type")
  | .val (.arr m t) y,.val (.int _) n=>(match K0 E T (.arr m t) with
   | true=>.H3 (0<=n/\n<m) (.val t (List.getD y (Int.toNat n) t.w5)) s
   | false=>.fail "index: type")
  | .at_ i p,.val (.int _) n=>(match s.part i p with
   | some ⟨.arr m t,y⟩=>(match K0 E T (.arr m t) with
    | true=>(match t.shared with
     | true=>.H3 (0<=n/\n<m) (.val t (List.getD y (Int.toNat n) t.w5)) s
     | false=>.H3 (0<=n/\n<m) (.at_ i (p++[.idx n])) s)
    | false=>.fail "index: type")
   | _=>.fail "index: of what")
  | _,_=>.fail "index"
 | .binOp op T x y _=>xm E T op (s.ev x) (s.ev y) s
 | .unOp op _ x=>unA op (s.ev x) s
 | .convert T' T x=>match s.ev x,look T' E.tt,look T E.tt with
  | .val (.int _) n,some ⟨.int _,_⟩,some ⟨.int k,_⟩=>.ok (.val (.int k) (k.wrap n)) s
  | .val .str y,some ⟨.str,_⟩,some ⟨.d0 true (.int .u8),_⟩=>(match o.dst with
   | some d=>s.lay d [] (.d0 true (.int .u8)) (List.map (λ b:UInt8=>(b.toNat:Int)) y:List Int)
   | none=>.fail "convert")
  | v,some ⟨.d0 true (.int .u8),_⟩,some ⟨.str,_⟩=>(match v.els s with
   | some ⟨.int .u8,l⟩=>.ok (.val .str (List.map (λ n:Int=>UInt8.ofNat n.toNat) l)) s
   | _=>match v with
    | .raw (.slice none 0 0)=>.ok (.val .str []) s
    | _=>.fail "convert: bytes")
  | _,_,_=>.fail "convert"
 | .extract x i=>match s.ev x with
  | .M9 l=>match nth i l with
   | some v=>.ok v s
   | none=>.fail "extract"
  | _=>.fail "extract"
 | .makeSlice T x y=>match E.rs.any Ty.HZ with
  | true=>Nl E T (s.ev x) (s.ev y) o.dst s
  | false=>match look T E.tt,o.dst,s.ev x,s.ev y with
  | some ⟨.d0 true t,_⟩,some d,.val (.int _) n,.val (.int _) m=>(s.lay d [] (.d0 true t) (List.replicate n.toNat t.w5)).f8 (0<=n/\n<=m/\m<=140737488355328/\m*(t.wb:Nat)<=140737488355328)
  | _,_,_,_=>.fail "makeSlice"
 | .slice T x lo hi max=>yS E T (s.ev x) lo hi max s
 | .makeMap _ _=>.fail ""
 | .lookup T x i ok=>Jp E T (s.ev x) (s.ev i) ok s
 | .mapUpdate T m i x=>GN E T (s.ev m) (s.ev i) (s.ev x) s
 | .makeFunc (.func f) first caps=>match first.toList with
  | []=>.ok (.D9 f (s.M2 caps.toList)) s
  | _=>.fail "makeFunc"
 | .call c=>match c.callee with
  | .value f=>match s.ev f with
   | .D9 f caps=>U7 E f ((s.M2 c.args.toList).app caps) o.dst s
   | .val (.fn f) b=>(U7 E f ((s.M2 c.args.toList).app .nil) o.dst s).yF ((b:Bool)=true)
   | .val (.box false (some f) t) y=>(U7 E f ((s.M2 c.args.toList).app (.cons (.N1 t (Option.getD (y:Option t.den) t.w5)) .nil)) o.dst s).yF ((y:Option t.den).isSome=true)
   | _=>.fail "call of what"
  | .builtin .len=>match c.args.toList,c.argTypes.toList with
   | [x],[T]=>(match s.ev x with
    | .val (.d0 q u) y=>(match K0 E T (.d0 q u) with|true=>.ok (.val (.int .i64) (List.length y:Int)) s|false=>.fail "len")
    | .val (.D4 u) y=>(match K0 E T (.d0 false u) with|true=>.ok (.val (.int .i64) (List.length y.2.1:Int)) s|false=>.fail "len")
    | .val .str y=>(match K0 E T .str with|true=>.ok (.val (.int .i64) (List.length y:Int)) s|false=>.fail "len")
    | .val (.arr n u) _=>(match K0 E T (.arr n u) with|true=>(if (n:Int)<=9223372036854775807 then .ok (.val (.int .i64) (n:Int)) s else .fail "len")|false=>.fail "len")
    | .at_ d p=>(match s.part d p with
     | some ⟨.d0 q u,z⟩=>(match K0 E T (.d0 q u) with|true=>.ok (.val (.int .i64) (List.length z:Int)) s|false=>.fail "len")
     | some ⟨.D4 u,z⟩=>(match K0 E T (.d0 false u) with|true=>.ok (.val (.int .i64) (List.length z.2.1:Int)) s|false=>.fail "len")
     | some ⟨.map true k u,z⟩=>(match K0 E T (.map true k u) with|true=>.H3 ((List.length (Option.getD (z:Option (List (k.den×u.den))) []):Int)<=9223372036854775807) (.val (.int .i64) (List.length (Option.getD (z:Option (List (k.den×u.den))) []):Int)) s|false=>.fail "len")
     | _=>.fail "len")
    | .sub d p lo hi=>(match s.view d p lo hi with
     | some ⟨u,_⟩=>(match K0 E T (.d0 true u) with|true=>.ok (.val (.int .i64) (hi - lo)) s|false=>.fail "len")
     | none=>.fail "len")
    | .raw (.slice none 0 0)=>(match look T E.tt with|some ⟨.d0 _ _,_⟩=>.ok (.val (.int .i64) 0) s|_=>.fail "len")
    | _=>.fail "len")
   | _,_=>.fail "len"
  | .builtin .cap=>match c.args.toList,c.argTypes.toList with
   | [x],[T]=>(match s.ev x,look T E.tt with
    | .raw (.slice none 0 0),some ⟨.d0 _ _,_⟩=>.ok (.val (.int .i64) 0) s
    | _,_=>.fail "cap")
   | _,_=>.fail "cap"
  | .builtin .append=>match c.args.toList,c.argTypes.toList with
   | [x,y],[T,U]=>(match look U E.tt with
    | some ⟨.d0 _ _,_⟩=>(match (s.ev x).ND (s.ev y) with
     | true=>xB E T (s.ev x) (s.ev y) s
     | false=>xW E T (s.ev x) (s.ev y) o.dst s)
    | some ⟨.str,_⟩=>xA E T (s.ev x) (s.ev y) o.dst s
    | some ⟨.int _,_⟩=>AR E T (s.ev x) (s.ev y) o.dst s
    | _=>.fail "append: of what type")
   | _,_=>.fail "append"
  | .builtin .max=>match c.args.toList with
   | x::l=>(match s.ev x with
    | .val (.int k) a=>foldI s k (λ a b=>if a<b then b else a) a l
    | _=>.fail "max")
   | _=>.fail "max"
  | .builtin .min=>match c.args.toList with
   | x::l=>(match s.ev x with
    | .val (.int k) a=>foldI s k (λ a b=>if b<a then b else a) a l
    | _=>.fail "min")
   | _=>.fail "min"
  | .builtin .copy=>match c.args.toList,c.argTypes.toList with
   | [x,y],[T,_]=>AF E T (s.ev x) (s.ev y) s
   | _,_=>.fail "copy"
  | .builtin .clear=>match c.args.toList,c.argTypes.toList with
   | [x],[T]=>AI E T (s.ev x) s
   | _,_=>.fail "clear"
  | _=>.fail "builtin"
 | _=>.fail "op"
where nth:Nat->AV->Option AV
 | 0,.cons a _=>some a
 | n+1,.cons _ b=>nth n b
 | _,_=>none
def Ba (ops:Array Oper) (j:Nat):Option Nat:=(ops[j]?).bind (·.dst)
def I5 (n:Nat):Option Nat->Bool
 | some d=>Nat.blt d n
 | none=>true
def zI (E:Env) (o:Oper) (s:St) (k:St->Tree (E.rs++F9 E.ps)):Tree (E.rs++F9 E.ps) :=
 match I5 E.nt o.dst with
 | false=>.stuck "slot"
 | true =>
 match o.op with
 | .pick c a b=>match s.ev c with
  | .val .bool g=>cond g (k (s.put o.dst (s.ev a))) (k (s.put o.dst (s.ev b)))
  | _=>.stuck "pick"
 | _=>match n6 E o s with
  | .fail why=>.stuck why
  | .ok v s'=>k (s'.put o.dst v)
  | .H3 p v s'=>.f8 p (k (s'.put o.dst v))
def yR (E:Env) (ops:Array Oper) (o:Oper) (s:St) (k:St->Tree (E.rs++F9 E.ps)):Tree (E.rs++F9 E.ps) :=
 match o.guard with
 | none=>zI E o s k
 | some (j,want)=>match Ba ops j with
  | none=>.stuck "guard"
  | some g=>match s.ev (.tmp g) with
   | .raw (.tuple _)=>match I5 E.nt o.dst with
    | true=>k (s.put o.dst (.raw undef))
    | false=>.stuck "slot"
   | .val .bool b=>match I5 E.nt o.dst with
    | false=>.stuck "slot"
    | true=>cond b
     (match want with
      | true=>zI E o (s.put (some g) (.val .bool true)) k
      | false=>k ((s.put (some g) (.val .bool true)).put o.dst (.raw undef)))
     (match want with
      | false=>zI E o (s.put (some g) (.val .bool false)) k
      | true=>k ((s.put (some g) (.val .bool false)).put o.dst (.raw undef)))
   | _=>.stuck "guard value"
def brA (E:Env) (s:St) (o:Oper):Option (Prop×AV×AV) :=
 match o.op with
 | .binOp op T x y _=>match op with
  | .eql=>(match s.ev y,look T E.tt with
   | .raw (.slice none 0 0),some ⟨.d0 _ _,_⟩=>(match (s.ev x).els s with
    | some r=>some (r.2=[],.val .bool true,.val .bool false)
    | none=>none)
   | _,_=>none)
  | .neq=>(match s.ev y,look T E.tt with
   | .raw (.slice none 0 0),some ⟨.d0 _ _,_⟩=>(match (s.ev x).els s with
    | some r=>some (r.2=[],.val .bool false,.val .bool true)
    | none=>none)
   | _,_=>none)
  | _=>none
 | _=>none
def AO:Op->Bool
 | .fieldAddr _ _ _=>true
 | .indexAddr _ _ _=>true
 | .nilCheck _=>true
 | _=>false
def Cm (o:Oper):List Nat:=o.op.operands.toList.filterMap λ|.tmp t=>some t|_=>none
def Az (e:g9) (p:List Step) (r:Sigma Ty.den):Bool :=
 match e with
 | .var t _=>decide (r.1=t)
 | .own (.d0 true t) _=>(match p with
  | .idx _::_=>decide (r.1=.d0 true t)
  | _=>false)
 | _=>false
def yG (E:Env) (T U T2:TypeId) (x y ad:AV) (d:Nat) (s:St):Option (Prop×St) :=
 match x,ad,look T E.tt,look U E.tt with
 | .at_ i p,.ptr j q,some ⟨.d0 _ t0,_⟩,some ⟨u1,_⟩=>(match s.obj i,Nat.beq i j && (match u1 with|.d0 _ _=>true|.str=>true|_=>false) with
  | some e,true=>(match j9 e.ty e.x p with
   | some ⟨.d0 true u,l⟩=>(match y.vJ s t0 with
    | some (⟨t,m⟩,g) =>
     if hu:u=t0 then
      if ht:t=t0 then
       (match w7 e.ty e.x p (.d0 true t0) (R8 hu l++R8 ht m) with
        | some r=>(match K0 E T2 (.d0 true t0) && Az e p r && !g.contains i && xp g && g.all (λ i=>!pinned i) with
         | true=>some (q=p/\(l.length+m.length:Nat)<=140737488355328/\(l.length+m.length:Nat)*(t0.wb:Nat)<=140737488355328,
          ((St.B9 g (s.put (some d) .any)).kill i e.kd p).y9 i (e.F1 r))
         | false=>none)
        | none=>none)
      else none
     else none
    | none=>none)
   | _=>none)
  | _,_=>none)
 | _,_,_,_=>none
def EK (E:Env) (T U:TypeId) (x y:Operand) (d:Nat):List Oper->St->Option (Prop×St×Nat)
 | [],_=>none
 | o::rest,s=>match o.guard,I5 E.nt o.dst with
  | none,true=>(match AO o.op with
   | true=>(match o.dst with
    | some d1=>(match !Nat.beq d1 d && !(Cm o).contains d && (match x with|.tmp t=>!Nat.beq t d1|_=>true) && (match y with|.tmp t=>!Nat.beq t d1|_=>true),(match n6 E o s with|.fail _=>none|.ok v _=>some (True,v)|.H3 p v _=>some (p,v)) with
     | true,some (p,v)=>(match EK E T U x y d rest (s.put (some d1) v) with
      | some (p2,s2,n)=>some (p/\p2,s2,n+1)
      | none=>none)
     | _,_=>none)
    | none=>none)
   | false=>(match o.op with
    | .store T2 ad (.tmp d')=>(match Nat.beq d' d && (match ad with|.tmp t=>!Nat.beq t d|_=>true) with
     | true=>(match yG E T U T2 (s.ev x) (s.ev y) (s.ev ad) d s with
      | some (p,s2)=>some (p,s2.put o.dst (.raw undef),1)
      | none=>none)
     | false=>none)
    | _=>none))
  | _,_=>none
def Ns (E:Env) (o:Oper) (rest:List Oper) (s:St):Option (Prop×St×Nat) :=
 match o.guard,o.dst,I5 E.nt o.dst,o.op with
 | none,some d,true,.call c=>(match c.callee,c.args.toList,c.argTypes.toList with
  | .builtin .append,[x,y],[T,U]=>(match s.ev x with
   | .at_ i p=>(match (AV.at_ i p).vF s with
    | some _=>none
    | none=>EK E T U x y d rest s)
   | _=>none)
  | _,_,_=>none)
 | _,_,_,_=>none
def BC (s:St) (ks:List PK) (i:Nat) (e:g9) (p:List Step) (t:Ty) (ys:List Operand):Option (DK ks×List Nat×List Nat) :=
 match (U7.loose ks (s.M2 ys)).contains i with
 | false=>AV.vH s ks (s.M2 ys)
 | true=>match e with
  | .var u x=>(match w7 u x p (.hole t) ([]:List t.den) with
   | some r=>AV.vH ((s.kill i (g9.var u x).kd p).y9 i (.var r.1 r.2)) ks (((s.kill i (g9.var u x).kd p).y9 i (.var r.1 r.2)).M2 ys)
   | none=>none)
  | _=>none
def HJ (E:Env) (T2:TypeId) (g:FuncId) (x:AV) (ys:List Operand) (ad:AV) (d:Nat) (s:St):Option (Prop×St) :=
 match look g E.E3,x,ad with
 | some ⟨.own (.d0 true t)::ks,[.d0 true t'],pre,fn,_,_⟩,.at_ i p,.ptr j q=>(match s.obj i,Nat.beq i j && (match F9 ks with|[]=>true|_=>false) && (Ty.d0 true t').L8 && K0 E T2 (.d0 true t) with
  | some e,true=>(match j9 e.ty e.x p,BC s ks i e p t ys with
   | some ⟨u,l⟩,some (y,[],[]) =>
    if h:u=.d0 true t then
     (match w7 e.ty e.x p (.d0 true t') (fn (Y1 h l,y)).1 with
     | some r=>(match K0 E T2 (.d0 true t') && Az e p r with
      | true=>some (q=p/\pre (Y1 h l,y),((s.put (some d) .any).vR i e.vQ).y9 i (e.F1 r))
      | false=>none)
     | none=>none)
    else none
   | _,_=>none)
  | _,_=>none)
 | _,_,_=>none
def ET (E:Env) (g:FuncId) (x:Operand) (ys:List Operand) (d:Nat):List Oper->St->Option (Prop×St×Nat)
 | [],_=>none
 | o::rest,s=>match o.guard,I5 E.nt o.dst with
  | none,true=>(match AO o.op with
   | true=>(match o.dst with
    | some d1=>(match !Nat.beq d1 d && !(Cm o).contains d && (x::ys).all (λ z=>match z with|.tmp t=>!Nat.beq t d1|_=>true),(match n6 E o s with|.fail _=>none|.ok v _=>some (True,v)|.H3 p v _=>some (p,v)) with
     | true,some (p,v)=>(match ET E g x ys d rest (s.put (some d1) v) with
      | some (p2,s2,n)=>some (p/\p2,s2,n+1)
      | none=>none)
     | _,_=>none)
    | none=>none)
   | false=>(match o.op with
    | .store T2 ad (.tmp d')=>(match Nat.beq d' d && (match ad with|.tmp t=>!Nat.beq t d|_=>true) with
     | true=>(match HJ E T2 g (s.ev x) ys (s.ev ad) d s with
      | some (p,s2)=>some (p,s2.put o.dst (.raw undef),1)
      | none=>none)
     | false=>none)
    | _=>none))
  | _,_=>none
def Nt (E:Env) (o:Oper) (rest:List Oper) (s:St):Option (Prop×St×Nat) :=
 match o.guard,o.dst,I5 E.nt o.dst,o.op with
 | none,some d,true,.call c=>(match c.callee,c.args.toList with
  | .value (.func g),x::ys=>(match s.ev x with
   | .at_ i p=>(match (AV.at_ i p).vF s with
    | some _=>none
    | none=>ET E g x ys d rest s)
   | _=>none)
  | _,_=>none)
 | _,_,_,_=>none
def HI (_E:Env) (_o:Oper) (_s:St):Option (Prop×St):=none
def PK.l6:PK->Bool
 | .own _|.rw _|.mu _=>true
 | _=>false
def pm:List (Option Nat)->List Step->Bool
 | [],[]=>true
 | some n::q,.m0 m::p=>Nat.beq n m && pm q p
 | none::q,.idx _::p=>pm q p
 | _,_=>false
def HL (_E:Env) (_o:Oper) (_s:St):Option (Prop×St):=none
def we:Ty->Ty->Bool
 | .pair a b,.pair c d=>we a c && we b d
 | .arr n a,.arr m b=>Nat.beq n m && we a b
 | .d0 true a,.d0 true b=>we a b
 | .d0 _ a,.D4 b=>decide (a=b)
 | a,b=>decide (a=b)
def msV:(u t:Ty)->u.den->t.den
 | .pair a b,.pair c d,y=>(msV a c y.1,msV b d y.2)
 | .arr n a,.arr _ b,y=>if h:a=b then h▸y else List.map (msV a b) y
 | .d0 true a,.d0 true b,y=>if h:a=b then h▸y else List.map (msV a b) y
 | .d0 true a,.D4 b,y=>if h:a=b then (1,h▸y,[]) else (1,[],[])
 | .d0 false a,.D4 b,y=>if h:a=b then (0,h▸y,[]) else (0,[],[])
 | a,b,y=>if h:a=b then h▸y else b.w5
def zC:(u t:Ty)->u.den->Option t.den
 | .pair a b,.pair c d,y=>(match zC a c y.1,zC b d y.2 with
  | some x1,some x2=>some (x1,x2)
  | _,_=>none)
 | u,t,y=>if h:u=t then some (Y1 h y) else if h:u.sh=t then (match u.X1 with
  | true=>some (cast ((G0 u).symm.trans (congrArg Ty.den h)) y)
  | false=>none) else (match we u t with
  | true=>some (msV u t y)
  | false=>none)
def AV.Nu (i:Nat) (v:AV):AV :=
 match v.i8 i with
 | false=>v
 | true=>match v with
  | .ptr j []=>.ptr j []
  | _=>.any
def St.yi (i:Nat) (s:St):St:={ s with fr:=mapA (AV.map (AV.Nu i)) s.fr }
def AV.Ng (s:St) (i:Nat) (t:Ty) (v:AV):AV :=
 match v.i8 i with
 | false=>v
 | true=>match v.asV s t with
  | some x=>.val t x
  | none=>(match v with
   | .ptr j p=>(match s.wa t j p with
    | some x=>.N1 t x
    | none=>.any)
   | _=>.any)
def St.xn (i:Nat) (t:Ty) (s:St):St:={ fr:=mapA (AV.map (AV.Ng s i t)) s.fr,hp:=del i s.hp }
def Fp (s:St):List AV->Option (Nat×Ty)
 | []=>none
 | .sub i [] _ _::l=>(match s.obj i,l.any (·.i8 i),pinned i with
  | some (.own (.d0 true u) _),true,false=>some (i,.d0 false u.sh)
  | _,_,_=>Fp s l)
 | .at_ i []::l=>(match s.obj i,l.any (·.i8 i),pinned i with
  | some (.own (.d0 true u) _),true,false=>some (i,.d0 false u.sh)
  | _,_,_=>Fp s l)
 | _::l=>Fp s l
def Wj:AV->Bool
 | .val (.d0 false _) _=>true
 | _=>false
def Ku (s:St):List AV->Option (Nat×Ty)
 | []=>none
 | .at_ i []::l=>(match s.obj i,pinned i with
  | some (.own (.d0 true u) _),false=>some (i,.d0 false u.sh)
  | _,_=>Ku s l)
 | _::l=>Ku s l
def XT (s:St) (l:List AV):Option (Nat×Ty) :=
 match Fp s l,l.any Wj with
 | some r,_=>some r
 | none,true=>Ku s l
 | none,false=>none
def St.ya:List Nat->St->St
 | [],s=>s
 | i::l,s=>(match s.obj i,pinned i with
  | some (.own (.d0 true u) _),false=>St.ya l (s.xn i (.d0 false u.sh))
  | _,_=>St.ya l s)
def Bw (E:Env) (o:Oper) (s:St):Option St :=
 match E.ps.any PK.l6,o.op with
 | false,.call c=>(match c.callee,c.args.toList with
  | .value (.func g),x::_=>(match look g E.E3,s.ev x with
   | some ⟨.rw t::_,_,_,_,_,_⟩,.ptr i []=>(match s.obj i with
    | some (.var u y)=>(match decide (u=t) with
     | true=>none
     | false=>(match zC u t y with
      | some z=>some ((s.yi i).y9 i (.var t z))
      | none=>none))
    | _=>none)
   | some ⟨.rd t::_,rs,_,_,_,nw⟩,.ptr i []=>(match rs.all Ty.L8 || nw,pinned i,s.wa t i [] with
    | false,false,some _=>some (s.xn i t)
    | _,_,_=>none)
   | some ⟨ps,rs,_,_,_,nw⟩,_=>(match rs.all Ty.L8 || nw with
    | true=>none
    | false=>some (s.ya (U7.loose ps (s.M2 c.args.toList))))
   | _,_=>none)
  | _,_=>none)
 | false,.buildSlice _ _ parts=>(match XT s (parts.toList.map λ q=>s.ev q.2) with
  | some (i,t)=>(match pinned i with
   | false=>some (s.xn i t)
   | true=>none)
  | none=>none)
 | _,_=>none
def PK.vQ:PK->Bool
 | .own _=>true
 | _=>false
def Es (E:Env) (o:Oper) (s:St):Option St :=
 match o.op with
 | .call c=>(match c.callee,c.args.toList with
  | .value (.func g),.tmp tx::_=>(match look g E.E3,look tx s.fr with
   | some ⟨.own (.d0 true t)::ks,rs,_,_,_,_⟩,some (.at_ i (st::p))=>(match s.obj i with
    | some (.var u y)=>(match j9 u y (st::p),w7 u y (st::p) (.hole t) ([]:List t.den) with
     | some ⟨v,l⟩,some r =>
      if h:v=.d0 true t then
       (match (ks.any PK.vQ || rs.isEmpty) && ((s.kill i (g9.var u y).kd (st::p)).y9 i (.var r.1 r.2)).fresh (1600000+tx) with
       | true=>some { ((s.kill i (g9.var u y).kd (st::p)).y9 i (.var r.1 r.2)).y9 (1600000+tx) (.own (.d0 true t) (Y1 h l)) with fr:=Ex.put tx (.at_ (1600000+tx) []) ((s.kill i (g9.var u y).kd (st::p)).y9 i (.var r.1 r.2)).fr }
       | false=>none)
      else none
     | _,_=>none)
    | _=>none)
   | _,_=>none)
  | _,_=>none)
 | _=>none
def DQ (E:Env) (o:Oper) (s:St):St :=
 match o.op with
 | .call c=>(match c.callee,c.args.toList with
  | .value (.func g),x::_=>(match look g E.E3,s.ev x with
   | some ⟨.mu _::_,_,_,_,_,_⟩,.at_ i []=>(match s.obj i with
    | some (.own (.D4 t) z)=>(match Nat.ble 1 z.1 && Nat.ble z.1 2 with
     | true=>match t.shared with|false=>s|true=>{ fr:=mapA (AV.map λ v=>match v.i8 i with|false=>v|true=>match v with|.at_ j []=>.at_ j []|_=>.any) s.fr,hp:=Ex.put i (.own (.d0 true t) z.2.1) s.hp }
     | false=>s)
    | _=>s)
   | _,_=>s)
  | _,_=>s)
 | _=>s
def NB (E:Env) (o:Oper) (s:St):St:=(Es E o ((Bw E o s).getD s)).getD ((Bw E o s).getD s)
def DS (E:Env) (o:Oper) (s:St):St:=NB E o (DQ E o s)
def xa (E:Env) (ops:Array Oper):Nat->List Oper->St->(St->Tree (E.rs++F9 E.ps))->Tree (E.rs++F9 E.ps)
 | _,[],s,k=>k s
 | n+1,_::rest,s,k=>xa E ops n rest s k
 | 0,o::rest,s0,k=>let s:=DS E o s0
  match Ns E o rest s with
  | some (p,s',n)=>.f8 p (xa E ops n rest s' k)
  | none=>match Nt E o rest s with
  | some (p,s',n)=>.f8 p (xa E ops n rest s' k)
  | none=>match HI E o s with
  | some (p,s')=>.f8 p (xa E ops 0 rest s' k)
  | none=>match HL E o s with
  | some (p,s')=>.f8 p (xa E ops 0 rest s' k)
  | none=>match o.guard,I5 E.nt o.dst,brA E s o with
   | none,true,some (p,v1,v2)=>.both p (xa E ops 0 rest (s.put o.dst v1) k) (xa E ops 0 rest (s.put o.dst v2) k)
   | _,_,_=>yR E ops o s λ s'=>xa E ops 0 rest s' k
def OR.get:OR->Option (Prop×AV×St)
 | .fail _=>none
 | .ok v s=>some (True,v,s)
 | .H3 p v s=>some (p,v,s)
def Z1 (E:Env) (o:Oper) (s:St):Option (Prop×St) :=
 match I5 E.nt o.dst with
 | false=>none
 | true =>
 match o.op with
 | .pick c a b=>match s.ev c with
  | .val .bool g=>some (True,s.put o.dst (match g with|true=>s.ev a|false=>s.ev b))
  | _=>none
 | _=>match (n6 E o s).get with
  | none=>none
  | some (p,v,s')=>some (p,s'.put o.dst v)
def I8 (E:Env) (ops:Array Oper) (o:Oper) (s:St):Option (Prop×St) :=
 match o.guard with
 | none=>Z1 E o s
 | some (j,want)=>match Ba ops j with
  | none=>none
  | some g=>match s.ev (.tmp g) with
   | .raw (.tuple _)=>match I5 E.nt o.dst with
    | true=>some (True,s.put o.dst (.raw undef))
    | false=>none
   | .val .bool b=>match I5 E.nt o.dst with
    | false=>none
    | true=>match b == want with
     | true=>Z1 E o (s.put (some g) (.val .bool b))
     | false=>some (True,(s.put (some g) (.val .bool b)).put o.dst (.raw undef))
   | _=>none
def looks (ops:Array Oper) (o:Oper):List Nat :=
 (o.op.operands.toList.filterMap λ|.tmp t=>some t|_=>none) ++
 (match o.guard with
 | some (g,_)=>(Ba ops g).toList
 | none=>[])
def NQ (ops:Array Oper) (x y:Oper):Bool :=
 (match x.dst with
 | some d=>!(looks ops y).contains d && (match y.dst with|some e=>!(Nat.beq d e)|none=>true)
 | none=>true) &&
 (match y.dst with
 | some d=>!(looks ops x).contains d
 | none=>true)
def indep (ops:Array Oper) (x y:Oper):Bool:=NQ ops x y && !(Nat.beq ((x.dst.getD 0) % 1000) ((y.dst.getD 0) % 1000))
def l6 (E:Env) (o:Oper) (s:St):List Nat :=
 match o.op with
 | .store _ a x=>(s.ev a).I9++(s.ev x).I9
 | .box _ x=>(s.ev x).I9
 | .build _ parts=>(s.M2 (parts.toList.map (·.2))).I9
 | .buildSlice _ _ parts=>(s.M2 (parts.toList.map (·.2))).I9
 | .mapUpdate _ m _ _=>(s.ev m).I9
 | .call c=>(match c.callee with
  | .value f=>(match s.ev f with
   | .D9 g caps=>(match look g E.E3 with
    | some c'=>(match c'.ps.any PK.l6 with
     | false=>[]
     | true=>((s.M2 c.args.toList).app caps).I9)
    | none=>[])
   | .val (.fn g) _=>(match look g E.E3 with
    | some c'=>(match c'.ps.any PK.l6 with
     | false=>[]
     | true=>((s.M2 c.args.toList).app .nil).I9)
    | none=>[])
   | .val (.box false (some g) t) y=>(match look g E.E3 with
    | some c'=>(match c'.ps.any PK.l6 with
     | false=>[]
     | true=>((s.M2 c.args.toList).app (.cons (.N1 t (Option.getD (y:Option t.den) t.w5)) .nil)).I9)
    | none=>[])
   | _=>[])
  | .builtin .append=>(s.M2 c.args.toList).I9
  | .builtin .copy=>(s.M2 c.args.toList).I9
  | .builtin .clear=>(s.M2 c.args.toList).I9
  | _=>[])
 | _=>[]
structure Met where
 i:Nat
 o:Oper
 s:St
 T:List Nat
def M1 (o:Oper) (v:AV):AV :=
 match o.guard,o.op with
 | none,.extract _ j=>(match v with
  | .M9 l=>(match n6.nth j l with
   | some v=>.M9 (.cons v .nil)
   | none=>.any)
  | _=>.any)
 | _,_=>v
def BP (ops:Array Oper) (e:Met) (y:Oper) (Ty:List Nat):Bool :=
 (match e.T with
  | []=>true
  | T=>((looks ops y).all λ m=>T.all λ i=>!(M1 y (e.s.get m)).i8 i) && T.all λ i=>!(Nat.beq (i % 1000) ((y.dst.getD 0) % 1000))) &&
 (match Ty with
  | []=>true
  | T=>(looks ops e.o).all λ m=>T.all λ i=>!(M1 e.o (e.s.get m)).i8 i)
def E9:List Oper->List Nat->List Nat
 | [],acc=>acc
 | o::l,acc=>E9 l (acc++[o.after.toList.foldl (λ m e=>match Region.binds .any e with|true=>Nat.lor (Nat.lor m (2^e.on)) (acc.getD e.on 0)|false=>m) 0])
def Np (_:List Nat) (o:Oper) (_ i:Nat):Bool :=
 o.after.toList.all λ e=>!Region.binds .any e || Nat.blt e.on i
def NM (M:List Nat) (o:Oper) (m n:Nat):Bool :=
 (List.range n).all λ j=>!(m.testBit j) || o.after.toList.any λ e=>Region.binds .any e && (Nat.beq e.on j || (M.getD e.on 0).testBit j)
def xx (ops:Array Oper):Bool :=
 let M:=E9 ops.toList []
 let L:=ops.toList
 let n:=L.length
 (List.range n).all λ i=>match L[i]? with
  | none=>false
  | some o=>Np M o (M.getD i 0) i && NM M o (M.getD i 0) n &&
   (List.range i).all λ j=>match L[j]? with
    | none=>false
    | some x=>(M.getD i 0).testBit j || indep ops x o
def AV.clean:AV->Bool
 | .ptr _ _|.at_ _ _|.sub _ _ _ _=>false
 | .cons a b=>a.clean && b.clean
 | .M9 l|.D9 _ l|.bx l|.rc _ l=>l.clean
 | _=>true
def BI {α:Type _}:List (Nat×α)->Bool
 | []=>true
 | (n,_)::l=>(match l with
  | []=>true
  | (m,_)::_=>Nat.blt n m) && BI l
def Di:List Nat->Bool
 | []=>true
 | a::l=>!l.contains a && Di l
def wX (ops:List Oper):List Nat:=ops.filterMap (·.dst)
def Cv (ops:Array Oper) (s:St):Bool :=
 BI s.fr && Di (wX ops.toList) && (wX ops.toList.dropLast).all λ d=>(s.get d).clean
def zQ (ops:Array Oper) (j:Nat):Bool:=(List.range ops.size).all λ i=>!Nat.blt j i || ((E9 ops.toList []).getD i 0).testBit j
def Kr (ops:Array Oper) (s:St):Bool :=
 BI s.fr && Di (wX ops.toList) && (List.range ops.size).all λ j=>zQ ops j || (match ops[j]? with
  | some o=>(match o.dst with
   | some d=>(s.get d).clean
   | none=>true)
  | none=>true)
def S7:Code->Nat
 | .region id _ _=>id
 | .seq a _=>S7 a
 | .block _ c=>S7 c
 | .loop c=>S7 c
 | .cond _ a _=>S7 a
 | _=>0
structure wz where
 k:Nat
 x:Operand
 y:Operand
 T:TypeId
 U:TypeId
 d:Nat
def HH (E:Env) (o:Oper) (s:St) (i:Nat):Option wz :=
 match o.guard,o.dst,I5 E.nt o.dst,o.op with
 | none,some d,true,.call c=>(match c.callee,c.args.toList,c.argTypes.toList with
  | .builtin .append,[x,y],[T,U]=>(match s.ev x with
   | .at_ j p=>(match (AV.at_ j p).vF s with
    | some _=>none
    | none=>some ⟨i,x,y,T,U,d⟩)
   | _=>none)
  | _,_,_=>none)
 | _,_,_,_=>none
def Nh (o:Oper):Bool:=match o.guard,o.op with|none,.store _ _ _=>true|_,_=>false
def quiet (o:Oper):Bool :=
 o.guard.isNone && (match o.op with
  | .move _=>true
  | .load _ _=>true
  | .fieldAddr _ _ _=>true
  | .indexAddr _ _ _=>true
  | .nilCheck _=>true
  | .binOp .rem _ _ _ _=>true
  | _=>false)
def Ax (d:Option Nat) (L:List Nat):Bool :=
 match d with
 | some e=>!L.contains e
 | none=>true
def EO (ops:Array Oper) (M:List Nat) (k n:Nat):Bool :=
 Nat.beq (n+1) ops.size && Nat.blt k n && (match ops[k]? with
  | some ok=>(List.range n).all λ j=>(M.getD n 0).testBit j && (Nat.beq j k || (match ops[j]? with
   | some o=>Ax o.dst ok.dst.toList && ((M.getD k 0).testBit j || ((quiet o || Nh o) && Ax o.dst (looks ops ok)))
   | none=>false))
  | none=>false)
def zO (ops:Array Oper) (q:wz) (n j:Nat) (o:Oper) (s:St):Bool :=
 match o.op with
 | .store _ ad x=>(match s.ev ad,s.ev x with
  | .ptr j0 _,.val _ _=>!(s.ev q.x).i8 j0 && !(s.ev q.y).i8 j0
  | _,_=>false) && o.guard.isNone && o.dst.isNone && (List.range n).all λ j'=>Nat.ble j' j || (match ops[j']? with
   | some o'=>Ax o'.dst (looks ops o)
   | none=>true)
 | _=>false
def EM (ops:Array Oper) (M:List Nat) (q:wz) (n:Nat) (s:St):Bool :=
 (List.range n).all λ j=>Nat.beq j q.k || (match ops[j]? with
  | some o=>(M.getD q.k 0).testBit j || quiet o || zO ops q n j o s
  | none=>true)
def Ai (E:Env) (ops:Array Oper) (M:List Nat) (q:wz) (i:Nat) (o:Oper) (s:St):Option (Prop×St) :=
 match o.guard,o.op with
 | none,.store T2 ad (.tmp d')=>(match Nat.beq d' q.d && (match ad with|.tmp t=>!Nat.beq t q.d|_=>true) && EO ops M q.k i && EM ops M q i s && I5 E.nt o.dst with
  | true=>(match yG E q.T q.U T2 (s.ev q.x) (s.ev q.y) (s.ev ad) q.d s with
   | some (p,s2)=>some (p,s2.put o.dst (.raw undef))
   | none=>none)
  | false=>none)
 | _,_=>none
def Bt (E:Env) (ops:Array Oper) (M:List Nat) (q:wz):Nat->List Oper->St->List Met->(St->Tree (E.rs++F9 E.ps))->Tree (E.rs++F9 E.ps)
 | _,[],_,_,_=>.stuck "draw: pending"
 | i,[o],s,_,k=>(match Ai E ops M q i o s with
  | some (p,s2)=>.f8 p (k s2)
  | none=>.stuck "draw: append")
 | i,o::o2::rest,s,acc,k =>
  match acc.all λ e=>(M.getD i 0).testBit e.i || BP ops e o (l6 E o s) with
  | false=>.stuck "draw: objects"
  | true=>yR E ops o s λ s'=>Bt E ops M q (i+1) (o2::rest) s' (⟨i,o,s,l6 E o s⟩::acc) k
def DU (E:Env) (ops:Array Oper) (M:List Nat):Nat->List Oper->St->List Met->(St->Tree (E.rs++F9 E.ps))->Tree (E.rs++F9 E.ps)
 | _,[],s,_,k=>k s
 | i,o::rest,s,acc,k =>
  match HH E o s i with
  | some q=>Bt E ops M q (i+1) rest s acc k
  | none=>match acc.all λ e=>(M.getD i 0).testBit e.i || BP ops e o (l6 E o s) with
   | false=>.stuck "draw: objects"
   | true=>yR E ops o s λ s'=>DU E ops M (i+1) rest s' (⟨i,o,s,l6 E o s⟩::acc) k
def DV (E:Env) (ops:Array Oper) (M:List Nat):Nat->List Oper->St->List Met->(St->Tree (E.rs++F9 E.ps))->Tree (E.rs++F9 E.ps)
 | _,[],s,_,k=>k s
 | i,o::rest,s,acc,k =>
  match acc.all λ e=>(M.getD i 0).testBit e.i || BP ops e o (l6 E o s) with
  | false=>.stuck "draw: objects"
  | true=>yR E ops o s λ s'=>DV E ops M (i+1) rest s' (⟨i,o,s,l6 E o s⟩::acc) k
def Za (ops:Array Oper) (s:St) (t:Nat):Option Nat :=
 ops.toList.findSome? λ o=>match o.dst,o.op with
  | some d,.slice _ (.tmp a) _ _ _=>(match Nat.beq d t with
   | true=>ops.toList.findSome? λ o2=>(match o2.dst,o2.op with
    | some d2,.move (.tmp x)=>(match Nat.beq d2 a,look x s.fr with
     | true,some (.at_ i [])=>some i
     | _,_=>none)
    | _,_=>none)
   | false=>none)
  | _,_=>none
def Xw (ops:Array Oper) (s:St):Option Nat :=
 ops.toList.findSome? λ o=>match o.op with
  | .buildSlice _ _ parts=>(match parts.toList.filterMap λ q=>(match q.2 with|.tmp t=>Za ops s t|_=>none) with
   | i::j::_=>(match Nat.beq i j with|true=>some i|false=>none)
   | _=>none)
  | _=>none
def Nv (m i:Nat) (p:List Step) (s:St):St :=
 match s.obj i with
 | some (.var u y)=>(match j9 u y p with
  | some ⟨.D4 t0,z⟩=>(match t0.shared,w7 u y p (.D4 t0) ((0,z.2.1,[]):Nat×(List t0.den×List t0.den)) with
   | true,some r=>{ ((s.yi i).y9 i (.var r.1 r.2)) with fr:=Ex.put m (.val (.d0 false t0) z.2.1) ((s.yi i).y9 i (.var r.1 r.2)).fr }
   | _,_=>s)
  | _=>s)
 | _=>s
def GX (E:Env) (m:Nat) (t:Ty) (s:St):St :=
 match E.ps.any PK.l6,s.get m with
 | false,.ptr i []=>(match s.obj i with
  | some (.var u y)=>(match decide (u=t) with
   | true=>s
   | false=>(match zC u t y with
    | some z=>(s.yi i).y9 i (.var t z)
    | none=>s))
  | _=>s)
 | _,.at_ i p=>(match t with
  | .d0 false _=>Nv m i p s
  | _=>s)
 | _,.raw (.slice none 0 0)=>(match t with
  | .d0 false u=>{ s with fr:=Ex.put m (.val (.d0 false u) ([]:List u.den)) s.fr }
  | _=>s)
 | _,_=>s
def AK (E:Env):List (Nat×Option Ty)->St->St
 | [],s=>s
 | (m,some t)::l,s=>AK E l (GX E m t s)
 | (_,none)::l,s=>AK E l s
def WR (ops:Array Oper):Nat:=(ops.toList.findSome? λ o=>o.dst).getD 0
def DT (E:Env) (ops:Array Oper) (s:St):St :=
 match look (998000+WR ops) E.D5 with
 | some l=>AK E l s
 | none=>s
def HP (E:Env) (ops:Array Oper) (s:St):St :=
 match E.ps.any PK.l6,Xw ops s with
 | false,some i=>(match s.obj i,pinned i with
  | some (.own (.d0 true u) _),false=>s.xn i (.d0 false u.sh)
  | _,_=>s)
 | _,_=>s
def As (E:Env) (ops:Array Oper) (s:St):St:=HP E ops (DT E ops s)
def Ty.GR:Ty->Bool
 | .int _|.bool|.str|.unit=>true
 | .pair a b=>a.GR && b.GR
 | _=>false
def AT (o:Oper) (s:St):Bool :=
 match o.guard,o.op with
 | none,.store _ a x=>(match s.ev a,s.ev x with
  | .ptr _ _,.val t _=>t.GR
  | _,_=>false)
 | _,_=>false
def Vz (o:Oper):Bool :=
 match o.guard,o.op with
 | none,.indexAddr _ _ _=>true
 | none,.fieldAddr _ _ _=>true
 | _,_=>false
def Iy (o:Oper) (s:St):Bool :=
 match o.guard,o.op with
 | none,.indexAddr _ a i=>(match s.ev a,s.ev i with
  | .at_ _ _,.val (.int _) _=>true
  | _,_=>false)
 | none,.fieldAddr _ a _=>(match s.ev a with
  | .ptr _ _=>true
  | _=>false)
 | _,_=>false
def GL (o:Oper) (s:St):Option (Nat×(Bool×Ty)×List Step) :=
 match AT o s,o.op with
 | true,.store _ a _=>(match s.ev a with
  | .ptr j q=>(look j s.hp).map λ e=>(j,e.kd,q)
  | _=>none)
 | _,_=>none
def tyP:Ty->List Step->Option Ty
 | t,[]=>some t
 | .pair a _,.m0 0::p=>tyP a p
 | .pair _ b,.m0 (n+1)::p=>tyP b (.m0 n::p)
 | .arr _ t,.idx _::p=>tyP t p
 | .d0 true t,.idx _::p=>tyP t p
 | _,_=>none
def BM (j:Nat) (kd:Bool×Ty) (q:List Step) (v:AV):Bool :=
 match v with
 | .ptr i p=>!Nat.beq j i || kp q p
 | .at_ i p=>!Nat.beq j i || (match AV.BO j kd q (.at_ i p) with|.at_ _ _=>true|_=>false)
 | .val _ _=>true
 | _=>false
def hpk (s:St) (i:Nat):Option (Bool×Ty):=(look i s.hp).map g9.kd
def BN (o:Oper) (s:St) (j:Nat) (kd:Bool×Ty) (q:List Step):Bool :=
 match o.guard,o.op with
 | none,.move a=>BM j kd q (s.ev a)
 | none,.fieldAddr _ a n=>(match s.ev a with
  | .ptr i p=>BM j kd q (.ptr i p) && BM j kd q (.ptr i (p++[.m0 n]))
  | _=>false)
 | none,.load _ a=>(match s.ev a with
  | .ptr i p=>BM j kd q (.ptr i p) && BM j kd q (.at_ i p) && (match hpk s i with
   | some k=>(match tyP k.2 p with
    | some u=>!u.shared
    | none=>false)
   | none=>false)
  | _=>false)
 | _,_=>false
def MY (ops:Array Oper):List Nat:=ops.toList.filterMap λ o=>match Vz o with|true=>o.dst|false=>none
def M5:List Oper->St->St
 | [],s=>s
 | o::l,s=>match o.op with
  | .call c=>(match c.callee,o.dst with
   | .builtin .append,some d=>M5 l { s with fr:=Ex.put d .any s.fr }
   | _,_=>M5 l s)
  | _=>M5 l s
def On (i:Nat) (s:St):List Nat->Bool
 | []=>false
 | t::l=>(s.get t).i8 i || On i s l
def S4 (live:List Nat) (s0:St):List (Nat×g9)->St->St
 | [],s=>s
 | (i,_)::l,s=>match pinned i || On i s0 live with
  | true=>S4 live s0 l s
  | false=>S4 live s0 l (s.drop i)
def AV.ren (i j:Nat):AV->AV:=AV.map λ v =>
 match v.i8 i with
 | false=>v
 | true=>match v with
  | .ptr _ p=>.ptr j p
  | .at_ _ p=>.at_ j p
  | .sub _ p a b=>.sub j p a b
  | _=>.any
def settle (m:Nat) (t:Ty) (s:St):St :=
 match s.get m with
 | .raw (.slice none 0 0)=>(match t,s.fresh (1000000+m) with
  | .d0 true u,true=>{ s.y9 (1000000+m) (.own (.d0 true u) ([]:List u.den)) with fr:=Ex.put m (.at_ (1000000+m) []) s.fr }
  | _,_=>s)
 | .at_ i []=>(match s.obj i with
  | some (.own u x)=>(match pinned i || !s.fresh (1000000+m) with
   | true=>s
   | false=>{ fr:=mapA (AV.ren i (1000000+m)) s.fr,hp:=Ex.put (1000000+m) (.own u x) (del i s.hp) })
  | _=>s)
 | .sub i [] lo hi=>(match (AV.sub i [] lo hi).vF s with
  | some (⟨u,x⟩,_)=>(match pinned i || !(s.drop i).fresh (1000000+m) with
   | true=>s
   | false=>{ (s.drop i).y9 (1000000+m) (.own u x) with fr:=Ex.put m (.at_ (1000000+m) []) (s.drop i).fr })
  | none=>s)
 | .val u x=>(match decide (u=t) && s.fresh (1000000+m) with
  | true=>{ s.y9 (1000000+m) (.own u x) with fr:=Ex.put m (.at_ (1000000+m) []) s.fr }
  | false=>s)
 | _=>s
def Y8:List (Nat×Option Ty)->St->St
 | [],s=>s
 | (_,none)::l,s=>Y8 l s
 | (m,some t)::l,s=>Y8 l (settle m t s)
def canon (live:List (Nat×Option Ty)) (s:St):St :=
 let ts:=live.map (·.1)
 let s:=S4 ts s s.hp s
 let s:=Y8 live s
 let s:=S4 ts s s.hp s
 { fr:=ts.map λ t=>(t,s.get t),hp:=s.hp }
def St.cutAt (E:Env) (c:Code) (s:St):St:=canon ((look (S7 c) E.D5).getD []) (AK E ((look (S7 c) E.D5).getD []) s)
def a72 (E:Env) (s:St):List ResultVar->Option AV
 | []=>some .nil
 | .tmp t::l=>match a72 E s l with|some v=>some (.cons (s.ev (.tmp t)) v)|none=>none
 | .cell a T::l=>match s.ev (.tmp a) with
  | .ptr i p=>(match s.part i p with
   | some ⟨u,y⟩=>(match K0 E T u with
    | true=>(match a72 E s l with
     | some v=>(match u.shared with|true=>some (.cons (.val u y) v)|false=>some (.cons (.at_ i p) v))
     | none=>none)
    | false=>none)
   | none=>none)
  | _=>none
def IM (s:St) (t:Ty) (used:List Nat) (a:AV):Option (t.den×List Nat) :=
 match a with
 | .at_ i []=>(match used.contains i || pinned i with
  | true=>none
  | false=>match s.obj i with
   | some (.var u x)=>if h:u=t then some (Y1 h x,i::used) else none
   | some (.own u x)=>if h:u=t then some (Y1 h x,i::used) else none
   | _=>none)
 | .sub i [] lo hi=>(match used.contains i || pinned i with
  | true=>none
  | false=>match (AV.sub i [] lo hi).vF s with
   | some (⟨u,x⟩,_)=>if h:u=t then some (Y1 h x,i::used) else none
   | none=>none)
 | .ptr i []=>(match used.contains i || pinned i with
  | true=>none
  | false=>match s.obj i with
   | some (.var u x)=>if h:Ty.box true none u=t then some (Y1 h (some x),i::used) else none
   | _=>none)
 | .D9 f (.cons (.ptr i []) .nil)=>(match used.contains i || pinned i with
  | true=>none
  | false=>match s.obj i with
   | some (.var u x)=>if h:Ty.box true (some f) u=t then some (Y1 h (some x),i::used) else none
   | _=>none)
 | .raw (.pointer none)=>(match t with
  | .box true none u=>some ((none:Option u.den),used)
  | _=>none)
 | a=>match a.as t with
  | some x=>some (x,used)
  | none=>none
def Bu (s:St):(rs:List Ty)->List Nat->AV->Option (DL rs)
 | [],_,.nil=>some ()
 | t::ts,used,.cons a b=>match IM s t used a with
  | some (x,fj)=>match Bu s ts fj b with
   | some y=>some (x,y)
   | none=>none
  | none=>none
 | _,_,_=>none
def vO (s:St):(ks:List PK)->Nat->Option (DL (F9 ks))
 | [],_=>some ()
 | .rw t::ks,j=>match s.obj (2000000+j),vO s ks (j+1) with
  | some (.var u x),some y=>if h:u=t then some (Y1 h x,y) else none
  | _,_=>none
 | .mu t::ks,j=>match s.obj (2000000+j),vO s ks (j+1) with
  | some (.own u x),some y=>if h:u=.d0 true t then some (Y1 h x,y) else none
  | _,_=>none
 | .v _::ks,j=>vO s ks (j+1)
 | .rd _::ks,j=>vO s ks (j+1)
 | .D9 _ _::ks,j=>vO s ks (j+1)
 | .own _::ks,j=>vO s ks (j+1)
 | .X4::ks,j=>vO s ks (j+1)
 | .rcs _ _::ks,j=>vO s ks (j+1)
 | .el _::ks,j=>vO s ks (j+1)
def finish (E:Env) (s:St):Tree (E.rs++F9 E.ps) :=
 match a72 E s E.res with
 | none=>.stuck "result"
 | some l=>match Bu s E.rs [] l,vO s E.ps 0 with
  | some y,some z=>.ret (DL.app y z)
  | _,_=>.stuck "result: type"
def CH:List ResultVar->List Ty->List (Nat×Option Ty)
 | .cell a _::l,t::ts=>(a,some t)::CH l ts
 | _::l,_::ts=>CH l ts
 | _,_=>[]
def Jm (E:Env) (s:St):Tree (E.rs++F9 E.ps) :=
 match E.gp with
 | none=>finish E s
 | some p=>match look K3 s.fr with
  | some (.ptr i q)=>.f8 (i=2000000/\q=p/\E.nt<=K3) (finish E s)
  | _=>.stuck "ghost"
def OP (E:Env) (s:St):Tree (E.rs++F9 E.ps):=Jm E (AK E (CH E.res E.rs) s)
def exec (E:Env):Nat->List Item->St->Tree (E.rs++F9 E.ps)
 | 0,_,_=>.stuck "fuel"
 | n+1,k,s =>
  match k with
  | []=>OP E s
  | .inBlock _::k=>exec E n k s
  | .inLoop c::k=>.cut c k (s.cutAt E c)
  | .code c::k =>
   match c with
   | .skip=>exec E n k s
   | .seq a b=>exec E n (.code a::.code b::k) s
   | .cond c a b=>match s.ev c with
    | .val .bool g=>cond g (exec E n (.code a::k) s) (exec E n (.code b::k) s)
    | _=>.stuck "cond"
   | .block id c=>exec E n (.code c::.inBlock id::k) s
   | .loop c=>.cut c k (s.cutAt E c)
   | .exit id=>match exitTo id k with
    | some k'=>exec E n k' s
    | none=>.stuck "exit"
   | .ret=>OP E s
   | .region _ ops draw=>match draw with
    | false=>xa E ops 0 ops.toList (DT E ops s) λ s'=>exec E n k s'
    | true=>match xx ops && Cv ops (M5 ops.toList (As E ops s)) && E.P.follows .mixedOrders with
     | true=>DU E ops (E9 ops.toList []) 0 ops.toList (M5 ops.toList (As E ops s)) [] λ s'=>exec E n k s'
     | false=>match xx ops && Kr ops (M5 ops.toList (As E ops s)) && E.P.follows .mixedOrders with
      | true=>DV E ops (E9 ops.toList []) 0 ops.toList (M5 ops.toList (As E ops s)) [] λ s'=>exec E n k s'
      | false=>.stuck "draw"
   | _=>.stuck "code"
  | _::_=>.stuck "item"
def zN:Code->List Item->List (Nat×(Code×List Item))
 | .seq a b,k=>zN a (.code b::k)++zN b k
 | .cond _ a b,k=>zN a k++zN b k
 | .block id c,k=>zN c (.inBlock id::k)
 | .loop c,k=>(S7 c,(c,k))::zN c (.inLoop c::k)
 | _,_=>[]
def f9 (c:Code) (r:Nat):Code×List Item:=(look r (zN c [])).getD (.skip,[])
def X6:(ks:List PK)->DK ks->Nat->List (Nat×AV)
 | [],_,_=>[]
 | .v t::ks,x,i=>(i,.val t x.1)::X6 ks x.2 (i+1)
 | .rd t::ks,x,i=>(i,.N1 t x.1)::X6 ks x.2 (i+1)
 | .D9 f ts::ks,x,i=>(i,.D9 f (rdA ts x.1))::X6 ks x.2 (i+1)
 | .own _::ks,x,i=>(i,.at_ (1500000+i) [])::X6 ks x.2 (i+1)
 | .rw _::ks,x,i=>(i,.ptr (2000000+i) [])::X6 ks x.2 (i+1)
 | .mu _::ks,x,i=>(i,.at_ (2000000+i) [])::X6 ks x.2 (i+1)
 | .X4::ks,x,i=>(i,.raw (.slice none 0 0))::X6 ks x.2 (i+1)
 | .rcs _ _::ks,x,i=>(i,.any)::X6 ks x.2 (i+1)
 | .el _::ks,x,i=>(i,.any)::X6 ks x.2 (i+1)
where rdA:(ts:List Ty)->DL ts->AV
 | [],_=>.nil
 | t::ts,x=>.cons (.N1 t x.1) (rdA ts x.2)
def G8:(ks:List PK)->DK ks->Nat->List (Nat×g9)
 | [],_,_=>[]
 | .own t::ks,x,i=>Ex.put (1500000+i) (.own t x.1) (G8 ks x.2 (i+1))
 | .rw t::ks,x,i=>Ex.put (2000000+i) (.var t x.1) (G8 ks x.2 (i+1))
 | .mu t::ks,x,i=>Ex.put (2000000+i) (.own (.d0 true t) x.1) (G8 ks x.2 (i+1))
 | .v _::ks,x,i=>G8 ks x.2 (i+1)
 | .rd _::ks,x,i=>G8 ks x.2 (i+1)
 | .D9 _ _::ks,x,i=>G8 ks x.2 (i+1)
 | .X4::ks,x,i=>G8 ks x.2 (i+1)
 | .rcs _ _::ks,x,i=>G8 ks x.2 (i+1)
 | .el _::ks,x,i=>G8 ks x.2 (i+1)
def HW (fr:List (Nat×AV)):Nat->Nat->AV
 | _,0=>.nil
 | j,n+1=>.cons ((look j fr).getD .any) (HW fr (j+1) n)
def xf:(ks:List PK)->DK ks->Nat->List (Nat×AV)->List (Nat×AV)
 | [],_,_,fr=>fr
 | .rcs f n::ks,x,i,fr=>xf ks x.2 (i+1) (Ex.put i (.bx (.D9 f (.rc f (HW fr (i - n) n)))) fr)
 | .el q::ks,x,i,fr=>xf ks x.2 (i+1) (Ex.put i (.ptr (2000000+(i - 1)) (q++[.idx x.1])) fr)
 | .v _::ks,x,i,fr=>xf ks x.2 (i+1) fr
 | .rd _::ks,x,i,fr=>xf ks x.2 (i+1) fr
 | .D9 _ _::ks,x,i,fr=>xf ks x.2 (i+1) fr
 | .own _::ks,x,i,fr=>xf ks x.2 (i+1) fr
 | .rw _::ks,x,i,fr=>xf ks x.2 (i+1) fr
 | .mu _::ks,x,i,fr=>xf ks x.2 (i+1) fr
 | .X4::ks,x,i,fr=>xf ks x.2 (i+1) fr
def w9 (ks:List PK) (x:DK ks):St:={ fr:=xf ks x 0 (X6 ks x 0),hp:=G8 ks x 0 }
end Go.Ex
namespace Go.Ex
theorem yZ {n m:Nat} (h:n≠m):Nat.beq n m=false:=by
 cases e:Nat.beq n m with
 | true=>exact absurd (aAe e) h
 | false=>rfl
section
variable {α:Type _}
theorem p9 (n m:Nat) (x:α):∀ l:List (Nat×α),look n (put m x l)=if n=m then some x else look n l
 | []=>by
  simp only [put,look];by_cases h:n=m
  ·subst h; simp
  ·rw [if_neg h]; have:Nat.beq n m=false:=yZ h
   simp [this]
 | (k,y)::l=>by
  simp only [put];cases hk:Nat.beq m k with
  | true =>
   have:m=k:=aAe hk;subst this;simp only [look];by_cases h:n=m
   ·subst h; simp
   ·rw [if_neg h]; have:Nat.beq n m=false:=yZ h
    simp [this]
  | false =>
   have pU:m≠k:=λ e=>by subst e; simp at hk
   cases Nat.blt m k with
   | true =>
    simp only [look];by_cases h:n=m
    ·subst h; simp
    ·rw [if_neg h]; have:Nat.beq n m=false:=yZ h
     simp [this]
   | false =>
    simp only [look];cases hn:Nat.beq n k with
    | true =>
     have:n=k:=aAe hn;subst this;simp [Ne.symm pU]
    | false=>exact p9 n m x l
theorem M8 (n m:Nat):∀ l:List (Nat×α),look n (del m l)=if n=m then none else look n l
 | []=>by simp [del,look]
 | (k,y)::l=>by
  simp only [del];cases hk:Nat.beq m k with
  | true =>
   have:m=k:=aAe hk;subst this;simp only [look,M8 n m l];by_cases h:n=m
   ·simp [h]
   ·have:Nat.beq n m=false:=yZ h
    simp [h,this]
  | false =>
   have pU:m≠k:=λ e=>by subst e; simp at hk
   simp only [look];cases hn:Nat.beq n k with
   | true =>
    have:n=k:=aAe hn;subst this;simp [Ne.symm pU]
   | false=>exact M8 n m l
theorem R7 (n:Nat) (f:α->α):∀ l:List (Nat×α),look n (mapA f l)=(look n l).map f
 | []=>rfl
 | (k,y)::l=>by
  simp only [mapA,look];cases Nat.beq n k with
  | true=>rfl
  | false=>exact R7 n f l
end
theorem Dz {d:Nat}:∀ {l:List (Nat×AV)},wP d l=true->∀ {n:Nat} {v:AV},look n l=some v->v.i8 d=false
 | [],_,_,_,h=>by cases h
 | (k,y)::l,h,n,v,hv=>by
  simp only [wP,aAa,aAu] at h;simp only [look] at hv;cases hk:Nat.beq n k with
  | true=>rw [hk] at hv; cases hv; exact h.1
  | false=>rw [hk] at hv; exact Dz h.2 hv
def AV.ref:AV->Bool
 | .ptr _ _|.at_ _ _|.sub _ _ _ _=>true
 | _=>false
theorem AV.map_id:∀ v:AV,v.map (λ u=>u)=v:=by
 intro v
 induction v with
 | cons a b iha ihb=>simp only [AV.map,iha,ihb]
 | M9 l ih=>simp only [AV.map,ih]
 | D9 f l ih=>simp only [AV.map,ih]
 | bx l ih=>simp only [AV.map,ih]
 | rc f l ih=>simp only [AV.map,ih]
 | _=>rfl
theorem ZI {H H':Array Go.Obj} {S:Nat->Prop}:∀ {t:Ty} {p:List Step} {r off r' ar:Nat} {O:List Nat} {x:t.den},i6 H S t O (e8 H r off t.size) x->off+t.size<=(y8 H r).length->C1 t x p ->
  e8 H' r' ar t.size=e8 H r off t.size->(∀ c∈O,H'[c]?=H[c]?)->∀ {u:Ty} {y:u.den},j9 t x p=some ⟨u,y⟩ ->
  (∃ k,C6 H t p r off=some (r,off+k)/\C6 H' t p r' ar=some (r',ar+k)/\k+u.size<=t.size)\/(∃ b o,C6 H t p r off=some (b,o)/\C6 H' t p r' ar=some (b,o)/\b∈O):=by
 intro t;have sub:∀ {r off r' ar n o m:Nat},e8 H' r' ar n=e8 H r off n->o+m<=n->e8 H' r' (ar+o) m=e8 H r (off+o) m:=by
  intro r off r' ar n o m h hm;have e:∀ (K:Array Go.Obj) (c d:Nat),e8 K c (d+o) m=((e8 K c d n).drop o).take m:=by
   intro K c d;rw [o8,n9 _ _ _ _ (by omega)]
  rw [e H',e H,h]
 have shift:∀ {a:Ty} {q:List Step} {r off r' ar d n s:Nat} {O:List Nat},(∃ k,C6 H a q r (off+d)=some (r,off+d+k)/\C6 H' a q r' (ar+d)=some (r',ar+d+k)/\k+s<=n)\/(∃ b o,C6 H a q r (off+d)=some (b,o)/\C6 H' a q r' (ar+d)=some (b,o)/\b∈O) ->
   ∀ {m:Nat} {O':List Nat},d+n<=m->(∀ c∈O,c∈O')->(∃ k,C6 H a q r (off+d)=some (r,off+k)/\C6 H' a q r' (ar+d)=some (r',ar+k)/\k+s<=m)\/(∃ b o,C6 H a q r (off+d)=some (b,o)/\C6 H' a q r' (ar+d)=some (b,o)/\b∈O'):=by
  intro a q r off r' ar d n s O h m O' hm hO;rcases h with ⟨k,h1,h2,h3⟩|⟨b,o,h1,h2,h3⟩
  ·exact .inl ⟨d+k,by rw [h1,aBo],by rw [h2,aBo],by omega⟩
  ·exact .inr ⟨b,o,h1,h2,hO b h3⟩
 induction t with
 | pair a c iha ihc =>
  intro p r off r' ar O x hR hb ho hc hO u y hg
  match p,ho,hg with
  | [],_,hg=>simp only [j9,aAc] at hg; cases hg; exact .inl ⟨0,rfl,rfl,by omega⟩
  | .m0 0::p,ho,hg =>
   obtain ⟨P1,P2,rfl,h1,h2⟩:=hR;simp only [Ty.size] at *
   rw [n9 _ _ _ _ (by omega)] at h1;have:=iha h1 (by omega) ho (by have:=sub (o:=0) (m:=a.size) hc (by omega); simpa using this) (λ c hc=>hO c (by simp [hc])) hg;exact shift (d:=0) this (by omega) (λ c hc=>by simp [hc])
  | .m0 (n+1)::p,ho,hg =>
   obtain ⟨P1,P2,rfl,h1,h2⟩:=hR;simp only [Ty.size] at *
   rw [o8,aCv] at h2;have:=ihc h2 (by omega) ho (sub (o:=a.size) (m:=c.size) hc (by omega)) (λ c hc=>hO c (by simp [hc])) hg;exact shift (d:=a.size) this (by omega) (λ c hc=>by simp [hc])
  | .idx i::p,ho,_=>simp [C1] at ho
 | arr n t ih =>
  intro p r off r' ar O x hR hb ho hc hO u y hg
  match p,ho,hg with
  | [],_,hg=>simp only [j9,aAc] at hg; cases hg; exact .inl ⟨0,rfl,rfl,by omega⟩
  | .idx i::p,ho,hg =>
   obtain ⟨hi,ho⟩:=ho;obtain ⟨hl,hR⟩:=hR;simp only [Ty.size] at *
   obtain ⟨b1,b2,b3,b4⟩:=F0 (sz:=t.size) hi;obtain ⟨P1,P2,P3,rfl,g1,g2,g3⟩:=j5.split (d:=t.w5) (i:=i.toNat) (by rw [hl]; exact b1) hR;rw [o8,n9 _ _ _ _ (by omega)] at g2;have:=ih g2 (by omega) ho (sub (o:=i.toNat*t.size) (m:=t.size) hc (by omega)) (λ c hc=>hO c (by simp [hc])) hg;exact shift (d:=i.toNat*t.size) this (by omega) (λ c hc=>by simp [hc])
  | .m0 i::p,ho,_=>simp [C1] at ho
 | d0 o t ih =>
  intro p r off r' ar O x hR hb ho hc hO u y hg
  match p,ho,hg with
  | [],_,hg=>refine .inl ⟨0,by cases o<;>rfl,by cases o<;>rfl,?_⟩; have hg:some (⟨.d0 o t,x⟩:Sigma Ty.den)=some ⟨u,y⟩:=(by cases o<;>exact hg); cases hg; omega
  | .idx i::p,ho,hg =>
   cases o with
   | false=>simp [C1] at ho
   | true =>
    obtain ⟨hi,ho⟩:=ho;rcases hR with ⟨_,_,hn⟩|⟨b1,o1,cap,O',c1,c2,c3,c4,c5,rfl,c6⟩
    ·subst hn; simp at hi; omega
    ·simp only [Ty.size] at *
     have hh:=(S8 r off _).1 c1;have qh:=(S8 r' ar _).1 (hc.trans c1);obtain ⟨b1',b2,b3,b4⟩:=F0 (sz:=t.size) hi;obtain ⟨P1,P2,P3,rfl,g1,g2,g3⟩:=j5.split (d:=t.w5) (i:=i.toNat) b1' c5;rw [o8,n9 _ _ _ _ (by omega)] at g2;have cR:List.length x*t.size<=cap*t.size:=aAm _ c2;have:=ih g2 (by omega) ho (r':=b1) (ar:=o1+i.toNat*t.size) (l7 (hO b1 (by simp)) _ _) (λ c hc=>hO c (by simp [hc])) hg;simp only [C6,hh,qh];rcases this with ⟨k,h1,h2,h3⟩|⟨b,o,h1,h2,h3⟩
     ·exact .inr ⟨b1,_,h1,h2,by simp⟩
     ·exact .inr ⟨b,o,h1,h2,by simp [h3]⟩
  | .m0 i::p,ho,_=>cases o<;>simp [C1] at ho
 | _ =>
  intro p r off r' ar O x hR hb ho hc hO u y hg
  match p,ho,hg with
  | [],_,hg=>simp only [j9,aAc] at hg; cases hg; exact .inl ⟨0,rfl,rfl,by omega⟩
  | .m0 i::p,ho,_=>simp [C1] at ho
  | .idx i::p,ho,_=>simp [C1] at ho
structure Ix where
 root:Nat->Nat×Nat
 cells:Nat->List Value
 own:Nat->List Nat
def gh (H:Array Go.Obj) (cs:List Value):Array Go.Obj:=H.push (.cells cs.toArray 0)
def VH (H:Array Go.Obj) (ι:Ix) (i:Nat):g9->Array Go.Obj
 | .own _ _=>gh H (ι.cells i)
 | _=>H
def VR (H:Array Go.Obj) (ι:Ix) (i:Nat):g9->Nat×Nat
 | .own _ _=>(H.size,0)
 | _=>ι.root i
def Place (H:Array Go.Obj) (ι:Ix) (i:Nat) (e:g9) (p:List Step):Option (Nat×Nat) :=
 match e with
 | .N0=>none
 | e=>C6 (VH H ι i e) e.ty p (VR H ι i e).1 (VR H ι i e).2
theorem J1 {H:Array Go.Obj} {ι:Ix} {i:Nat} {e:g9} {p:List Step} (he:e≠.N0):Place H ι i e p=C6 (VH H ι i e) e.ty p (VR H ι i e).1 (VR H ι i e).2:=by
 cases e<;>first|rfl|exact absurd rfl he
theorem a80 {H:Array Go.Obj} {ι:Ix} {i:Nat} {e:g9} {p:List Step} {r:Nat×Nat} (h:Place H ι i e p=some r):e≠.N0:=by
 rintro rfl; cases h
def Loc (H:Array Go.Obj) (ι:Ix) (i:Nat) (e:g9) (p:List Step):Option (Nat×Nat) :=
 match Place H ι i e p with
 | some (b,off)=>if b<H.size then some (b,off) else none
 | none=>none
def Cells (H:Array Go.Obj) (ι:Ix) (i:Nat) (e:g9) (p:List Step) (u:Ty) (cs:List Value):Prop :=
 ∃ b off,Place H ι i e p=some (b,off)/\cs=e8 (VH H ι i e) b off u.size
def Br (sz:Nat) (a:Option Addr) (cap:Nat) (lo hi:Int) (v:Value):Prop :=
 ∃ c A,v=.slice A (hi - lo).toNat c/\(c≠0->A=a.map (·.add (lo.toNat*sz)))/\(hi - lo).toNat<=c/\lo.toNat+c=cap
def VX (H:Array Go.Obj) (S:Nat->Prop) (ι:Ix) (hp:List (Nat×g9)):AV->List Value->Prop
 | .any,vs=>∃ v,vs=[v]
 | .raw v,vs=>vs=[v]
 | .val t x,vs=>∃ cs,vs=[s5 t cs]/\i6 H S t [] cs x
 | .ptr i p,vs=>∃ e b off,look i hp=some e/\C1 e.ty e.x p/\Loc H ι i e p=some (b,off)/\vs=[.pointer (some ⟨b,off,none⟩)]
 | .N1 t x,vs=>∃ b off,vs=[.pointer (some ⟨b,off,none⟩)]/\S b/\off+t.size<=(y8 H b).length/\i6 H S t [] (e8 H b off t.size) x
 | .at_ i p,vs=>∃ e u y cs,look i hp=some e/\C1 e.ty e.x p/\j9 e.ty e.x p=some ⟨u,y⟩/\Cells H ι i e p u cs/\vs=[s5 u cs]
 | .sub i p lo hi,vs=>∃ e v,look i hp=some e/\C1 e.ty e.x p/\vs=[v]/\0<=lo/\lo<=hi /\
   ((∃ t l a cap,j9 e.ty e.x p=some ⟨.d0 true t,l⟩/\hi<=(List.length l:Int)/\Cells H ι i e p (.d0 true t) [.slice a (List.length l) cap]/\Br t.size a cap lo hi v) \/
   (∃ n t l b off,j9 e.ty e.x p=some ⟨.arr n t,l⟩/\(hi<=(n:Int)/\n<=maxLen)/\Loc H ι i e p=some (b,off)/\Br t.size (some ⟨b,off,none⟩) n lo hi v))
 | .nil,vs=>vs=[]
 | .cons a b,vs=>∃ v us,vs=v::us/\VX H S ι hp a [v]/\VX H S ι hp b us
 | .M9 l,vs=>∃ us,vs=[.tuple us.toArray]/\VX H S ι hp l us
 | .D9 f l,vs=>∃ us,vs=[.func (.func f) #[] us.toArray]/\VX H S ι hp l us
 | .bx l,vs=>∃ b off u,vs=[.pointer (some ⟨b,off,none⟩)]/\S b/\off+1<=(y8 H b).length/\e8 H b off 1=[u]/\VX H S ι hp l [u]
 | .rc f l,vs=>∃ b off us,vs=us++[.pointer (some ⟨b,off,none⟩)]/\S b/\off+1<=(y8 H b).length/\e8 H b off 1=[.func (.func f) #[] (us++[.pointer (some ⟨b,off,none⟩)]).toArray]/\VX H S ι hp l us
def OB (H:Array Go.Obj) (S:Nat->Prop) (ι:Ix) (i:Nat):g9->Prop
 | .var t x=>(∃ O,O.Perm (ι.own i)/\i6 H S t O (e8 H (ι.root i).1 (ι.root i).2 t.size) x)/\R0 H (ι.root i).1 ((ι.root i).2+t.size)/\((ι.root i).1::ι.own i).Nodup
 | .own t x=>(∃ O,O.Perm (ι.own i)/\i6 H S t O (ι.cells i) x)/\(ι.own i).Nodup
 | .N0=>(ι.own i).Nodup
def l8 (ι:Ix) (i:Nat):g9->List Nat
 | .var _ _=>(ι.root i).1::ι.own i
 | .own _ _=>ι.own i
 | .N0=>ι.own i
structure F5 where
 w0:World
 S0:Nat->Prop
 M:Nat->Prop
 n:Nat
 pins:List (Nat×(Nat×Nat)×List Value)
 gv:Value:=undef
def X5 (w w':World):Prop:=w'.tape=w.tape/\w.drawn<=w'.drawn
theorem X5.refl (w:World):X5 w w:=⟨rfl,aAk _⟩
theorem X5.trans {w w' w'':World} (h':X5 w' w'') (h:X5 w w'):X5 w w'':=⟨h'.1.trans h.1,aAx h.2 h'.2⟩
theorem X5.of {w w':World} (h:w'.tape=w.tape) (h2:w'.drawn=w.drawn):X5 w w':=⟨h,by rw [h2]; exact aAk _⟩
structure HS (B:F5) (S:Nat->Prop) (ι:Ix) (hp:List (Nat×g9)) (w:World):Prop where
 os:w.os=B.w0.os
 tape:X5 B.w0 w
 out:w.output=B.w0.output
 size:B.w0.heap.size<=w.heap.size
 frame:∀ c,c<B.w0.heap.size->¬ B.M c->w.heap[c]?=B.w0.heap[c]?
 slt:∀ b,S b->b<w.heap.size
 s0:∀ b,B.S0 b->S b
 s1:∀ b,S b->B.S0 b\/B.w0.heap.size<=b\/B.M b
 ob:∀ i e,look i hp=some e->OB w.heap S ι i e
 bl:∀ i e,look i hp=some e->∀ b∈l8 ι i e,¬ S b/\(B.w0.heap.size<=b\/B.M b)/\b<w.heap.size
 dj:∀ i j ei ej,look i hp=some ei->look j hp=some ej->i≠j->∀ b∈l8 ι i ei,b∉l8 ι j ej
 pin:∀ q∈B.pins,pinned q.1=true/\(∃ e,look q.1 hp=some e)/\ι.root q.1=q.2.1/\ι.cells q.1=q.2.2
def F5.gd (B:F5) (t:Nat):Value:=match Nat.beq t K3 with|true=>B.gv|false=>undef
structure RS (B:F5) (S:Nat->Prop) (ι:Ix) (s:St) (a:Act) (w:World):Prop where
 hs:HS B S ι s.hp w
 dfr:a.defers=[]
 sz:a.tmps.size=B.n
 fr:∀ t v,look t s.fr=some v->VX w.heap S ι s.hp v [a.tmps.getD t (B.gd t)]
section
variable {H H':Array Go.Obj} {S S':Nat->Prop} {ι ι':Ix} {hp cI:List (Nat×g9)}
theorem VX.map {f:AV->AV} (hH:∀ b,S b->H'[b]?=H[b]?) (hS:∀ b,S b->S' b):∀ {v:AV} {vs:List Value},
  (∀ u vs,u.ref=true->(∀ i,u.i8 i=true->v.i8 i=true)->VX H S ι hp u vs->VX H' S' ι' cI (f u) vs)->VX H S ι hp v vs->VX H' S' ι' cI (v.map f) vs:=by
 intro v
 induction v with
 | any=>intro vs _ h; exact h
 | raw v=>intro vs _ h; exact h
 | val t x=>rintro vs _ ⟨cs,e,h⟩; exact ⟨cs,e,h.x7 (λ b hb=>by rcases hb with hb|hb; cases hb; exact hH b hb) hS⟩
 | ptr i p=>intro vs hf h; exact hf _ vs rfl (λ _ h=>h) h
 | N1 t x =>
  rintro vs _ ⟨b,off,e,hb,h3,h4⟩;refine ⟨b,off,e,hS b hb,by rw [R9 (hH b hb)]; exact h3,?_⟩;rw [l7 (hH b hb)];exact h4.x7 (λ b hb=>by rcases hb with hb|hb; cases hb; exact hH b hb) hS
 | at_ i p=>intro vs hf h; exact hf _ vs rfl (λ _ h=>h) h
 | sub i p a b=>intro vs hf h; exact hf _ vs rfl (λ _ h=>h) h
 | nil=>intro vs _ h; exact h
 | cons a b iha ihb=>rintro vs hf ⟨v,us,e,ha,hb⟩; exact ⟨v,us,e,iha (λ u vs hu hm=>hf u vs hu (λ i hi=>by simp [AV.i8,hm i hi])) ha,ihb (λ u vs hu hm=>hf u vs hu (λ i hi=>by simp [AV.i8,hm i hi])) hb⟩
 | M9 l ih=>rintro vs hf ⟨us,e,h⟩; exact ⟨us,e,ih hf h⟩
 | D9 f l ih=>rintro vs hf ⟨us,e,h⟩; exact ⟨us,e,ih hf h⟩
 | bx l ih=>rintro vs hf ⟨b,off,u,e,hb,h1,h2,h⟩; exact ⟨b,off,u,e,hS b hb,by rw [R9 (hH b hb)]; exact h1,by rw [l7 (hH b hb)]; exact h2,ih hf h⟩
 | rc f l ih=>rintro vs hf ⟨b,off,us,e,hb,h1,h2,h⟩; exact ⟨b,off,us,e,hS b hb,by rw [R9 (hH b hb)]; exact h1,by rw [l7 (hH b hb)]; exact h2,ih hf h⟩
theorem VX.one {v:AV} {vs:List Value} (hr:v.ref=true) (h:VX H S ι hp v vs):∃ x,vs=[x]:=by
 cases v<;>simp only [AV.ref] at hr<;>try cases hr
 ·obtain ⟨e,b,off,_,_,_,h4⟩:=h; exact ⟨_,h4⟩
 ·obtain ⟨e,u,y,cs,_,_,_,_,h5⟩:=h; exact ⟨_,h5⟩
 ·obtain ⟨e,v,_,_,h3,_⟩:=h; exact ⟨_,h3⟩
theorem AN {cs:List Value} {b:Nat} (h:b<H.size):(gh H cs)[b]?=H[b]?:=by
 rw [gh,aEc,if_neg (by omega)]
theorem EL {cs:List Value}:(gh H cs)[H.size]?=some (.cells cs.toArray 0):=by simp [gh]
theorem xb {cs:List Value}:y8 (gh H cs) H.size=cs:=by simp [y8,EL]
theorem Cx {cs:List Value}:(gh H cs).size=H.size+1:=by simp [gh]
theorem R0.lt {b n:Nat} (h:R0 H b n):b<H.size:=by
 obtain ⟨arr,T,⟨fz,e,_⟩,_⟩:=h;exact (aAp.1 e).1
theorem OB.V6 {i:Nat} {e:g9} (he:e≠.N0) (ho:OB H S ι i e) {c:Nat} (hc:c∈ι.own i):c<H.size:=by
 cases e with
 | var t x=>obtain ⟨⟨O,hO,hR⟩,_⟩:=ho; exact hR.ye c (hO.mem_iff.2 hc)
 | own t x=>obtain ⟨⟨O,hO,hR⟩,_⟩:=ho; exact hR.ye c (hO.mem_iff.2 hc)
 | N0=>exact absurd rfl he
theorem OB.see {i:Nat} {e:g9} (he:e≠.N0) (ho:OB H S ι i e) (hS:∀ c,S c->c<H.size):∃ O,O.Perm (ι.own i)/\i6 (VH H ι i e) S e.ty O (e8 (VH H ι i e) (VR H ι i e).1 (VR H ι i e).2 e.ty.size) e.x /\
  (VR H ι i e).2+e.ty.size<=(y8 (VH H ι i e) (VR H ι i e).1).length/\((VR H ι i e).1::ι.own i).Nodup/\(VR H ι i e).1<(VH H ι i e).size/\(¬ S (VR H ι i e).1\/∃ t x,e=.var t x)/\R0 (VH H ι i e) (VR H ι i e).1 ((VR H ι i e).2+e.ty.size):=by
 cases e with
 | var t x =>
  obtain ⟨⟨O,hO,hR⟩,hf,aK⟩:=ho;exact ⟨O,hO,hR,hf.y8,aK,hf.lt,.inr ⟨t,x,rfl⟩,hf⟩
 | own t x =>
  have bf:=λ c hc=>OB.V6 (c:=c) he ho hc;obtain ⟨⟨O,hO,hR⟩,aK⟩:=ho;have hl:=hR.length;have cH:e8 (gh H (ι.cells i)) H.size 0 t.size=ι.cells i:=by
   simp only [e8,xb,aBz];exact aAw (by omega)
  refine ⟨O,hO,?_,?_,?_,by simp [VR,VH,Cx],.inl (λ h=>aCk _ (hS _ h)),⟨_,_,⟨_,EL,.inl rfl⟩,by simp [VR,g9.ty,hl]⟩⟩
  ·simp only [VH,VR,g9.ty,g9.x,cH]
   exact hR.x7 (λ c hc=>AN (hc.elim (λ h=>bf c (hO.mem_iff.1 h)) (hS c))) (λ _ h=>h)
  ·simp only [VH,VR,g9.ty,xb]; omega
  ·exact aAt.2 ⟨λ h=>aCk _ (bf _ h),aK⟩
 | N0=>exact absurd rfl he
theorem H7 {i:Nat} {e:g9} {c:Nat} (h:c<H.size):(VH H ι i e)[c]?=H[c]?:=by
 cases e<;>first|rfl|exact AN h
theorem wN {i:Nat} {e:g9} {t:Ty} {O:List Nat} {cs:List Value} {x:t.den} (hO:∀ c∈O,c<H.size) (hS:∀ c,S c->c<H.size):i6 (VH H ι i e) S t O cs x↔i6 H S t O cs x :=
 ⟨λ h=>h.x7 (λ c hc=>(H7 (hc.elim (hO c) (hS c))).symm) (λ _ h=>h),λ h=>h.x7 (λ c hc=>H7 (hc.elim (hO c) (hS c))) (λ _ h=>h)⟩
theorem OB.part {i:Nat} {e:g9} (he:e≠.N0) (ho:OB H S ι i e) (hS:∀ c,S c->c<H.size) {p:List Step} (aH:C1 e.ty e.x p) {u:Ty} {y:u.den} (hg:j9 e.ty e.x p=some ⟨u,y⟩) :
  ∃ b off O2,Place H ι i e p=some (b,off)/\(∀ c∈O2,c∈ι.own i)/\O2.Nodup/\i6 H S u O2 (e8 (VH H ι i e) b off u.size) y/\off+u.size<=(y8 (VH H ι i e) b).length /\
   (b<H.size->b∈l8 ι i e/\R0 H b (off+u.size)):=by
 obtain ⟨O,hO,hR,hb,aK,bf,gB,dZ⟩:=ho.see he hS;obtain ⟨O1,O2,b',ar,e1,e2,e3,e4,e5,e6⟩:=focus hR hb aH hg
 have hm:∀ c,c∈O1\/c∈O2->c∈ι.own i:=λ c hc=>hO.mem_iff.1 (e1.mem_iff.2 (by simpa using hc));have lq:∀ c∈O2,c<H.size:=λ c hc=>ho.V6 he (hm c (.inr hc));refine ⟨b',ar,O2,(J1 he).trans e3,λ c hc=>hm c (.inr hc),?_,(wN lq hS).1 e4,e5,λ bQ=>?_⟩
 ·exact (aAg.1 ((e1.nodup_iff).1 ((hO.nodup_iff).2 (aAt.1 aK).2))).2.1
 ·have gr:R0 (VH H ι i e) b' (ar+u.size):=by
   rcases e6 with ⟨rfl,g1,g2⟩|⟨_,g⟩
   ·exact dZ.mono g2
   ·exact g
  refine ⟨?_,?_⟩
  ·rcases e6 with ⟨rfl,g1,g2⟩|⟨g,_⟩
   ·cases e with
    | var t x=>simp [l8,VR]
    | own t x=>simp [VR] at bQ
    | N0=>exact absurd rfl he
   ·have:=hm b' (.inl g)
    cases e<;>simp [l8,this]
  ·obtain ⟨arr,T,⟨fz,h1,h3⟩,h2⟩:=gr
   rw [H7 bQ] at h1;exact ⟨arr,T,⟨fz,h1,h3⟩,h2⟩
theorem E0 {i:Nat} {e:g9} {p:List Step} {b off:Nat} (h:Loc H ι i e p=some (b,off)):Place H ι i e p=some (b,off)/\b<H.size:=by
 unfold Loc at h;split at h
 ·rename_i b' ar hp
  split at h
  ·rename_i bf; cases h; exact ⟨hp,bf⟩
  ·cases h
 ·cases h
theorem wL {i:Nat} {e:g9} {p:List Step} {b off:Nat} (h:Place H ι i e p=some (b,off)) (hb:b<H.size):Loc H ι i e p=some (b,off):=by
 unfold Loc; rw [h]; simp [hb]
theorem P6 {i:Nat} {e:g9} (he:e≠.N0) (ho:OB H S ι i e) (hS:∀ c,S c->c<H.size) {p:List Step} (aH:C1 e.ty e.x p) {u:Ty} {y:u.den} (hg:j9 e.ty e.x p=some ⟨u,y⟩) {b off:Nat} (hl:Loc H ι i e p=some (b,off)) :
  ∃ O2,(∀ c∈O2,c∈ι.own i)/\O2.Nodup/\i6 H S u O2 (e8 H b off u.size) y/\off+u.size<=(y8 H b).length/\b∈l8 ι i e/\R0 H b (off+u.size):=by
 obtain ⟨b',ar,O2,k1,k2,k3,k4,k5,k6⟩:=ho.part he hS aH hg;obtain ⟨h1,h2⟩:=E0 hl;rw [k1] at h1; cases h1;rw [l7 (H7 h2)] at k4;rw [R9 (H7 h2)] at k5;exact ⟨O2,k2,k3,k4,k5,k6 h2⟩
theorem OB.x7 {i:Nat} {e:g9} (ho:OB H S ι i e) (hH:∀ b,b∈l8 ι i e\/S b->H'[b]?=H[b]?) (hS:∀ b,S b->S' b):OB H' S' ι i e:=by
 cases e with
 | var t x =>
  obtain ⟨⟨O,hO,hR⟩,⟨arr,T,⟨fz,hf,tQ⟩,hn⟩,aK⟩:=ho;have hr:H'[(ι.root i).1]?=H[(ι.root i).1]?:=hH _ (.inl (by simp [l8]));refine ⟨⟨O,hO,?_⟩,⟨arr,T,⟨fz,hr.trans hf,tQ⟩,hn⟩,aK⟩;rw [l7 hr];exact hR.x7 (λ b hb=>hH b (hb.imp (λ h=>by simp [l8,hO.mem_iff.1 h]) id)) hS
 | own t x =>
  obtain ⟨⟨O,hO,hR⟩,aK⟩:=ho;exact ⟨⟨O,hO,hR.x7 (λ b hb=>hH b (hb.imp (λ h=>hO.mem_iff.1 h) id)) hS⟩,aK⟩
 | N0=>exact ho
theorem UJ {i:Nat} {e:g9} (he:e≠.N0) (ho:OB H S ι i e) (jz:∀ c,S c->c<H.size) (hH:∀ b,b∈l8 ι i e->H'[b]?=H[b]?) {p:List Step} (aH:C1 e.ty e.x p) {u:Ty} {y:u.den} (hg:j9 e.ty e.x p=some ⟨u,y⟩) :
  ∃ b off b' ar,Place H ι i e p=some (b,off)/\Place H' ι i e p=some (b',ar)/\e8 (VH H' ι i e) b' ar u.size=e8 (VH H ι i e) b off u.size/\(b<H.size->b'=b/\ar=off/\b<H'.size)/\(¬ b<H.size->¬ b'<H'.size):=by
 have bf:∀ c∈ι.own i,c<H.size/\c<H'.size:=λ c hc=>by
  have h1:=ho.V6 he hc;refine ⟨h1,?_⟩;have h2:=hH c (by cases e<;>simp [l8,hc]);rw [aCe h1] at h2;exact (aAp.1 h2).1
 obtain ⟨O,hO,hR,hb,aK,_,_,dZ⟩:=ho.see he jz;have bG:e8 (VH H' ι i e) (VR H' ι i e).1 (VR H' ι i e).2 e.ty.size=e8 (VH H ι i e) (VR H ι i e).1 (VR H ι i e).2 e.ty.size:=by
  cases e with
  | var t x=>exact l7 (hH _ (by simp [l8,VR])) _ _
  | own t x=>simp only [VH,VR,e8,xb]
  | N0=>exact absurd rfl he
 have dm:∀ c∈O,(VH H' ι i e)[c]?=(VH H ι i e)[c]?:=λ c hc=>by
  have hc:=hO.mem_iff.1 hc;rw [H7 (bf c hc).2,H7 (bf c hc).1];exact hH c (by cases e<;>simp [l8,hc])
 rcases ZI hR hb aH bG dm hg with ⟨k,h1,h2,h3⟩|⟨b,o,h1,h2,h3⟩
 ·refine ⟨_,_,_,_,(J1 he).trans h1,(J1 he).trans h2,?_,?_,?_⟩
  ·have e0:∀ (K:Array Go.Obj) (r:Nat×Nat),e8 K r.1 (r.2+k) u.size=((e8 K r.1 r.2 e.ty.size).drop k).take u.size:=by
    intro K r;rw [o8,n9 _ _ _ _ (by omega)]
   rw [e0,e0,bG]
  ·intro bQ
   cases e with
   | var t x =>
    refine ⟨rfl,rfl,?_⟩;have h2:=hH (ι.root i).1 (by simp [l8]);have bQ:(ι.root i).1<H.size:=bQ;rw [aCe bQ] at h2;exact (aAp.1 h2).1
   | own t x=>simp [VR] at bQ
   | N0=>exact absurd rfl he
  ·intro bQ
   cases e with
   | var t x=>exact absurd dZ.lt bQ
   | own t x=>simp [VR]
   | N0=>exact absurd rfl he
 ·have hc:=hO.mem_iff.1 h3
  refine ⟨b,o,b,o,(J1 he).trans h1,(J1 he).trans h2,?_,λ _=>⟨rfl,rfl,(bf b hc).2⟩,λ bQ=>absurd (bf b hc).1 bQ⟩;exact l7 (dm b h3) _ _
theorem FX {i:Nat} {e:g9} (he:e≠.N0) (ho:OB H S ι i e) (jz:∀ c,S c->c<H.size) (hH:∀ b,b∈l8 ι i e->H'[b]?=H[b]?) {p:List Step} (aH:C1 e.ty e.x p) {r:Nat×Nat} (h:Loc H ι i e p=some r):Loc H' ι i e p=some r:=by
 obtain ⟨u,y,hg⟩:=RI aH;obtain ⟨b,off,b',ar,h1,h2,h3,h4,h5⟩:=UJ (H':=H') he ho jz hH aH hg;obtain ⟨k1,k2⟩:=E0 (b:=r.1) (off:=r.2) h;rw [h1] at k1; cases k1;obtain ⟨rfl,rfl,h6⟩:=h4 k2;exact wL h2 h6
theorem MP {i:Nat} {e:g9} (he:e≠.N0) (ho:OB H S ι i e) (jz:∀ c,S c->c<H.size) (hH:∀ b,b∈l8 ι i e->H'[b]?=H[b]?) {p:List Step} (aH:C1 e.ty e.x p) {u:Ty} {y:u.den} (hg:j9 e.ty e.x p=some ⟨u,y⟩)
  {cs:List Value} (h:Cells H ι i e p u cs):Cells H' ι i e p u cs:=by
 obtain ⟨b0,off0,k1,k2⟩:=h;obtain ⟨b,off,b',ar,h1,h2,h3,h4,h5⟩:=UJ (H':=H') he ho jz hH aH hg;rw [h1] at k1; cases k1;exact ⟨b',ar,h2,k2.trans h3.symm⟩
theorem M6 {i:Nat} {e:g9} {p:List Step} {r:Nat×Nat} (h:Loc H ι i e p=some r):e≠.N0:=a80 (E0 (b:=r.1) (off:=r.2) h).1
theorem Dd {i:Nat} {e:g9} {p:List Step} {u:Ty} {cs:List Value} (h:Cells H ι i e p u cs):e≠.N0:=by obtain ⟨_,_,h,_⟩:=h; exact a80 h
theorem VX.grow (hH:∀ b,(∃ i e,look i hp=some e/\b∈l8 ι i e)\/S b->H'[b]?=H[b]?) (hS:∀ b,S b->S' b) (jz:∀ c,S c->c<H.size) (aT:∀ i e,look i hp=some e->OB H S ι i e) {v:AV} {vs:List Value} (h:VX H S ι hp v vs) :
  VX H' S' ι hp v vs:=by
 have:=VX.map (H':=H') (S':=S') (ι':=ι) (cI:=hp) (f:=λ u=>u) (λ b hb=>hH b (.inr hb)) hS ?_ h
 ·rwa [AV.map_id] at this
 ·intro u vs hu _ h
  cases u<;>simp only [AV.ref] at hu<;>try cases hu
  ·obtain ⟨e,b,off,h1,h2,h3,h4⟩:=h
   exact ⟨e,b,off,h1,h2,FX (M6 h3) (aT _ e h1) jz (λ b hb=>hH b (.inl ⟨_,e,h1,hb⟩)) h2 h3,h4⟩
  ·obtain ⟨e,u,y,cs,h1,h2,h3,h4,h5⟩:=h
   exact ⟨e,u,y,cs,h1,h2,h3,MP (Dd h4) (aT _ e h1) jz (λ b hb=>hH b (.inl ⟨_,e,h1,hb⟩)) h2 h3 h4,h5⟩
  ·obtain ⟨e,v,h1,h2,h3,h4,h5,h6⟩:=h
   refine ⟨e,v,h1,h2,h3,h4,h5,?_⟩;rcases h6 with ⟨t,l,a,cap,k1,k2,k3,k4⟩|⟨n,t,l,b,off,k1,k2,k3,k4⟩
   ·exact .inl ⟨t,l,a,cap,k1,k2,MP (Dd k3) (aT _ e h1) jz (λ b hb=>hH b (.inl ⟨_,e,h1,hb⟩)) h2 k1 k3,k4⟩
   ·exact .inr ⟨n,t,l,b,off,k1,k2,FX (M6 k3) (aT _ e h1) jz (λ b hb=>hH b (.inl ⟨_,e,h1,hb⟩)) h2 k3,k4⟩
end
end Go.Ex
namespace Go.Ex
theorem Ny:∀ t:Ty,zc t.sh=zc t:=by
 intro t
 induction t with
 | pair a b iha ihb=>simp only [Ty.sh,zc,iha,ihb]
 | arr n t ih=>simp only [Ty.sh,zc,ih]
 | _=>rfl
theorem Oe (t:Ty):t.sh.agg=t.agg:=by cases t<;>rfl
theorem Nx {u t:Ty} (h:u.sh=t.sh):zc u=zc t:=by rw [<- Ny u,h,Ny]
theorem Ey {u t:Ty} (h:u.sh=t.sh):u.agg=t.agg:=by rw [<- Oe u,h,Oe]
theorem Ja {u t:Ty} (h:u.sh=t.sh) (cs:List Value):s5 u cs=s5 t cs:=by simp only [s5,Ey h]
theorem VM:∀ t:Ty,t.sh.al=t.al:=by
 intro t
 induction t with
 | pair a b iha ihb=>simp only [Ty.sh,Ty.al,iha,ihb]
 | arr n t ih=>simp only [Ty.sh,Ty.al,ih]
 | _=>rfl
theorem NF:∀ t:Ty,t.sh.wb=t.wb/\∀ o,t.sh.yJ o=t.yJ o:=by
 intro t
 induction t with
 | pair a b iha ihb=>refine ⟨?_,λ o=>?_⟩<;>simp only [Ty.sh,Ty.wb,Ty.yJ,iha.1,ihb.2,VM]
 | arr n t ih=>refine ⟨?_,λ o=>rfl⟩; simp only [Ty.sh,Ty.wb,ih.1]
 | d0 o t ih=>exact ⟨rfl,λ o=>rfl⟩
 | _=>exact ⟨rfl,λ o=>rfl⟩
theorem VV {u t:Ty} (h:u.sh=t.sh):u.wb=t.wb:=by rw [<- (NF u).1,h,(NF t).1]
theorem T5:∀ t:Ty,(zc t).length=t.size:=by
 intro t
 induction t with
 | pair a b iha ihb=>simp only [zc,Ty.size,aAd,iha,ihb]
 | arr n t ih=>simp [zc,Ty.size,ih]
 | _=>rfl
theorem Ou:∀ t:Ty,zc t.U3=zc t:=by
 intro t
 induction t with
 | pair a b iha ihb=>simp only [Ty.U3,zc,iha,ihb]
 | arr n t ih=>simp only [Ty.U3,zc,ih]
 | _=>rfl
theorem WJ (t:Ty):t.U3.agg=t.agg:=by cases t<;>rfl
theorem PD (t:Ty) (cs:List Value):s5 t.U3 cs=s5 t cs:=by simp only [s5,WJ]
theorem VA:∀ t:Ty,t.U3.al=t.al:=by
 intro t
 induction t with
 | pair a b iha ihb=>simp only [Ty.U3,Ty.al,iha,ihb]
 | arr n t ih=>simp only [Ty.U3,Ty.al,ih]
 | _=>rfl
theorem Ot:∀ t:Ty,t.U3.wb=t.wb/\∀ o,t.U3.yJ o=t.yJ o:=by
 intro t
 induction t with
 | pair a b iha ihb=>refine ⟨?_,λ o=>?_⟩<;>simp only [Ty.U3,Ty.wb,Ty.yJ,iha.1,ihb.2,VA]
 | arr n t ih=>refine ⟨?_,λ o=>rfl⟩; simp only [Ty.U3,Ty.wb,ih.1]
 | _=>exact ⟨rfl,λ o=>rfl⟩
theorem Bi:∀ t:Ty,t.U3.size=t.size:=by
 intro t
 induction t with
 | pair a b iha ihb=>simp only [Ty.U3,Ty.size,iha,ihb]
 | arr n t ih=>simp only [Ty.U3,Ty.size,ih]
 | _=>rfl
section
variable {P:Program}
theorem Ze:∀ {n:Nat} {T:TypeId} {t:Ty},r8 P n T t.U3=true->r8 P n T t=true:=by
 intro n
 induction n with
 | zero=>intro T t h; simp [r8] at h
 | succ n ih =>
  intro T t h;have gm:∀ (fs:List Field) (off:Nat) (t:Ty),n7 (r8 P n) fs off t.U3=true->n7 (r8 P n) fs off t=true:=by
   intro fs
   induction fs with
   | nil =>
    intro off t h;cases t<;>simp [n7,Ty.U3] at h;rfl
   | cons f fs ihf =>
    intro off t h;cases t<;>simp [n7,Ty.U3] at h;rename_i a b;have h2:=ih h.1.1.2;have h3:=ihf _ _ h.2;rw [Bi] at h h3;simp only [n7,aAa];refine ⟨⟨⟨⟨?_,?_⟩,h2⟩,?_⟩,h3⟩<;>simp [h.1]
  simp only [r8,aAa] at h ⊢;obtain ⟨h1,h2⟩:=h;refine ⟨?_,?_⟩
  ·rw [Bi,(Ot t).1,PD,Ou] at h1; exact h1
  ·cases hu:P.underlying T with
   | none=>simp [hu] at h2
   | some d =>
    cases t with
    | box o g t=>cases g<;>cases d<;>simp only [hu,Ty.U3] at h2 ⊢<;>first|exact (aBa h2).elim|exact h2|exact ih h2|exact gm _ _ _ h2
    | _ =>
     cases d<;>simp only [hu,Ty.U3] at h2 ⊢<;>first|exact (aBa h2).elim|exact h2|exact gm _ _ _ h2|skip
     all_goals (simp only [aAa,Bi] at h2; simp only [aAa]; exact ⟨h2.1,ih h2.2⟩)
theorem Zd:∀ {n:Nat} {T:TypeId} {t:Ty},r8 P n T t=true->r8 P n T t.U3=true:=by
 intro n
 induction n with
 | zero=>intro T t h; simp [r8] at h
 | succ n ih =>
  intro T t h;have gm:∀ (fs:List Field) (off:Nat) (t:Ty),n7 (r8 P n) fs off t=true->n7 (r8 P n) fs off t.U3=true:=by
   intro fs
   induction fs with
   | nil =>
    intro off t h;cases t<;>simp [n7] at h;rfl
   | cons f fs ihf =>
    intro off t h;cases t<;>simp [n7] at h;rename_i a b;have h2:=ih h.1.1.2;have h3:=ihf _ _ h.2;simp only [Ty.U3,n7,aAa,Bi];refine ⟨⟨⟨⟨?_,?_⟩,h2⟩,?_⟩,h3⟩<;>simp [h.1]
  simp only [r8,aAa] at h ⊢;obtain ⟨h1,h2⟩:=h;refine ⟨?_,?_⟩
  ·rw [Bi,(Ot t).1,PD,Ou]; exact h1
  ·cases hu:P.underlying T with
   | none=>simp [hu] at h2
   | some d =>
    cases t with
    | box o g t=>cases g<;>cases d<;>simp only [hu,Ty.U3] at h2 ⊢<;>first|exact (aBa h2).elim|exact h2|exact ih h2|exact gm _ _ _ h2
    | _ =>
     cases d<;>simp only [hu,Ty.U3] at h2 ⊢<;>first|exact (aBa h2).elim|exact h2|exact gm _ _ _ h2|skip
     all_goals (simp only [aAa] at h2; simp only [aAa,Bi]; exact ⟨h2.1,ih h2.2⟩)
theorem EZ:∀ {n:Nat} {T:TypeId} {t u:Ty},u.sh=t.sh->r8 P n T t=true->r8 P n T u=true:=by
 intro n
 induction n with
 | zero=>intro T t u _ h; simp [r8] at h
 | succ n ih =>
  intro T t u hs h;have gm:∀ (fs:List Field) (off:Nat) (t u:Ty),u.sh=t.sh->n7 (r8 P n) fs off t=true->n7 (r8 P n) fs off u=true:=by
   intro fs
   induction fs with
   | nil =>
    intro off t u hs h;cases t<;>simp [n7] at h;cases u<;>simp only [Ty.sh] at hs<;>try cases hs
    rfl
   | cons f fs ihf =>
    intro off t u hs h;cases t<;>simp [n7] at h;rename_i a b;cases u<;>simp only [Ty.sh] at hs<;>try cases hs
    rename_i a' b';simp only [Ty.pair.injEq] at hs;have h2:=ih hs.1 h.1.1.2;have h3:=ihf _ _ _ hs.2 h.2;simp only [n7,H4 hs.1,aAa];refine ⟨⟨⟨⟨?_,?_⟩,h2⟩,?_⟩,h3⟩<;>simp [h.1]
  simp only [r8,aAa] at h ⊢;obtain ⟨h1,h2⟩:=h;refine ⟨?_,?_⟩
  ·rw [H4 hs,VV hs,Ja hs,Nx hs]; exact h1
  ·cases t with
   | pair a b =>
    cases u<;>simp only [Ty.sh] at hs<;>try cases hs
    rename_i a' b';have me:(Ty.pair a' b').sh=(Ty.pair a b).sh:=hs;cases hu:P.underlying T with
    | none=>simp [hu] at h2
    | some d =>
     cases d<;>simp only [hu] at h2 ⊢<;>first|exact (aBa h2).elim|skip
     exact gm _ _ _ _ me h2
   | unit =>
    cases u<;>simp only [Ty.sh] at hs<;>try cases hs
    exact h2
   | arr m t =>
    cases u<;>simp only [Ty.sh] at hs<;>try cases hs
    rename_i m' t';simp only [Ty.arr.injEq] at hs;cases hu:P.underlying T with
    | none=>simp [hu] at h2
    | some d =>
     cases d<;>simp only [hu] at h2 ⊢<;>first|exact (aBa h2).elim|skip
     ·simp only [aAa] at h2 ⊢
      rw [hs.1,H4 hs.2];exact ⟨h2.1,ih hs.2 h2.2⟩
     ·exact gm _ _ _ _ (by simp only [Ty.sh,hs]) h2
   | d0 o t =>
    cases u<;>simp only [Ty.sh] at hs<;>try cases hs
    ·rename_i o' t'
     simp only [Ty.d0.injEq] at hs;cases hu:P.underlying T with
     | none=>simp [hu] at h2
     | some d =>
      cases d<;>simp only [hu] at h2 ⊢<;>first|exact (aBa h2).elim|skip
      ·simp only [aAa] at h2 ⊢
       rw [H4 hs.2];exact ⟨h2.1,ih hs.2 h2.2⟩
      ·exact gm _ _ _ _ (by simp only [Ty.sh,hs]) h2
    ·rename_i t'
     simp only [Ty.d0.injEq] at hs;cases hu:P.underlying T with
     | none=>simp [hu] at h2
     | some d =>
      cases d<;>simp only [hu] at h2 ⊢<;>first|exact (aBa h2).elim|skip
      ·simp only [aAa] at h2 ⊢
       rw [H4 hs.2];exact ⟨h2.1,ih hs.2 h2.2⟩
      ·exact gm _ _ _ _ (by simp only [Ty.sh,hs]) h2
   | hole t =>
    cases u<;>simp only [Ty.sh] at hs<;>try cases hs
    ·rename_i o' t'
     simp only [Ty.d0.injEq] at hs;cases hu:P.underlying T with
     | none=>simp [hu] at h2
     | some d =>
      cases d<;>simp only [hu] at h2 ⊢<;>first|exact (aBa h2).elim|skip
      ·simp only [aAa] at h2 ⊢
       rw [H4 hs.2];exact ⟨h2.1,ih hs.2 h2.2⟩
      ·exact gm _ _ _ _ (by simp only [Ty.sh,hs]) h2
    ·rename_i t'
     simp only [Ty.d0.injEq] at hs;cases hu:P.underlying T with
     | none=>simp [hu] at h2
     | some d =>
      cases d<;>simp only [hu] at h2 ⊢<;>first|exact (aBa h2).elim|skip
      ·simp only [aAa] at h2 ⊢
       rw [H4 hs.2];exact ⟨h2.1,ih hs.2 h2.2⟩
      ·exact gm _ _ _ _ (by simp only [Ty.sh,hs]) h2
   | D4 t =>
    cases u<;>simp only [Ty.sh] at hs<;>try cases hs
    rename_i t';simp only [Ty.D4.injEq] at hs;cases hu:P.underlying T with
    | none=>simp [hu] at h2
    | some d =>
     cases d<;>simp only [hu] at h2 ⊢<;>first|exact (aBa h2).elim|skip
     ·simp only [aAa] at h2 ⊢
      rw [H4 hs];exact ⟨h2.1,ih hs h2.2⟩
     ·exact gm _ _ _ _ (by simp only [Ty.sh,hs]) h2
   | map o k v =>
    cases u<;>simp only [Ty.sh] at hs<;>try cases hs
    cases hu:P.underlying T with
    | none=>simp [hu] at h2
    | some d =>
     cases d<;>simp only [hu] at h2 ⊢<;>first|exact (aBa h2).elim|exact h2|skip
     ·exact gm _ _ (.map o k v) _ rfl h2
   | box o g t =>
    cases u<;>simp only [Ty.sh] at hs<;>try cases hs
    rename_i o' g' t';simp only [Ty.box.injEq] at hs;obtain ⟨_,rfl,hs⟩:=hs;cases hu:P.underlying T with
    | none=>simp [hu] at h2
    | some d =>
     cases g'<;>cases d<;>simp only [hu] at h2 ⊢<;>first|exact (aBa h2).elim|exact ih hs h2|exact gm _ _ _ _ (by simp only [Ty.sh,hs]) h2|trivial
   | _ =>
    cases u<;>simp only [Ty.sh] at hs<;>try cases hs
    exact h2
theorem Oa:∀ {a b:Value},eqS a b=true->a=b:=by
 intro a b h;unfold eqS at h;split at h
 ·simp at h; rw [h.1,h.2]
 ·simp at h; rw [h]
 ·rename_i a b
  cases a; cases b;simp at h;rw [h.1,h.2]
 ·rename_i a b c d
  simp only [aAa] at h;have h1:=aAe h.1;have h2:=aAe h.2;rw [h1,h2]
 ·rfl
 ·rfl
 ·rfl
 ·cases h
theorem NZ:∀ {a b:List Value},eqL a b=true->a=b
 | [],[],_=>rfl
 | a::l,b::m,h=>by
  simp only [eqL,aAa] at h;rw [Oa h.1,NZ h.2]
 | [],_::_,h=>by simp [eqL] at h
 | _::_,[],h=>by simp [eqL] at h
theorem Xh {a b:Value} (h:eqV a b=true):a=b:=by
 unfold eqV at h;split at h
 ·rename_i a b
  have:=NZ h;rw [show a=b from Array.toList_inj.1 this]
 ·exact Oa h
theorem Y3 {n:Nat} {T:TypeId} {t:Ty} (h:r8 P n T t=true):∃ i,P.info? T=some i/\i.size=t.size/\i.zero=some (s5 t (zc t)):=by
 cases n with
 | zero=>simp [r8] at h
 | succ n =>
  simp only [r8,aAa] at h;obtain ⟨h1,_⟩:=h;split at h1
  ·rename_i i hi
   simp only [aAa] at h1;refine ⟨i,hi,aAe h1.1.1,?_⟩;have h1:=h1.2;split at h1
   ·rename_i z hz; rw [hz,Xh h1]
   ·cases h1
  ·cases h1
theorem Mb {n:Nat} {T:TypeId} {t:Ty} (h:r8 P n T t=true) {i:TypeInfo} (hi:P.info? T=some i):i.bytes=t.wb:=by
 cases n with
 | zero=>simp [r8] at h
 | succ n =>
  simp only [r8,aAa] at h;have h1:=h.1;rw [hi] at h1;simp only [aAa] at h1;exact aAe h1.1.2
theorem T4 {n:Nat} {T:TypeId} {t:Ty} (h:r8 P n T t=true):∃ d,P.underlying T=some d/\t.agg=(match d with|.struct _=>true|.array _ _=>true|_=>false):=by
 cases n with
 | zero=>simp [r8] at h
 | succ n =>
  simp only [r8,aAa] at h;obtain ⟨_,h2⟩:=h;cases hu:P.underlying T with
  | none=>simp [hu] at h2
  | some d =>
   refine ⟨d,rfl,?_⟩;cases d<;>simp only [hu] at h2
   case struct fs =>
    cases hf:fs.toList with
    | nil=>rw [hf] at h2; cases t<;>simp [n7] at h2; rfl
    | cons f l=>rw [hf] at h2; cases t<;>simp [n7] at h2; rfl
   all_goals cases t<;>first|rfl|(exact (aBa h2).elim)
variable {w:World}
theorem run_sizeOf {n:Nat} {T:TypeId} {t:Ty} (h:r8 P n T t=true):(sizeOf T).run P w=.ok t.size w:=by
 obtain ⟨i,h1,h2,_⟩:=Y3 h;simp [sizeOf,typeInfo,program,Sem.run,h1,h2]
theorem CJ {n:Nat} {T:TypeId} {t:Ty} (h:r8 P n T t=true):(zeroValue T).run P w=.ok (s5 t (zc t)) w:=by
 obtain ⟨i,h1,_,h3⟩:=Y3 h;simp [zeroValue,typeInfo,program,Sem.run,h1,h3]
theorem x8 {T:TypeId} {d:TypeDesc} (h:P.underlying T=some d):(underlying T).run P w=.ok d w:=by
 simp [underlying,program,Sem.run,h]
theorem LA {n:Nat} {T:TypeId} {t:Ty} (h:r8 P n T t=true):(isAgg T).run P w=.ok t.agg w:=by
 obtain ⟨d,h1,h2⟩:=T4 h;rw [h2];simp only [isAgg,Sem.run_bind,x8 h1,Result.andThen];cases d<;>rfl
end
section
variable {H:Array Go.Obj} {S:Nat->Prop}
theorem i6.w5:∀ t:Ty,i6 H S t [] (zc t) t.w5:=by
 intro t
 induction t with
 | int k=>exact ⟨rfl,rfl,by unfold w4; cases k<;>decide⟩
 | bool=>exact ⟨rfl,rfl⟩
 | str=>exact ⟨rfl,rfl,aAr _⟩
 | unit=>exact ⟨rfl,rfl⟩
 | fn f=>exact ⟨rfl,rfl⟩
 | hole t _=>exact ⟨rfl,_,rfl,rfl⟩
 | D4 t _=>exact .inl ⟨rfl,⟨none,0,rfl,λ _=>rfl⟩,rfl⟩
 | map o k v=>exact .inl ⟨rfl,rfl,rfl⟩
 | box o g t=>exact .inl ⟨rfl,rfl,rfl⟩
 | pair a b iha ihb =>
  refine ⟨[],[],rfl,?_,?_⟩
  ·simp only [zc,<- T5 a,aDd]; exact iha
  ·simp only [zc,<- T5 a,aEu]; exact ihb
 | arr n t ih =>
  refine ⟨by simp [Ty.w5],?_⟩;simp only [Ty.w5,zc]
  induction n with
  | zero=>exact ⟨rfl,rfl⟩
  | succ n ihn =>
   refine ⟨[],[],rfl,?_,?_⟩
   ·rw [aEa,aEl,aDd (T5 t)]; exact ih
   ·rw [aEa,aEl,aEu (T5 t)]; exact ihn
 | d0 o t _=>exact .inl ⟨rfl,⟨none,0,rfl,λ _=>rfl⟩,rfl⟩
theorem c3R {t:Ty} {cs:List Value} (h:cs.length=t.size) (hn:∀ c∈cs,∀ a,c≠.agg a):(s5 t cs).cells=cs.toArray:=by
 unfold s5
 split
 ·rfl
 ·rename_i hg
  have:cs.length=1:=by rw [h]; cases t<;>simp_all [Ty.agg,Ty.size]
  match cs,this with
  | [c],_ =>
   simp only [List.headD_cons];have:=hn c (by simp);cases c<;>simp_all [Value.cells]
def Plain (v:Value):Prop:=v.oneCell'=true/\∀ a,v≠.agg a
theorem j5.plain {α:Type} {R:List Nat->List Value->α->Prop} {sz:Nat} (hR:∀ O cs x,R O cs x->∀ c∈cs,Plain c):∀ {l:List α} {O:List Nat} {cs:List Value},j5 R sz O cs l->∀ c∈cs,Plain c
 | [],_,_,⟨_,h⟩=>by rw [h]; simp
 | _::_,_,cs,⟨O1,O2,_,h1,h2⟩=>by
  intro c hc;rw [<- aBy sz cs] at hc;rcases aAi.1 hc with h|h
  ·exact hR _ _ _ h1 c h
  ·exact j5.plain hR h2 c h
theorem i6.plain:∀ {t:Ty} {O:List Nat} {cs:List Value} {x:t.den},i6 H S t O cs x->∀ c∈cs,Plain c:=by
 intro t
 induction t with
 | int k=>rintro O cs x ⟨_,rfl,_⟩ c hc; simp at hc; subst hc; exact ⟨rfl,by simp⟩
 | bool=>rintro O cs x ⟨_,rfl⟩ c hc; simp at hc; subst hc; exact ⟨rfl,by simp⟩
 | str=>rintro O cs x ⟨_,rfl,_⟩ c hc; simp at hc; subst hc; exact ⟨rfl,by simp⟩
 | unit=>rintro O cs x ⟨_,rfl⟩ c hc; simp at hc
 | fn f =>
  rintro O cs x ⟨_,rfl⟩ c hc;simp at hc; subst hc;cases x with
  | true=>exact ⟨rfl,by simp [fnV]⟩
  | false =>
   unfold fnV;dsimp only
   split<;>exact ⟨rfl,by simp⟩
 | hole t _ =>
  rintro O cs x ⟨_,v,rfl,hv⟩ c hc;simp at hc; subst hc;cases c<;>first|exact ⟨rfl,by simp⟩|exact absurd hv (by simp [Ea])
 | D4 t _ =>
  rintro O cs ⟨n,l,m⟩ h c hc
  match n,h with
  | 0,h=>rcases h with ⟨_,⟨_,_,rfl,_⟩,_⟩|⟨b,off,cap,O',rfl,_⟩<;>(simp at hc; subst hc; exact ⟨rfl,by simp⟩)
  | 1,h=>rcases h with ⟨_,⟨_,_,rfl,_⟩,_⟩|⟨b,off,cap,O',rfl,_⟩<;>(simp at hc; subst hc; exact ⟨rfl,by simp⟩)
  | n+2,⟨b,off,O',h1,_⟩=>rw [h1] at hc; simp at hc; subst hc; exact ⟨rfl,by simp⟩
 | map o k v =>
  rintro O cs x (⟨_,_,rfl⟩|⟨l,b,es,ck,_,rfl,_⟩) c hc<;>(simp at hc; subst hc; exact ⟨rfl,by simp⟩)
 | box o g t =>
  rintro O cs x (⟨_,_,rfl⟩|⟨y,b,off,O',_,rfl,_⟩) c hc<;>(simp at hc; subst hc; cases g<;>exact ⟨rfl,by simp [xG,DO]⟩)
 | pair a b iha ihb =>
  rintro O cs x ⟨O1,O2,_,h1,h2⟩ c hc;rw [<- aBy a.size cs] at hc;rcases aAi.1 hc with h|h
  ·exact iha h1 c h
  ·exact ihb h2 c h
 | arr n t ih=>rintro O cs x ⟨_,h⟩; exact j5.plain (λ _ _ _ h=>ih h) h
 | d0 o t _ =>
  rintro O cs x h c hc;rcases h with ⟨_,⟨_,_,rfl,_⟩,_⟩|⟨b,off,cap,O',rfl,_⟩<;>(simp at hc; subst hc; exact ⟨rfl,by simp⟩)
theorem i6.cells {t:Ty} {O:List Nat} {cs:List Value} {x:t.den} (h:i6 H S t O cs x):(s5 t cs).cells=cs.toArray :=
 c3R h.length λ c hc=>(h.plain c hc).2
end
end Go.Ex
