import Derived.Test.YtijlnmgondibnaaGreatDoorExK1
import Derived.Laws.Entries
set_option linter.unusedVariables false
set_option linter.unusedSimpArgs false
set_option linter.unusedSectionVars false
namespace Go.Ex
def look {α:Type _} (n:Nat):List (Nat×α)->Option α
 | []=>none
 | (m,x)::l=>match Nat.beq n m with|true=>some x|false=>look n l
def put {α:Type _} (n:Nat) (x:α) (l:List (Nat×α)):List (Nat×α) :=
 match l with
 | []=>[(n,x)]
 | (m,y)::l=>match Nat.beq n m with
  | true=>(n,x)::l
  | false=>match Nat.blt n m with
   | true=>(n,x)::(m,y)::l
   | false=>(m,y)::put n x l
def del {α:Type _} (n:Nat):List (Nat×α)->List (Nat×α)
 | []=>[]
 | (m,y)::l=>match Nat.beq n m with|true=>del n l|false=>(m,y)::del n l
structure TI where
 ty:Ty
 by_:Nat
def zc:Ty->List Value
 | .int k=>[.int k 0]
 | .bool=>[.bool false]
 | .str=>[.string ⟨#[]⟩]
 | .unit=>[]
 | .fn f=>[fnV f false]
 | .map _ _ _=>[.map none]
 | .box _ g _=>[Dh g]
 | .pair a b=>zc a++zc b
 | .arr n t=>(List.replicate n (zc t)).flatten
 | .d8 _ _|.hole _|.C6 _=>[.slice none 0 0]
def eqS:Value->Value->Bool
 | .int k n,.int k' n'=>decide (k=k') && decide (n=n')
 | .bool a,.bool b=>a == b
 | .string a,.string b=>a.data.size == 0 && b.data.size == 0
 | .slice none a b,.slice none c d=>Nat.beq a c && Nat.beq b d
 | .nilFunc,.nilFunc=>true
 | .map none,.map none=>true
 | .pointer none,.pointer none=>true
 | _,_=>false
def eqL:List Value->List Value->Bool
 | [],[]=>true
 | a::l,b::m=>eqS a b && eqL l m
 | _,_=>false
def eqV:Value->Value->Bool
 | .agg a,.agg b=>eqL a.toList b.toList
 | a,b=>eqS a b
def Ty.al:Ty->Nat
 | .int k=>k.bits / 8
 | .bool=>1
 | .str|.d8 _ _|.fn _|.map _ _ _|.box _ _ _|.hole _|.C6 _=>8
 | .unit=>1
 | .pair a b=>Nat.max a.al b.al
 | .arr _ t=>t.al
def rup (n a:Nat):Nat:=(n+(a - 1)) / a*a
mutual
def Ty.wb:Ty->Nat
 | .int k=>k.bits / 8
 | .bool=>1
 | .str=>16
 | .d8 _ _|.hole _|.C6 _=>24
 | .fn _=>8
 | .map _ _ _=>8
 | .box _ _ _=>8
 | .unit=>0
 | .pair a b=>rup (b.yd (rup 0 a.al+a.wb)) (Nat.max a.al b.al)
 | .arr n t=>n*t.wb
def Ty.yd:Ty->Nat->Nat
 | .pair a b,o=>b.yd (rup o a.al+a.wb)
 | _,o=>o
end
def n7 (ck:TypeId->Ty->Bool):List Field->Nat->Ty->Bool
 | [],_,.unit=>true
 | f::fs,off,.pair a b=>Nat.beq f.offset off && Nat.ble 1 a.size && ck f.type a && f.name != "_" && n7 ck fs (off+a.size) b
 | _,_,_=>false
def p9 (P:Program):Nat->TypeId->Ty->Bool
 | 0,_,_=>false
 | n+1,T,t =>
  (match P.info? T with
  | some i=>Nat.beq i.size t.size && Nat.beq i.bytes t.wb && (match i.zero with|some z=>eqV z (s5 t (zc t))|none=>false)
  | none=>false) &&
  match P.underlying T,t with
  | some .bool,.bool=>true
  | some (.int k),.int k'=>decide (k=k')
  | some .string,.str=>true
  | some (.func _ _ _),.fn _=>true
  | some (.map K V),.map _ k v=>k.shared && v.shared && p9 P n K k && p9 P n V v
  | some (.pointer e),.box _ none t=>p9 P n e t
  | some (.func _ _ _),.box _ (some _) _=>true
  | some (.struct fs),t=>n7 (p9 P n) fs.toList 0 t
  | some (.array m e),.arr m' t=>Nat.beq m m' && Nat.ble 1 t.size && p9 P n e t
  | some (.slice e),.d8 _ t=>Nat.ble 1 t.size && p9 P n e t
  | some (.slice e),.hole t=>Nat.ble 1 t.size && p9 P n e t
  | some (.slice e),.C6 t=>Nat.ble 1 t.size && p9 P n e t
  | _,_=>false
def xr (P:Program) (x:TypeId×TI):Bool:=p9 P 100 x.1 x.2.ty && Nat.beq (P.bytesOf x.1) x.2.by_
inductive AV where
 | any
 | raw (v:Value)
 | val (t:Ty) (x:t.den)
 | ptr (i:Nat) (p:List Step)
 | P8 (t:Ty) (x:t.den)
 | at_ (i:Nat) (p:List Step)
 | sub (i:Nat) (p:List Step) (lo hi:Int)
 | nil
 | cons (a b:AV)
 | M2 (l:AV)
 | D3 (f:FuncId) (l:AV)
 | bx (l:AV)
 | rc (f:FuncId) (l:AV)
inductive i7 where
 | var (t:Ty) (x:t.den)
 | own (t:Ty) (x:t.den)
 | M3
def i7.ty:i7->Ty|.var t _=>t|.own t _=>t|.M3=>.unit
def i7.x:(e:i7)->e.ty.den|.var _ x=>x|.own _ x=>x|.M3=>()
def i7.E8 (e:i7) (r:Sigma Ty.den):i7:=match e with|.var _ _=>.var r.1 r.2|.own _ _=>.own r.1 r.2|.M3=>.M3
def i7.vu:i7->Bool|.own _ _=>true|_=>false
def i7.kd (e:i7):Bool×Ty:=(e.vu,e.ty)
structure St where
 fr:List (Nat×AV)
 hp:List (Nat×i7)
def St.get (s:St) (t:Nat):AV:=(look t s.fr).getD .any
def St.obj (s:St) (i:Nat):Option i7:=look i s.hp
def St.put (s:St) (d:Option Nat) (v:AV):St :=
 match d with
 | some t=>{ s with fr:=Ex.put t v s.fr }
 | none=>s
def AV.j5 (i:Nat):AV->Bool
 | .ptr j _|.at_ j _|.sub j _ _ _=>Nat.beq i j
 | .cons a b=>a.j5 i || b.j5 i
 | .M2 l|.D3 _ l|.bx l|.rc _ l=>l.j5 i
 | _=>false
def AV.map (f:AV->AV):AV->AV
 | .ptr j p=>f (.ptr j p)
 | .at_ j p=>f (.at_ j p)
 | .sub j p a b=>f (.sub j p a b)
 | .cons a b=>.cons (a.map f) (b.map f)
 | .M2 l=>.M2 (l.map f)
 | .D3 g l=>.D3 g (l.map f)
 | .bx l=>.bx (l.map f)
 | .rc g l=>.rc g (l.map f)
 | v=>v
def AV.drop (i:Nat):AV->AV:=AV.map λ v=>match v.j5 i with|true=>.any|false=>v
def AV.Bg (i:Nat) (ow:Bool×Ty) (q:List Step) (v:AV):AV :=
 match v.j5 i with
 | false=>v
 | true=>match v with
  | .ptr j p=>match kp q p with|true=>.ptr j p|false=>.any
  | .at_ j []=>match ow.1,q with
   | true,.idx _::_=>.at_ j []
   | _,_=>match kc ow.2 q [] with|true=>.at_ j []|false=>.any
  | .at_ j (st::p)=>match kc ow.2 q (st::p) && kp q (st::p) with|true=>.at_ j (st::p)|false=>.any
  | .sub j [] a b=>match ow.1,q with
   | true,.idx _::_=>.sub j [] a b
   | _,_=>.any
  | _=>.any
def AV.kill (i:Nat) (ow:Bool×Ty) (q:List Step):AV->AV:=AV.map (AV.Bg i ow q)
def mapA {α:Type _} (f:α->α):List (Nat×α)->List (Nat×α)
 | []=>[]
 | (n,x)::l=>(n,f x)::mapA f l
def St.drop (i:Nat) (s:St):St:={ fr:=mapA (AV.drop i) s.fr,hp:=del i s.hp }
def St.kill (i:Nat) (ow:Bool×Ty) (q:List Step) (s:St):St:={ s with fr:=mapA (AV.kill i ow q) s.fr }
def St.B0:List Nat->St->St
 | [],s=>s
 | i::l,s=>St.B0 l (s.drop i)
def St.y9 (s:St) (i:Nat) (e:i7):St:={ s with hp:=Ex.put i e s.hp }
def we (i:Nat):List (Nat×AV)->Bool
 | []=>true
 | (_,v)::l=>!v.j5 i && we i l
def St.fresh (s:St) (i:Nat):Bool:=(look i s.hp).isNone && we i s.fr
inductive PK where
 | v (t:Ty)
 | rd (t:Ty)
 | D3 (f:FuncId) (ts:List Ty)
 | own (t:Ty)
 | rw (t:Ty)
 | mu (t:Ty)
 | W3
 | rcs (f:FuncId) (n:Nat)
 | el (q:List Step)
def DL:List Ty->Type
 | []=>Unit
 | t::ts=>t.den×DL ts
def PK.den:PK->Type
 | .v t=>t.den
 | .rd t=>t.den
 | .D3 _ ts=>DL ts
 | .own t=>t.den
 | .rw t=>t.den
 | .mu t=>List t.den
 | .W3=>Unit
 | .rcs _ _=>Unit
 | .el _=>Int
def DK:List PK->Type
 | []=>Unit
 | k::ks=>k.den×DK ks
def F6:List PK->List Ty
 | []=>[]
 | .rw t::ks=>t::F6 ks
 | .mu t::ks=>.d8 true t::F6 ks
 | _::ks=>F6 ks
def DL.app:{a b:List Ty}->DL a->DL b->DL (a++b)
 | [],_,_,y=>y
 | _::_,_,x,y=>(x.1,DL.app x.2 y)
structure r9 where
 ps:List PK
 rs:List Ty
 pre:DK ps->Prop
 fn:DK ps->DL rs
 out:DK ps->DL (F6 ps)
 new:Bool:=false
structure Env where
 P:Program
 tt:List (TypeId×TI)
 E4:List (FuncId×r9)
 res:List ResultVar
 rs:List Ty
 ps:List PK
 D5:List (Nat×List (Nat×Option Ty))
 nt:Nat
 keeps:List (FuncId×List (Option Nat)):=[]
 gp:Option (List Step):=none
inductive Tree (rs:List Ty) where
 | f9 (p:Prop) (t:Tree rs)
 | both (p:Prop) (a b:Tree rs)
 | cut (c:Code) (k:List Item) (s:St)
 | ret (y:DL rs)
 | stuck (why:String)
def Tree.holds {rs:List Ty} (L:Code->List Item->St->Prop) (R:DL rs->Prop):Tree rs->Prop
 | .f9 p t=>p/\(p->t.holds L R)
 | .both p a b=>(p->a.holds L R)/\b.holds L R
 | .cut c k s=>L c k s
 | .ret y=>R y
 | .stuck _=>False
inductive OR where
 | fail (why:String)
 | ok (v:AV) (s:St)
 | G6 (p:Prop) (v:AV) (s:St)
theorem F7:∀ t:Ty,t.sh.den=t.den:=by
 intro t
 induction t with
 | pair a b iha ihb=>simp only [Ty.sh,Ty.den,iha,ihb]
 | arr n t ih=>simp only [Ty.sh,Ty.den,ih]
 | d8 o t ih=>simp only [Ty.sh,Ty.den,ih]
 | hole t ih=>simp only [Ty.sh,Ty.den,ih]
 | C6 t ih=>simp only [Ty.sh,Ty.den,ih]
 | box o g t ih=>simp only [Ty.sh,Ty.den,ih]
 | _=>rfl
theorem BQ:∀ t:Ty,t.shH.den=t.den:=by
 intro t
 induction t with
 | pair a b iha ihb=>simp only [Ty.shH,Ty.den,iha,ihb]
 | d8 o t ih=>simp only [Ty.shH,Ty.den,F7]
 | C6 t ih=>simp only [Ty.shH,Ty.den,F7]
 | arr n t ih=>simp only [Ty.shH,Ty.den,F7]
 | box o g t ih=>simp only [Ty.shH,Ty.den,F7]
 | _=>rfl
def AV.as (t:Ty):AV->Option t.den
 | .val u x=>if h:u=t then some (h▸x) else none
 | .raw (.slice none 0 0)=>match t with
  | .d8 _ _=>some []
  | _=>none
 | _=>none
def St.part (s:St) (i:Nat) (p:List Step):Option (Sigma Ty.den) :=
 match s.obj i with
 | some e=>j9 e.ty e.x p
 | none=>none
def Ty.rdT:Ty->Ty
 | .pair a b=>.pair a.rdT b.rdT
 | .arr n t=>.arr n t.rdT
 | .d8 _ t=>.d8 false t.rdT
 | .C6 t=>.d8 false t.sh
 | t=>t.sh
def Ty.okM:Ty->Bool
 | .pair a b=>a.okM && b.okM
 | .arr _ t=>t.okM
 | .d8 _ t=>t.okM
 | .C6 t=>t.W0
 | t=>t.W0
theorem Ir:∀ t:Ty,t.W0=true->t.rdT=t.sh:=by
 intro t
 induction t with
 | pair a b iha ihb=>intro h; simp only [Ty.W0,Bool.and_eq_true] at h; simp only [Ty.rdT,Ty.sh,iha h.1,ihb h.2]
 | arr n t ih=>intro h; simp only [Ty.rdT,Ty.sh,ih h]
 | d8 o t ih=>intro h; simp only [Ty.rdT,Ty.sh,ih h]
 | C6 t ih=>intro h; cases h
 | _=>intro h; rfl
theorem xL {t:Ty} (h:t.W0=true):t.den=t.rdT.den:=by rw [Ir t h,F7]
def rdV:(t:Ty)->t.den->t.rdT.den
 | .pair a b,x=>(rdV a x.1,rdV b x.2)
 | .arr _ t,l=>if h:t.W0=true then cast (congrArg List (xL h)) l else List.map (rdV t) l
 | .d8 _ t,l=>if h:t.W0=true then cast (congrArg List (xL h)) l else List.map (rdV t) l
 | .C6 t,x=>cast (congrArg List (F7 t).symm) x.2.1
 | .int _,x=>x
 | .bool,x=>x
 | .str,x=>x
 | .unit,x=>x
 | .fn _,x=>x
 | .map _ _ _,x=>x
 | .box _ _ t,x=>cast (congrArg Option (F7 t).symm) x
 | .hole t,x=>cast (congrArg List (F7 t).symm) x
def shF (n:Nat):Nat:=match n with|0=>0|1=>0|_=>3
def rdS (a t:Ty) (x:(Ty.C6 a).den):Option t.den :=
 match t with
 | .C6 b=>if h:a.sh=b then (match a.W0 with
  | true=>some (shF x.1,h▸cast (congrArg List (F7 a).symm) x.2.1,h▸cast (congrArg List (F7 a).symm) x.2.2)
  | false=>none) else none
 | _=>none
def rdM (t:Ty) (u:Ty) (y:u.den):Option t.den :=
 match u.okM with
 | true=>if h:u.rdT=t then some (h▸rdV u y) else (match u,y with
  | .C6 a,y=>rdS a t y
  | _,_=>none)
 | false=>none
def xE (t:Ty) (r:Option (Sigma Ty.den)):Option t.den :=
 match r with
 | some ⟨u,y⟩=>match u.okH with
  | true=>if h:u.shH=t then some (cast ((BQ u).symm.trans (congrArg Ty.den h)) y) else none
  | false=>rdM t u y
 | none=>none
def xC (u:Ty) (r:Sigma Ty.den):Sigma Ty.den :=
 match u,r with
 | .C6 a,⟨.d8 true b,z⟩=>if h:b=a then ⟨.C6 a,(1,h▸z,[])⟩ else ⟨.d8 true b,z⟩
 | .C6 a,⟨.d8 false b,z⟩=>if h:b=a then ⟨.C6 a,(0,h▸z,[])⟩ else ⟨.d8 false b,z⟩
 | _,r=>r
def Ty.zR:Ty->Bool
 | .C6 _=>true
 | .pair a b=>a.zR || b.zR
 | _=>false
def Q8:Ty->Sigma Ty.den->Sigma Ty.den
 | .C6 a,r=>xC (.C6 a) r
 | .pair a b,r=>match a.zR || b.zR,r with
  | true,⟨.pair c d,z⟩=>(match Q8 a ⟨c,z.1⟩,Q8 b ⟨d,z.2⟩ with
   | ⟨c',x⟩,⟨d',y⟩=>⟨.pair c' d',(x,y)⟩)
  | _,r=>r
 | _,r=>r
def St.vA (s:St) (t:Ty) (i:Nat) (p:List Step):Option t.den:=xE t (s.part i p)
def o5 {α:Type} (lo hi:Int) (l:List α):List α:=(l.drop lo.toNat).take (hi - lo).toNat
def St.view (s:St) (i:Nat) (p:List Step) (lo hi:Int):Option (Sigma λ t:Ty=>List t.den) :=
 match s.part i p with
 | some ⟨.d8 _ t,l⟩=>some ⟨t,o5 lo hi l⟩
 | some ⟨.arr _ t,l⟩=>some ⟨t,o5 lo hi l⟩
 | _=>none
def AV.asV (s:St) (t:Ty):AV->Option t.den
 | .at_ i p=>s.vA t i p
 | .sub i p lo hi=>match s.view i p lo hi with
  | some ⟨u,l⟩=>xE t (some ⟨.d8 true u,l⟩)
  | none=>none
 | .val u x=>if h:u=t then some (h▸x) else xE t (some ⟨u,x⟩)
 | v=>v.as t
def AV.asR (s:St) (t:Ty):AV->Option t.den
 | .ptr i p=>s.vA t i p
 | .P8 u x=>if h:u=t then some (h▸x) else none
 | .bx (.ptr i p)=>match t with
  | .box false none u=>(match s.vA u i p with
   | some x=>some (some x)
   | none=>none)
  | _=>none
 | _=>none
def AV.xY (s:St):(ts:List Ty)->AV->Option (DL ts)
 | [],.nil=>some ()
 | t::ts,.cons a b=>match a.asR s t,AV.xY s ts b with
  | some x,some y=>some (x,y)
  | _,_=>none
 | _,_=>none
def X3 {u t:Ty} (h:u=t) (x:u.den):t.den:=h▸x
def AV.vg (s:St):AV->Option (Sigma Ty.den×List Nat)
 | .val t x=>some (⟨t,x⟩,[])
 | .at_ i []=>match s.obj i with
  | some (.own t x)=>some (⟨t,x⟩,[i])
  | _=>none
 | .sub i [] lo hi=>match s.obj i with
  | some (.own (.d8 true t) x)=>some (⟨.d8 true t,o5 lo hi x⟩,[i])
  | _=>none
 | _=>none
def AV.vC (s:St) (v:AV):Option (Sigma Ty.den×List Nat) :=
 match v with
 | .at_ i []=>match s.obj i with
  | some (.var t x)=>some (⟨t,x⟩,[i])
  | _=>(AV.at_ i []).vg s
 | .D3 f .nil=>some (⟨.fn f,true⟩,[])
 | v=>v.vg s
def AV.R5 (s:St) (k:PK) (v:AV):Option (k.den×List Nat×List Nat) :=
 match k with
 | .v t=>match v.asV s t with|some x=>some (x,[],[])|none=>none
 | .rd t=>match v.asR s t with|some x=>some (x,[],[])|none=>none
 | .D3 f ts=>match v with
  | .D3 g l=>match Nat.beq f g with
   | true=>match AV.xY s ts l with|some x=>some (x,[],[])|none=>none
   | false=>none
  | _=>none
 | .W3=>match v with
  | .raw (.slice none 0 0)=>some ((),[],[])
  | _=>none
 | .own t=>match v with
  | .raw (.slice none 0 0)=>match v.as t with|some x=>some (x,[],[])|none=>none
  | v=>match v.vC s with
   | some (⟨u,x⟩,l)=>if h:u=t then some (X3 h x,l,[]) else none
   | none=>none
 | .rw t=>match v with
  | .ptr i []=>match s.obj i with
   | some (.var u x)=>if h:u=t then some (X3 h x,[],[i]) else none
   | _=>none
  | _=>none
 | .mu t=>match v with
  | .at_ i []=>match s.obj i with
   | some (.own u x)=>if h:u=.d8 true t then some (X3 h x,[],[i]) else none
   | _=>none
  | _=>none
 | .rcs _ _=>none
 | .el _=>none
def AV.vk (s:St):(ks:List PK)->AV->Option (DK ks×List Nat×List Nat)
 | [],.nil=>some ((),[],[])
 | k::ks,.cons a b=>match a.R5 s k,AV.vk s ks b with
  | some (x,g,m),some (y,g',m')=>some ((x,y),g++g',m++m')
  | _,_=>none
 | _,_=>none
def AV.I1:AV->List Nat
 | .at_ i _|.ptr i _|.sub i _ _ _=>[i]
 | .cons a b=>a.I1++b.I1
 | .M2 l|.D3 _ l|.bx l|.rc _ l=>l.I1
 | _=>[]
def Ty.K2:Ty->Bool
 | .pair a b=>a.K2 && b.K2
 | .arr _ t=>t.K2
 | .d8 o t=>o && t.K2
 | .map o k v=>o && k.K2 && v.K2
 | .box o _ t=>o && t.K2
 | .C6 _=>false
 | _=>true
def AV.lst:AV->Bool
 | .nil=>true
 | .cons _ b=>b.lst
 | _=>false
def AV.app:AV->AV->AV
 | .cons a b,l=>.cons a (b.app l)
 | _,l=>l
def P7 (d j:Nat):Nat:=d+1000*(j+1)
def vH (t:Ty) (x:t.den) (i:Nat):i7×AV :=
 match t,x with
 | .box true none u,some y=>(.var u y,.ptr i [])
 | .box true (some f) u,some y=>(.var u y,.D3 f (.cons (.ptr i []) .nil))
 | t,x=>(.own t x,.at_ i [])
def Y6:(ts:List Ty)->DL ts->Nat->Nat->List (Nat×i7)->Option (AV×List (Nat×i7))
 | [],_,_,_,hp=>some (.nil,hp)
 | t::ts,x,d,j,hp =>
  match t.shared with
  | true=>match Y6 ts x.2 d (j+1) hp with
   | some (l,cK)=>some (.cons (.val t x.1) l,cK)
   | none=>none
  | false=>match look (P7 d j) hp with
   | some _=>none
   | none=>match Y6 ts x.2 d (j+1) (Ex.put (P7 d j) (vH t x.1 (P7 d j)).1 hp) with
    | some (l,cK)=>some (.cons (vH t x.1 (P7 d j)).2 l,cK)
    | none=>none
def AV.one:AV->AV
 | .cons a .nil=>a
 | l=>.M2 l
def xN (d:Nat):Nat->List (Nat×AV)->Bool
 | 0,_=>true
 | j+1,fr=>we (P7 d j) fr && xN d j fr
def wI:List Nat->Bool
 | []=>true
 | a::l=>!l.contains a && wI l
def Dx:List Nat->List Nat->Bool
 | [],_=>true
 | a::l,m=>!m.contains a && Dx l m
def Am (d:Nat):Nat->List (Nat×i7)->Bool
 | 0,_=>true
 | j+1,hp=>(look (P7 d j) hp).isNone && Am d j hp
def pinned (i:Nat):Bool:=Nat.ble 2000000 i
def xt:List Step->Bool
 | []=>true
 | .l8 _::p=>xt p
 | .idx _::_=>false
def AV.xI (i:Nat) (ow:Bool) (v:AV):AV :=
 match v.j5 i with
 | false=>v
 | true=>match v with
  | .ptr j p=>match xt p with|true=>.ptr j p|false=>.any
  | .at_ j []=>match ow with|true=>.at_ j []|false=>.any
  | .sub j [] a b=>match ow with|true=>.sub j [] a b|false=>.any
  | _=>.any
def St.Z9 (i:Nat) (ow:Bool) (s:St):St:={ s with fr:=mapA (AV.map (AV.xI i ow)) s.fr }
def wr (ks:List PK) (y:DL (F6 ks)) (m:List Nat) (s:St):Option St :=
 match ks,y,m with
 | [],_,[]=>some s
 | .rw t::ks,y,[i]=>match F6 ks with
  | []=>some ((s.Z9 i false).y9 i (.var t y.1))
  | _=>none
 | .mu t::ks,y,[i]=>match F6 ks with
  | []=>some ((s.Z9 i true).y9 i (.own (.d8 true t) y.1))
  | _=>none
 | .v _::ks,y,m=>wr ks y m s
 | .rd _::ks,y,m=>wr ks y m s
 | .D3 _ _::ks,y,m=>wr ks y m s
 | .own _::ks,y,m=>wr ks y m s
 | .W3::ks,y,m=>wr ks y m s
 | .rcs _ _::ks,y,m=>wr ks y m s
 | .el _::ks,y,m=>wr ks y m s
 | _,_,_=>none
def T6 (E:Env) (f:FuncId) (args:AV) (dst:Option Nat) (s:St):OR :=
 match look f E.E4 with
 | none=>.fail "call: no contract"
 | some c=>match AV.vk s c.ps args with
  | none=>.fail "call: arguments"
  | some (x,g,m)=>match wI (g++m) && Dx (g++m) (loose c.ps args) && (g.all λ i=>!pinned i) && (((c.rs.all Ty.K2 || c.new) && (F6 c.ps).all Ty.K2) || (match loose c.ps args with|[]=>true|_=>false)) && (xN (dst.getD 0) c.rs.length s.fr && Am (dst.getD 0) c.rs.length s.hp) with
   | false=>.fail "call: objects"
   | true=>match wr c.ps (c.out x) m (St.B0 g s) with
    | none=>.fail "call: writing"
    | some s=>match xN (dst.getD 0) c.rs.length s.fr with
     | false=>.fail "call: names"
     | true=>match Y6 c.rs (c.fn x) (dst.getD 0) 0 s.hp with
      | some (l,hp)=>.G6 (c.pre x) l.one { s with hp:=hp }
      | none=>.fail "call: results"
where
 loose:List PK->AV->List Nat
  | .own _::ks,.cons _ b=>loose ks b
  | .rw _::ks,.cons _ b=>loose ks b
  | .mu _::ks,.cons _ b=>loose ks b
  | _::ks,.cons a b=>a.I1++loose ks b
  | _,_=>[]
def ofConst:Value->AV
 | .int k n=>if k.min<=n/\n<=k.max then .val (.int k) n else .raw (.int k n)
 | .bool b=>.val .bool b
 | .string s=>if s.data.size<=maxLen then .val .str s.data.toList else .raw (.string s)
 | v=>.raw v
abbrev J7:Nat:=5000000
def St.ev (s:St):Operand->AV
 | .tmp t=>match Nat.beq t J7 with
  | true=>.any
  | false=>s.get t
 | .const v=>ofConst v
 | .global _=>.any
 | .func f=>.D3 f .nil
def St.K5 (s:St):List Operand->AV
 | []=>.nil
 | x::l=>.cons (s.ev x) (s.K5 l)
def U2 (k:IntKind) (x y:Int):Int:=k.wrap (BitVec.ofInt k.bits x &&& BitVec.ofInt k.bits y).toNat
def bOr (k:IntKind) (x y:Int):Int:=k.wrap (BitVec.ofInt k.bits x ||| BitVec.ofInt k.bits y).toNat
def vG (k:IntKind) (x y:Int):Int:=k.wrap (BitVec.ofInt k.bits x ^^^ BitVec.ofInt k.bits y).toNat
def S3 (k:IntKind) (x y:Int):Int:=k.wrap (BitVec.ofInt k.bits x &&& ~~~(BitVec.ofInt k.bits y)).toNat
def arith (k:IntKind) (r:Int) (s:St):OR :=
 match k with
 | .i64=>.G6 (u7 .i64 r) (.val (.int .i64) r) s
 | k=>.ok (.val (.int k) (k.wrap r)) s
def xy (op:BinOp) (k:IntKind) (a:Int) (k':IntKind) (b:Int) (s:St):OR :=
 match op with
 | .shl=>.G6 (0<=b) (.val (.int k) (k.wrap (a*2^(min b.toNat k.bits)))) s
 | .shr=>.G6 (0<=b) (.val (.int k) (a / 2^(min b.toNat k.bits))) s
 | op =>
  if k=k' then
   match op with
   | .add=>arith k (a+b) s
   | .sub=>arith k (a - b) s
   | .mul=>arith k (a*b) s
   | .quo=>.G6 (0<b) (.val (.int k) (Int.tdiv a b)) s
   | .rem=>.G6 (0<b) (.val (.int k) (Int.tmod a b)) s
   | .and=>.ok (.val (.int k) (U2 k a b)) s
   | .or=>.ok (.val (.int k) (bOr k a b)) s
   | .xor=>.ok (.val (.int k) (vG k a b)) s
   | .andNot=>.ok (.val (.int k) (S3 k a b)) s
   | .eql=>.ok (.val .bool (decide (a=b))) s
   | .neq=>.ok (.val .bool (decide (a≠b))) s
   | .lss=>.ok (.val .bool (decide (a<b))) s
   | .leq=>.ok (.val .bool (decide (a<=b))) s
   | .gtr=>.ok (.val .bool (decide (b<a))) s
   | .geq=>.ok (.val .bool (decide (b<=a))) s
   | _=>.fail "binop int"
  else .fail "binop kinds"
def yR (op:BinOp) (a b:yY) (s:St):OR :=
 match op with
 | .eql=>.ok (.val .bool (decide (a=b))) s
 | .neq=>.ok (.val .bool (decide (a≠b))) s
 | .add=>.G6 (a.length+b.length<=maxLen) (.val .str (a++b)) s
 | _=>.fail "binop string"
def Ty.T1:Ty->Ty
 | .pair a b=>.pair a.T1 b.T1
 | .arr n t=>.arr n t.T1
 | .d8 o t=>.d8 o t.T1
 | .box o g t=>.box o g t.T1
 | .C6 t=>.d8 false t.T1
 | .hole t=>.hole t.T1
 | t=>t
def J8 (E:Env) (T:TypeId) (u:Ty):Bool :=
 match look T E.tt with
 | some i=>decide (i.ty.T1.sh=u.T1.sh)
 | none=>false
def eqD:(t:Ty)->t.den->t.den->Bool
 | .int _,x,y=>decide ((x:Int)=y)
 | .bool,x,y=>(x:Bool) == y
 | .str,x,y=>decide ((x:yY)=y)
 | .unit,_,_=>true
 | .fn _,_,_=>false
 | .map _ _ _,_,_=>false
 | .box _ _ _,_,_=>false
 | .hole _,_,_=>false
 | .C6 _,_,_=>false
 | .pair a b,x,y=>eqD a x.1 y.1 && eqD b x.2 y.2
 | .arr _ t,x,y=>AT (eqD t) x y
 | .d8 _ _,_,_=>false
where AT {α:Type} (f:α->α->Bool):List α->List α->Bool
 | [],[]=>true
 | x::l,y::m=>f x y && AT f l m
 | _,_=>false
def Mq (E:Env):Bool:=E.D5.any λ c=>Nat.beq c.1 999999
def xz (W:Bool) (op:BinOp) (k:IntKind) (a:Int) (k':IntKind) (b:Int) (s:St):OR :=
 match W,op with
 | true,.add=>if k=k' then .ok (.val (.int k) (k.wrap (a+b))) s else .fail "binop kinds"
 | _,op=>xy op k a k' b s
def xZ (E:Env) (T:TypeId) (op:BinOp) (x y:AV) (s:St):OR :=
 match x,y with
 | .val (.int k) a,.val (.int k') b=>xz (Mq E) op k a k' b s
 | .val .bool a,.val .bool b =>
  match J8 E T .bool,op with
  | true,.eql=>.ok (.val .bool (a == b)) s
  | true,.neq=>.ok (.val .bool (a != b)) s
  | _,_=>.fail "binop bool"
 | .val .str a,.val .str b=>yR op a b s
 | _,_=>.fail "binop"
def Ty.ht:Ty->Nat
 | .pair a b=>max (a.ht+1) b.ht
 | .arr _ t=>t.ht+1
 | _=>0
def yg (ck:TypeId->Ty->Bool):List Field->Ty->Bool
 | [],.unit=>true
 | f::fs,.pair a b=>ck f.type a && yg ck fs b
 | _,_=>false
def Y7 (P:Program):Nat->TypeId->Ty->Bool
 | 0,_,_=>false
 | n+1,T,t=>match P.underlying T,t with
  | some (.struct fs),t=>!P.stoodInHeld T && yg (Y7 P n) fs.toList t
  | some (.array _ e),.arr _ t=>Y7 P n e t
  | some .bool,.bool=>true
  | some (.int _),.int _=>true
  | some .string,.str=>true
  | _,_=>false
def eqA (E:Env) (T:TypeId) (op:BinOp) (t:Ty) (x:t.den) (u:Ty) (y:u.den) (s:St):OR :=
 if h:u=t then
  (match t.agg && J8 E T t && Y7 E.P 100 T t && !(E.P.eqGuardType E.P.depth T) && Nat.blt t.ht 100,op with
  | true,.eql=>.ok (.val .bool (eqD t x (h▸y))) s
  | true,.neq=>.ok (.val .bool (!(eqD t x (h▸y)))) s
  | _,_=>.fail "eq")
 else .fail "eq: types"
def zJ (E:Env) (T:TypeId) (op:BinOp) (s:St):OR :=
 match look T E.tt,op with
 | some ⟨.box _ none _,_⟩,.eql=>.ok (.val .bool false) s
 | some ⟨.box _ none _,_⟩,.neq=>.ok (.val .bool true) s
 | _,_=>.fail "binop nil"
def wF (E:Env) (T:TypeId) (op:BinOp) (x y:AV) (s:St):OR :=
 match x,y with
 | .ptr _ _,.raw (.pointer none)=>zJ E T op s
 | .val (.pair p q) a,.val u b=>eqA E T op (.pair p q) a u b s
 | .val (.arr n q) a,.val u b=>eqA E T op (.arr n q) a u b s
 | x,y=>xZ E T op x y s
def unA (op:UnOp) (x:AV) (s:St):OR :=
 match op,x with
 | .not,.val .bool b=>.ok (.val .bool (!b)) s
 | .neg,.val (.int k) a=>arith k (0 - a) s
 | .xor,.val (.int k) a=>.ok (.val (.int k) (vG k (if k.signed then -1 else k.max) a)) s
 | _,_=>.fail "unop"
def Y4 (t:Ty) (i:Nat):List Step :=
 match t with
 | .arr _ _=>[.idx i]
 | _=>[.l8 i]
def T7 (s:St):Sigma Ty.den->List (Nat×Operand)->Option (Sigma Ty.den×List Nat)
 | r,[]=>some (r,[])
 | ⟨t,x⟩,(i,v)::parts =>
  match j9 t x (Y4 t i) with
  | none=>none
  | some ⟨u0,_⟩=>match s.ev v with
   | .raw (.slice none 0 0)=>(match u0 with
    | .d8 o u'=>(match w5 t x (Y4 t i) (.d8 o u') ([]:List u'.den) with
     | some r=>T7 s r parts
     | none=>none)
    | _=>none)
   | v=>(match v.vC s with
    | some (⟨u,z⟩,g)=>(match w5 t x (Y4 t i) u z with
     | some r=>(match T7 s r parts with
      | some (r,g')=>some (r,g++g')
      | none=>none)
     | none=>none)
    | none=>none)
def zS (s:St) (n:Nat) (t:Ty) (parts:List (Nat×Operand)):Option (Sigma Ty.den×List Nat) :=
 match T7 s ⟨.arr n t,(Ty.arr n t).s8⟩ parts with
 | some r=>some r
 | none=>T7 s ⟨.arr n t.sh,(Ty.arr n t.sh).s8⟩ parts
def St.lay (s:St) (d:Nat) (g:List Nat) (t:Ty) (x:t.den):OR :=
 match wI g && (g.all λ i=>!pinned i) && s.fresh d with
 | false=>.fail "lay: objects"
 | true=>match (St.B0 g s).fresh d with
  | true=>.ok (.at_ d []) ((St.B0 g s).y9 d (.own t x))
  | false=>.fail "lay: name"
def OR.f9 (p:Prop):OR->OR
 | .ok v s=>.G6 p v s
 | r=>r
def OR.xW (p:Prop):OR->OR
 | .ok v s=>.G6 (p/\True) v s
 | .G6 q v s=>.G6 (p/\q) v s
 | .fail y=>.fail y
def wH (t:Ty) (i:Nat):Bool :=
 match t with
 | .arr n _=>Nat.blt i n
 | _=>true
def Mv:Option TI->Bool
 | some ⟨.box _ none _,_⟩=>true
 | some ⟨.fn _,_⟩=>true
 | _=>false
def Z1 (E:Env) (T:TypeId) (a:AV) (s:St):OR :=
 match a with
 | .P8 t x=>match J8 E T t with|true=>.ok (.val t x) s|false=>.fail "load: type"
 | .bx l=>match Mv (look T E.tt) with
  | true=>.ok l s
  | false=>.fail "load: pointer"
 | .ptr i p=>match s.part i p with
  | some ⟨u,y⟩=>(match J8 E T u with
   | true=>(match u.shared with|true=>.ok (.val u y) s|false=>.ok (.at_ i p) s)
   | false=>.fail "load: type")
  | none=>.fail "load: path"
 | _=>.fail "load"
def Ty.vU:Ty->Ty
 | .pair a b=>.pair a.vU b.vU
 | .d8 o t=>match o with
  | true=>.hole t
  | false=>.d8 false t
 | t=>t
def DR:(t:Ty)->t.den->t.vU.den
 | .int _,x=>x
 | .bool,x=>x
 | .str,x=>x
 | .unit,x=>x
 | .fn _,x=>x
 | .map _ _ _,x=>x
 | .box _ _ _,x=>x
 | .pair a b,x=>(DR a x.1,DR b x.2)
 | .arr _ _,x=>x
 | .d8 true _,_=>[]
 | .d8 false _,x=>x
 | .hole _,x=>x
 | .C6 _,x=>x
def Q7 (E:Env) (T:TypeId) (i:Nat) (p:List Step) (x:AV) (s:St):OR :=
 match s.obj i with
 | none=>.fail "store: object"
 | some e=>match j9 e.ty e.x p with
  | none=>.fail "store: path"
  | some ⟨u,y⟩=>match J8 E T u with
   | false=>.fail "store: type"
   | true=>match x with
    | .raw (.slice none 0 0)=>(match u with
     | .d8 o u'=>(match w5 e.ty e.x p (.d8 o u') ([]:List u'.den) with
      | some r=>.ok (.raw undef) ((s.kill i e.kd p).y9 i (e.E8 r))
      | none=>.fail "store: nil")
     | .C6 a=>(match w5 e.ty e.x p (.C6 a) ((1,([],[])):Nat×(List a.den×List a.den)) with
      | some r=>.ok (.raw undef) ((s.kill i e.kd p).y9 i (e.E8 r))
      | none=>.fail "store: nil")
     | _=>.fail "store: nil of what")
    | .sub j q lo hi=>(match u,y with
     | .d8 true u',(y:List u'.den)=>(match w5 e.ty e.x p (.d8 true u') (o5 lo hi y) with
      | some r=>(match Nat.beq i j with
       | true=>.G6 (q=p/\True) (.raw undef) ((s.kill i e.kd p).y9 i (e.E8 r))
       | false=>.fail "store: a view of another")
      | none=>.fail "store: view")
     | _,_=>.fail "store: view of what")
    | x=>(match x.vC s with
     | some (q,g)=>(match w5 e.ty e.x p (Q8 u q).1 (Q8 u q).2 with
      | some r=>(match !g.contains i && wI g && g.all λ i=>!pinned i with
       | true=>.ok (.raw undef) (((St.B0 g s).kill i e.kd p).y9 i (e.E8 r))
       | false=>.fail "store: itself")
      | none=>.fail "store: value")
     | none=>(match x with
      | .at_ j q=>(match s.part j q with
       | some ⟨u',y'⟩=>(match w5 e.ty e.x p u'.vU (DR u' y') with
        | some r=>(match u'.vU.shared && !u'.shared && !Nat.beq i j with
         | true=>.ok (.raw undef) ((s.kill i e.kd p).y9 i (e.E8 r))
         | false=>.fail "store: what")
        | none=>.fail "store: value")
       | none=>.fail "store: what")
      | _=>.fail "store: what"))
def AV.els (s:St):AV->Option (Sigma λ t:Ty=>List t.den)
 | .val (.d8 _ t) l=>some ⟨t,l⟩
 | .at_ i p=>match s.part i p with
  | some ⟨.d8 _ t,l⟩=>some ⟨t,l⟩
  | _=>none
 | .sub i p lo hi=>s.view i p lo hi
 | _=>none
def AV.vn (s:St) (t0:Ty):AV->Option (Sigma (λ t:Ty=>List t.den)×List Nat)
 | .raw (.slice none 0 0)=>some (⟨t0,[]⟩,[])
 | .val .str y=>some (⟨.int .u8,(List.map (λ b:UInt8=>(b.toNat:Int)) y:List Int)⟩,[])
 | v=>match v.els s with
  | none=>none
  | some ⟨t,l⟩=>match t.shared with
   | true=>some (⟨t,l⟩,[])
   | false=>match v.vg s with
    | some (⟨.d8 true u,m⟩,g)=>some (⟨u,m⟩,g)
    | _=>none
def Q0 {t u:Ty} (h:t=u) (l:List t.den):List u.den:=h▸l
def wU (E:Env) (T:TypeId) (x y:AV) (dst:Option Nat) (s:St):OR :=
 match look T E.tt,dst with
 | some ⟨.d8 _ t0,_⟩,some d=>match y.vn s t0 with
  | none=>.fail "append: what"
  | some (⟨t,m⟩,g) =>
   let own (l:List t0.den) (f:List Nat):OR :=
    if h:t=t0 then (s.lay d (f++g) (.d8 true t0) (l++Q0 h m)).f9 ((l.length+m.length:Nat)<=140737488355328/\(l.length+m.length:Nat)*(t0.wb:Nat)<=140737488355328)
    else .fail "append: type"
   match x with
   | .raw (.slice none 0 0)=>own [] []
   | .val (.d8 true u) _=>(match J8 E T (.d8 true u) with|true=>own [] []|false=>.fail "append: type")
   | x=>match x.vg s with
    | some (⟨.d8 true u,l⟩,f)=>if h:u=t0 then own (Q0 h l) f else .fail "append: type"
    | _=>.fail "append: to what"
 | _,_=>.fail "append"
def Ty.Hc:Ty->Bool
 | .C6 _=>true
 | _=>false
def DS (s:St):AV->Bool
 | .at_ i []=>(match s.obj i with
  | some (.own (.C6 _) _)=>true
  | _=>false)
 | _=>false
def Me (E:Env) (T:TypeId) (x y:AV) (dst:Option Nat) (s:St):OR:=.fail ""
def DE (E:Env) (T:TypeId) (x y:AV) (dst:Option Nat) (s:St):OR:=.fail ""
def xq (E:Env) (T:TypeId) (x y:AV) (dst:Option Nat) (s:St):OR :=
 match E.rs.any Ty.Hc && DS s x with
 | true=>DE E T x y dst s
 | false=>wU E T x y dst s
def Aq (E:Env) (T:TypeId) (x y:AV) (dst:Option Nat) (s:St):OR :=
 match look T E.tt,dst,x,y with
 | some ⟨.d8 true t0,_⟩,some d,.raw (.slice none 0 0),.val (.int _) n =>
  (s.lay d [] (.d8 true t0) (List.replicate n.toNat t0.s8)).f9 (0<=n/\n<=140737488355328/\n*(t0.wb:Nat)<=140737488355328)
 | _,_,_,_=>.fail "append: zeros"
def AV.Mw:AV->AV->Bool
 | .sub i _ _ _,.sub j _ _ _=>Nat.beq i j
 | _,_=>false
def Ty.key:Ty->Bool
 | .int _|.bool|.str=>true
 | .arr _ (.int _)=>true
 | _=>false
def AV.mp (s:St):AV->Option (Sigma λ q:Ty×Ty=>Option (List (q.1.den×q.2.den)))
 | .val (.map _ k v) m=>some ⟨(k,v),m⟩
 | .at_ i p=>match s.part i p with
  | some ⟨.map _ k v,m⟩=>some ⟨(k,v),m⟩
  | _=>none
 | _=>none
def IN (E:Env) (T:TypeId) (x i:AV) (ok:Bool) (s:St):OR:=.fail ""
def FX (E:Env) (T:TypeId) (x i z:AV) (s:St):OR:=.fail ""
def za (e:i7) (p:List Step) (r:Sigma Ty.den):Bool :=
 match e with
 | .var t _=>decide (r.1=t)
 | .own (.d8 true t) _=>decide (r.1=.d8 true t) && (match p with
  | []=>true
  | .idx _::_=>true
  | _=>false)
 | _=>false
def vR (s:St) (i:Nat) (p:List Step) (lo:Nat) (t:Ty) (m:List t.den):Option St :=
 match s.obj i with
 | some e=>(match j9 e.ty e.x p with
  | some ⟨.d8 true u,l⟩ =>
   if h:t=u then
    (match w5 e.ty e.x p (.d8 true u) (List.take lo l++Q0 h m++List.drop (lo+m.length) l) with
    | some r=>(match t.shared && za e p r with
     | true=>some ((s.Z9 i e.vu).y9 i (e.E8 r))
     | false=>none)
    | none=>none)
   else none
  | _=>none)
 | none=>none
def AV.wq (s:St):AV->Option (Nat×List Step×Int×Int)
 | .at_ i p=>match s.part i p with
  | some ⟨.d8 true _,l⟩=>some (i,p,0,(List.length l:Int))
  | _=>none
 | .sub i p lo hi=>match s.part i p with
  | some ⟨.d8 true _,_⟩=>some (i,p,lo,hi)
  | _=>none
 | _=>none
def Ac (E:Env) (T:TypeId) (x y:AV) (s:St):OR :=
 match x.wq s,y.els s with
 | some (i,p,lo,hi),some ⟨t,m⟩=>(match vR s i p lo.toNat t (List.take (hi - lo).toNat m),J8 E T (.d8 true t) with
  | some s',true=>.ok (.val (.int .i64) ((List.take (hi - lo).toNat m).length:Int)) s'
  | _,_=>.fail "copy")
 | _,_=>.fail "copy: what"
def Ag (E:Env) (T:TypeId) (x:AV) (s:St):OR :=
 match x.wq s,look T E.tt with
 | some (i,p,lo,hi),some ⟨.d8 _ t,_⟩=>(match vR s i p lo.toNat t (List.replicate (hi - lo).toNat t.s8) with
  | some s'=>.ok (.raw (.tuple #[])) s'
  | none=>.fail "clear")
 | _,_=>.fail "clear: what"
def wV (E:Env) (T:TypeId) (x y:AV) (s:St):OR :=
 match x,look T E.tt with
 | .sub i [] lo hi,some ⟨.d8 _ t0,_⟩=>(match y.vn s t0,s.obj i with
  | some (⟨t,m⟩,[]),some (.own (.d8 true u) l)=>(match vR s i [] hi.toNat t m,J8 E T (.d8 true t),decide (t=u) with
   | some s',true,true=>.G6 (hi+(List.length m:Int)<=(List.length l:Int)) (.sub i [] lo (hi+(List.length m:Int))) s'
   | _,_,_=>.fail "append: in place")
  | _,_=>.fail "append: in place")
 | _,_=>.fail "append: in place"
def bnd (s:St) (d:Int):Option Operand->Option Int
 | none=>some d
 | some x=>match s.ev x with
  | .val (.int _) n=>some n
  | _=>none
def yu (E:Env) (T:TypeId) (x:AV) (lo hi max:Option Operand) (s:St):OR :=
 match bnd s 0 lo with
 | none=>.fail "slice: low"
 | some a =>
 match x with
 | .val .str y=>(match bnd s (List.length y:Int) hi,max with
  | some b,none=>(match J8 E T .str with|true=>.G6 (0<=a/\a<=b/\b<=(List.length y:Int)) (.val .str (o5 a b y)) s|false=>.fail "slice: type")
  | _,_=>.fail "slice: bounds")
 | .val (.d8 false t) y=>(match bnd s (List.length y:Int) hi,max with
  | some b,none=>(match J8 E T (.d8 false t) with|true=>.G6 (0<=a/\a<=b/\b<=(List.length y:Int)) (.val (.d8 false t) (o5 a b y)) s|false=>.fail "slice: type")
  | some b,some _=>(match J8 E T (.d8 false t) && hi.isSome,bnd s 0 max with
   | true,some c=>.G6 (a=0/\b=0/\c=0) (.val (.d8 true t) ([]:List t.den)) s
   | _,_=>.fail "slice: type")
  | _,_=>.fail "slice: bounds")
 | .val (.C6 t) y=>(match bnd s (List.length y.2.1:Int) hi,max with
  | some b,none=>(match J8 E T (.d8 false t) with|true=>.G6 (y.1=3/\0<=a/\a<=b/\b<=(List.length y.2.1+List.length y.2.2:Nat)) (.val (.d8 false t) (o5 a b (y.2.1++y.2.2))) s|false=>.fail "slice: type")
  | _,_=>.fail "slice: bounds")
 | .raw (.slice none 0 0)=>(match bnd s 0 hi,max,look T E.tt with
  | some b,none,some ⟨.d8 _ _,_⟩=>.G6 (a=0/\b=0) (.raw (.slice none 0 0)) s
  | _,_,_=>.fail "slice: nil")
 | .at_ i p=>(match s.part i p with
  | some ⟨.d8 true t,y⟩=>(match bnd s (List.length y:Int) hi,max with
   | some b,none=>(match J8 E T (.d8 true t) with|true=>.G6 (0<=a/\a<=b/\b<=(List.length y:Int)) (.sub i p a b) s|false=>.fail "slice: type")
   | some b,some _=>(match J8 E T (.d8 true t) && hi.isSome,bnd s 0 max with
    | true,some c=>(match lo.isSome with
     | false=>.G6 (a=0/\b=0/\c=0) (.val (.d8 true t) ([]:List t.den)) s
     | true=>.G6 (0<=a/\a<=b/\b<=c/\c<=(List.length y:Int)) .any s)
    | _,_=>.fail "slice: type")
   | _,_=>.fail "slice: bounds")
  | _=>.fail "slice: of what")
 | .sub i p a0 b0=>(match s.part i p with
  | some ⟨.d8 true t,y⟩=>(match bnd s (b0 - a0) hi,max with
   | some b,none=>(match J8 E T (.d8 true t) with|true=>.G6 (0<=a/\a<=b/\a0+b<=(List.length y:Int)) (.sub i p (a0+a) (a0+b)) s|false=>.fail "slice: type")
   | _,_=>.fail "slice: bounds")
  | some ⟨.arr _ t,_⟩=>(match bnd s (b0 - a0) hi,max with
   | some b,none=>(match J8 E T (.d8 true t) with|true=>.G6 (0<=a/\a<=b/\b<=b0 - a0) (.sub i p (a0+a) (a0+b)) s|false=>.fail "slice: type")
   | _,_=>.fail "slice: bounds")
  | _=>.fail "slice: view")
 | .ptr i p=>(match s.part i p with
  | some ⟨.arr n t,_⟩=>(match bnd s (n:Int) hi,max with
   | some b,none=>(match LY E T (.arr n t) && Nat.ble n 1000000 with|true=>.G6 (0<=a/\a<=b/\b<=(n:Int)) (.sub i p a b) s|false=>.fail "slice: type")
   | _,_=>.fail "slice: bounds")
  | _=>.fail "slice: of what")
 | _=>.fail "slice"
where
 LY (E:Env) (T:TypeId) (u:Ty):Bool :=
  match E.P.underlying T with
  | some (.pointer A)=>J8 E A u
  | some (.array _ _)=>J8 E T u
  | _=>false
def foldI (s:St) (k:IntKind) (f:Int->Int->Int):Int->List Operand->OR
 | a,[]=>.ok (.val (.int k) a) s
 | a,x::l=>match s.ev x with
  | .val (.int k') b=>if k=k' then foldI s k f (f a b) l else .fail "max"
  | _=>.fail "max"
def n6 (E:Env) (o:Oper) (s:St):OR :=
 match o.op with
 | .move x=>.ok (s.ev x) s
 | .assign x=>.ok (s.ev x) s
 | .alloc T=>match look T E.tt,o.dst with
  | some t,some d=>(match s.fresh d with
   | true=>.ok (.ptr d []) (s.y9 d (.var t.ty t.ty.s8))
   | false=>.fail "alloc: name")
  | _,_=>.fail "alloc"
 | .box T x=>match look T E.tt,o.dst with
  | some t,some d=>(match s.fresh d with
   | true=>(match (s.ev x).vC s with
    | some (⟨u,y⟩,g)=>if u.T1.sh=t.ty.T1.sh then (match wI g && !g.contains d && g.all λ i=>!pinned i with
     | true=>.ok (.ptr d []) ((St.B0 g s).y9 d (.var u y))
     | false=>.fail "box: objects") else .fail "box: value"
    | none=>(match s.ev x,t.ty with
     | .raw (.slice none 0 0),.d8 o u=>.ok (.ptr d []) (s.y9 d (.var (.d8 o u) ([]:List u.den)))
     | .ptr i p,.box _ none _=>.ok (.bx (.ptr i p)) s
     | _,_=>.fail "box: what"))
   | false=>.fail "box: name")
  | _,_=>.fail "box"
 | .build T parts=>match look T E.tt with
  | some t=>(match t.ty.agg && parts.toList.all (λ q=>wH t.ty q.1) with
   | true=>(match T7 s ⟨t.ty,t.ty.s8⟩ parts.toList,o.dst with
    | some (⟨u,y⟩,[]),_=>.ok (.val u y) s
    | some (⟨u,y⟩,g),some d=>s.lay d g u y
    | _,_=>.fail "build: parts")
   | false=>.fail "build: index")
  | none=>.fail "build"
 | .buildSlice T n parts=>match look T E.tt,o.dst with
  | some ⟨.d8 true t,_⟩,some d=>(match s.fresh d && parts.toList.all (λ q=>Nat.blt q.1 n) && Nat.ble (n*t.size) 16777216 with
   | true=>(match zS s n t parts.toList with
    | some (⟨.arr _ t',l⟩,g)=>s.lay d g (.d8 true t') l
    | _=>.fail "buildSlice: parts")
   | false=>.fail "buildSlice: name")
  | _,_=>.fail "buildSlice"
 | .load T a=>Z1 E T (s.ev a) s
 | .store T a x=>match s.ev a with
  | .ptr i p=>Q7 E T i p (s.ev x) s
  | _=>.fail "store"
 | .nilCheck x=>match s.ev x with
  | .ptr i p=>.ok (.ptr i p) s
  | .P8 t y=>.ok (.P8 t y) s
  | .val (.box false none t) y=>.G6 ((y:Option t.den).isSome=true) (.P8 t (Option.getD (y:Option t.den) t.s8)) s
  | .val (.box false (some f) t) y=>.G6 ((y:Option t.den).isSome=true) (.val (.box false (some f) t) y) s
  | .D3 f l=>.ok (.D3 f l) s
  | .val (.fn f) b=>.G6 ((b:Bool)=true) (.val (.fn f) b) s
  | _=>.fail "nilCheck"
 | .fieldAddr T x n=>match s.ev x with
  | .ptr i p=>(match s.part i p with
   | some ⟨u,z⟩=>(match J8 E T u,j9 u z [.l8 n] with
    | true,some _=>.ok (.ptr i (p++[.l8 n])) s
    | _,_=>.fail "fieldAddr: type")
   | none=>.fail "fieldAddr: path")
  | .P8 t y=>match J8 E T t,j9 t y [.l8 n] with
   | true,some ⟨u,z⟩=>.ok (.P8 u z) s
   | _,_=>.fail "fieldAddr"
  | .val (.box false none t) y=>match J8 E T t,j9 t (Option.getD (y:Option t.den) t.s8) [.l8 n] with
   | true,some ⟨u,z⟩=>.G6 ((y:Option t.den).isSome=true) (.P8 u z) s
   | _,_=>.fail "fieldAddr"
  | _=>.fail "fieldAddr"
 | .indexAddr T x i=>match s.ev x,s.ev i with
  | .ptr d p,.val (.int _) n=>(match s.part d p with
   | some ⟨.arr m u,_⟩=>(match J8 E T (.arr m u) with
    | true=>.G6 (0<=n/\n<m) (.ptr d (p++[.idx n])) s
    | false=>.fail "indexAddr: type")
   | _=>.fail "indexAddr: type")
  | .P8 (.arr m t) y,.val (.int _) n=>(match J8 E T (.arr m t) with
   | true=>.G6 (0<=n/\n<m) (.P8 t (List.getD y (Int.toNat n) t.s8)) s
   | false=>.fail "indexAddr: type")
  | .val (.d8 false t) y,.val (.int _) n=>(match J8 E T (.d8 false t) with
   | true=>.G6 (0<=n/\n<List.length y) (.P8 t (List.getD y (Int.toNat n) t.s8)) s
   | false=>.fail "indexAddr: type")
  | .at_ d p,.val (.int _) n=>(match s.part d p with
   | some ⟨.d8 true u,z⟩=>(match J8 E T (.d8 true u) with
    | true=>.G6 (0<=n/\n<List.length z) (.ptr d (p++[.idx n])) s
    | false=>.fail "indexAddr: type")
   | _=>.fail "indexAddr: type")
  | .sub d p lo hi,.val (.int _) n=>(match s.view d p lo hi with
   | some ⟨u,_⟩=>(match J8 E T (.d8 true u) with
    | true=>.G6 (0<=n/\n<hi - lo) (.ptr d (p++[.idx (lo+n)])) s
    | false=>.fail "indexAddr: type")
   | none=>.fail "indexAddr: view")
  | _,_=>.fail "indexAddr"
 | .field T x n=>match s.ev x with
  | .val t y=>(match J8 E T t,j9 t y [.l8 n] with
   | true,some ⟨u,z⟩=>.ok (.val u z) s
   | _,_=>.fail "field")
  | .at_ i p=>(match s.part i p with
   | some ⟨t,y⟩=>(match J8 E T t,j9 t y [.l8 n] with
    | true,some ⟨u,z⟩=>(match u.shared with|true=>.ok (.val u z) s|false=>.ok (.at_ i (p++[.l8 n])) s)
    | _,_=>.fail "field")
   | none=>.fail "field: part")
  | _=>.fail "field"
 | .index T x i=>match s.ev x,s.ev i with
  | .val .str y,.val (.int _) n=>(match J8 E T .str with
   | true=>.G6 (0<=n/\n<List.length y) (.val (.int .u8) ((List.getD y (Int.toNat n) 0).toNat:Int)) s
   | false=>.fail "index: type")
  | .val (.arr m t) y,.val (.int _) n=>(match J8 E T (.arr m t) with
   | true=>.G6 (0<=n/\n<m) (.val t (List.getD y (Int.toNat n) t.s8)) s
   | false=>.fail "index: type")
  | .at_ i p,.val (.int _) n=>(match s.part i p with
   | some ⟨.arr m t,y⟩=>(match J8 E T (.arr m t) with
    | true=>(match t.shared with
     | true=>.G6 (0<=n/\n<m) (.val t (List.getD y (Int.toNat n) t.s8)) s
     | false=>.G6 (0<=n/\n<m) (.at_ i (p++[.idx n])) s)
    | false=>.fail "index: type")
   | _=>.fail "index: of what")
  | _,_=>.fail "index"
 | .binOp op T x y _=>wF E T op (s.ev x) (s.ev y) s
 | .unOp op _ x=>unA op (s.ev x) s
 | .convert T' T x=>match s.ev x,look T' E.tt,look T E.tt with
  | .val (.int _) n,some ⟨.int _,_⟩,some ⟨.int k,_⟩=>.ok (.val (.int k) (k.wrap n)) s
  | .val .str y,some ⟨.str,_⟩,some ⟨.d8 true (.int .u8),_⟩=>(match o.dst with
   | some d=>s.lay d [] (.d8 true (.int .u8)) (List.map (λ b:UInt8=>(b.toNat:Int)) y:List Int)
   | none=>.fail "convert")
  | v,some ⟨.d8 true (.int .u8),_⟩,some ⟨.str,_⟩=>(match v.els s with
   | some ⟨.int .u8,l⟩=>.ok (.val .str (List.map (λ n:Int=>UInt8.ofNat n.toNat) l)) s
   | _=>match v with
    | .raw (.slice none 0 0)=>.ok (.val .str []) s
    | _=>.fail "convert: bytes")
  | _,_,_=>.fail "convert"
 | .extract x i=>match s.ev x with
  | .M2 l=>match nth i l with
   | some v=>.ok v s
   | none=>.fail "extract"
  | _=>.fail "extract"
 | .makeSlice T x y=>match E.rs.any Ty.Hc with
  | true=>Me E T (s.ev x) (s.ev y) o.dst s
  | false=>match look T E.tt,o.dst,s.ev x,s.ev y with
  | some ⟨.d8 true t,_⟩,some d,.val (.int _) n,.val (.int _) m=>(s.lay d [] (.d8 true t) (List.replicate n.toNat t.s8)).f9 (0<=n/\n<=m/\m<=140737488355328/\m*(t.wb:Nat)<=140737488355328)
  | _,_,_,_=>.fail "makeSlice"
 | .slice T x lo hi max=>yu E T (s.ev x) lo hi max s
 | .makeMap _ _=>.fail ""
 | .lookup T x i ok=>IN E T (s.ev x) (s.ev i) ok s
 | .mapUpdate T m i x=>FX E T (s.ev m) (s.ev i) (s.ev x) s
 | .makeFunc (.func f) first caps=>match first.toList with
  | []=>.ok (.D3 f (s.K5 caps.toList)) s
  | _=>.fail "makeFunc"
 | .call c=>match c.callee with
  | .value f=>match s.ev f with
   | .D3 f caps=>T6 E f ((s.K5 c.args.toList).app caps) o.dst s
   | .val (.fn f) b=>(T6 E f ((s.K5 c.args.toList).app .nil) o.dst s).xW ((b:Bool)=true)
   | .val (.box false (some f) t) y=>(T6 E f ((s.K5 c.args.toList).app (.cons (.P8 t (Option.getD (y:Option t.den) t.s8)) .nil)) o.dst s).xW ((y:Option t.den).isSome=true)
   | _=>.fail "call of what"
  | .builtin .len=>match c.args.toList,c.argTypes.toList with
   | [x],[T]=>(match s.ev x with
    | .val (.d8 q u) y=>(match J8 E T (.d8 q u) with|true=>.ok (.val (.int .i64) (List.length y:Int)) s|false=>.fail "len")
    | .val (.C6 u) y=>(match J8 E T (.d8 false u) with|true=>.ok (.val (.int .i64) (List.length y.2.1:Int)) s|false=>.fail "len")
    | .val .str y=>(match J8 E T .str with|true=>.ok (.val (.int .i64) (List.length y:Int)) s|false=>.fail "len")
    | .val (.arr n u) _=>(match J8 E T (.arr n u) with|true=>(if (n:Int)<=9223372036854775807 then .ok (.val (.int .i64) (n:Int)) s else .fail "len")|false=>.fail "len")
    | .at_ d p=>(match s.part d p with
     | some ⟨.d8 q u,z⟩=>(match J8 E T (.d8 q u) with|true=>.ok (.val (.int .i64) (List.length z:Int)) s|false=>.fail "len")
     | some ⟨.C6 u,z⟩=>(match J8 E T (.d8 false u) with|true=>.ok (.val (.int .i64) (List.length z.2.1:Int)) s|false=>.fail "len")
     | some ⟨.map true k u,z⟩=>(match J8 E T (.map true k u) with|true=>.G6 ((List.length (Option.getD (z:Option (List (k.den×u.den))) []):Int)<=9223372036854775807) (.val (.int .i64) (List.length (Option.getD (z:Option (List (k.den×u.den))) []):Int)) s|false=>.fail "len")
     | _=>.fail "len")
    | .sub d p lo hi=>(match s.view d p lo hi with
     | some ⟨u,_⟩=>(match J8 E T (.d8 true u) with|true=>.ok (.val (.int .i64) (hi - lo)) s|false=>.fail "len")
     | none=>.fail "len")
    | .raw (.slice none 0 0)=>(match look T E.tt with|some ⟨.d8 _ _,_⟩=>.ok (.val (.int .i64) 0) s|_=>.fail "len")
    | _=>.fail "len")
   | _,_=>.fail "len"
  | .builtin .cap=>match c.args.toList,c.argTypes.toList with
   | [x],[T]=>(match s.ev x,look T E.tt with
    | .raw (.slice none 0 0),some ⟨.d8 _ _,_⟩=>.ok (.val (.int .i64) 0) s
    | _,_=>.fail "cap")
   | _,_=>.fail "cap"
  | .builtin .append=>match c.args.toList,c.argTypes.toList with
   | [x,y],[T,U]=>(match look U E.tt with
    | some ⟨.d8 _ _,_⟩=>(match (s.ev x).Mw (s.ev y) with
     | true=>wV E T (s.ev x) (s.ev y) s
     | false=>xq E T (s.ev x) (s.ev y) o.dst s)
    | some ⟨.str,_⟩=>wU E T (s.ev x) (s.ev y) o.dst s
    | some ⟨.int _,_⟩=>Aq E T (s.ev x) (s.ev y) o.dst s
    | _=>.fail "append: of what type")
   | _,_=>.fail "append"
  | .builtin .max=>match c.args.toList with
   | x::l=>(match s.ev x with
    | .val (.int k) a=>foldI s k (λ a b=>if a<b then b else a) a l
    | _=>.fail "max")
   | _=>.fail "max"
  | .builtin .min=>match c.args.toList with
   | x::l=>(match s.ev x with
    | .val (.int k) a=>foldI s k (λ a b=>if b<a then b else a) a l
    | _=>.fail "min")
   | _=>.fail "min"
  | .builtin .copy=>match c.args.toList,c.argTypes.toList with
   | [x,y],[T,_]=>Ac E T (s.ev x) (s.ev y) s
   | _,_=>.fail "copy"
  | .builtin .clear=>match c.args.toList,c.argTypes.toList with
   | [x],[T]=>Ag E T (s.ev x) s
   | _,_=>.fail "clear"
  | _=>.fail "builtin"
 | _=>.fail "op"
where nth:Nat->AV->Option AV
 | 0,.cons a _=>some a
 | n+1,.cons _ b=>nth n b
 | _,_=>none
def AH (ops:Array Oper) (j:Nat):Option Nat:=(ops[j]?).bind (·.dst)
def H7 (n:Nat):Option Nat->Bool
 | some d=>Nat.blt d n
 | none=>true
def yX (E:Env) (o:Oper) (s:St) (k:St->Tree (E.rs++F6 E.ps)):Tree (E.rs++F6 E.ps) :=
 match H7 E.nt o.dst with
 | false=>.stuck "slot"
 | true =>
 match o.op with
 | .pick c a b=>match s.ev c with
  | .val .bool g=>cond g (k (s.put o.dst (s.ev a))) (k (s.put o.dst (s.ev b)))
  | _=>.stuck "pick"
 | _=>match n6 E o s with
  | .fail why=>.stuck why
  | .ok v s'=>k (s'.put o.dst v)
  | .G6 p v s'=>.f9 p (k (s'.put o.dst v))
def yr (E:Env) (ops:Array Oper) (o:Oper) (s:St) (k:St->Tree (E.rs++F6 E.ps)):Tree (E.rs++F6 E.ps) :=
 match o.guard with
 | none=>yX E o s k
 | some (j,want)=>match AH ops j with
  | none=>.stuck "guard"
  | some g=>match s.ev (.tmp g) with
   | .raw (.tuple _)=>match H7 E.nt o.dst with
    | true=>k (s.put o.dst (.raw undef))
    | false=>.stuck "slot"
   | .val .bool b=>match H7 E.nt o.dst with
    | false=>.stuck "slot"
    | true=>cond b
     (match want with
      | true=>yX E o (s.put (some g) (.val .bool true)) k
      | false=>k ((s.put (some g) (.val .bool true)).put o.dst (.raw undef)))
     (match want with
      | false=>yX E o (s.put (some g) (.val .bool false)) k
      | true=>k ((s.put (some g) (.val .bool false)).put o.dst (.raw undef)))
   | _=>.stuck "guard value"
def brA (E:Env) (s:St) (o:Oper):Option (Prop×AV×AV) :=
 match o.op with
 | .binOp op T x y _=>match op with
  | .eql=>(match s.ev y,look T E.tt with
   | .raw (.slice none 0 0),some ⟨.d8 _ _,_⟩=>(match (s.ev x).els s with
    | some r=>some (r.2=[],.val .bool true,.val .bool false)
    | none=>none)
   | _,_=>none)
  | .neq=>(match s.ev y,look T E.tt with
   | .raw (.slice none 0 0),some ⟨.d8 _ _,_⟩=>(match (s.ev x).els s with
    | some r=>some (r.2=[],.val .bool false,.val .bool true)
    | none=>none)
   | _,_=>none)
  | _=>none
 | _=>none
def Al:Op->Bool
 | .fieldAddr _ _ _=>true
 | .indexAddr _ _ _=>true
 | .nilCheck _=>true
 | _=>false
def BF (o:Oper):List Nat:=o.op.operands.toList.filterMap λ|.tmp t=>some t|_=>none
def zY (e:i7) (p:List Step) (r:Sigma Ty.den):Bool :=
 match e with
 | .var t _=>decide (r.1=t)
 | .own (.d8 true t) _=>(match p with
  | .idx _::_=>decide (r.1=.d8 true t)
  | _=>false)
 | _=>false
def xX (E:Env) (T U T2:TypeId) (x y ad:AV) (d:Nat) (s:St):Option (Prop×St) :=
 match x,ad,look T E.tt,look U E.tt with
 | .at_ i p,.ptr j q,some ⟨.d8 _ t0,_⟩,some ⟨u1,_⟩=>(match s.obj i,Nat.beq i j && (match u1 with|.d8 _ _=>true|.str=>true|_=>false) with
  | some e,true=>(match j9 e.ty e.x p with
   | some ⟨.d8 true u,l⟩=>(match y.vn s t0 with
    | some (⟨t,m⟩,g) =>
     if hu:u=t0 then
      if ht:t=t0 then
       (match w5 e.ty e.x p (.d8 true t0) (Q0 hu l++Q0 ht m) with
        | some r=>(match J8 E T2 (.d8 true t0) && zY e p r && !g.contains i && wI g && g.all (λ i=>!pinned i) with
         | true=>some (q=p/\(l.length+m.length:Nat)<=140737488355328/\(l.length+m.length:Nat)*(t0.wb:Nat)<=140737488355328,
          ((St.B0 g (s.put (some d) .any)).kill i e.kd p).y9 i (e.E8 r))
         | false=>none)
        | none=>none)
      else none
     else none
    | none=>none)
   | _=>none)
  | _,_=>none)
 | _,_,_,_=>none
def DY (E:Env) (T U:TypeId) (x y:Operand) (d:Nat):List Oper->St->Option (Prop×St×Nat)
 | [],_=>none
 | o::rest,s=>match o.guard,H7 E.nt o.dst with
  | none,true=>(match Al o.op with
   | true=>(match o.dst with
    | some d1=>(match !Nat.beq d1 d && !(BF o).contains d && (match x with|.tmp t=>!Nat.beq t d1|_=>true) && (match y with|.tmp t=>!Nat.beq t d1|_=>true),(match n6 E o s with|.fail _=>none|.ok v _=>some (True,v)|.G6 p v _=>some (p,v)) with
     | true,some (p,v)=>(match DY E T U x y d rest (s.put (some d1) v) with
      | some (p2,s2,n)=>some (p/\p2,s2,n+1)
      | none=>none)
     | _,_=>none)
    | none=>none)
   | false=>(match o.op with
    | .store T2 ad (.tmp d')=>(match Nat.beq d' d && (match ad with|.tmp t=>!Nat.beq t d|_=>true) with
     | true=>(match xX E T U T2 (s.ev x) (s.ev y) (s.ev ad) d s with
      | some (p,s2)=>some (p,s2.put o.dst (.raw undef),1)
      | none=>none)
     | false=>none)
    | _=>none))
  | _,_=>none
def Mk (E:Env) (o:Oper) (rest:List Oper) (s:St):Option (Prop×St×Nat) :=
 match o.guard,o.dst,H7 E.nt o.dst,o.op with
 | none,some d,true,.call c=>(match c.callee,c.args.toList,c.argTypes.toList with
  | .builtin .append,[x,y],[T,U]=>(match s.ev x with
   | .at_ i p=>(match (AV.at_ i p).vg s with
    | some _=>none
    | none=>DY E T U x y d rest s)
   | _=>none)
  | _,_,_=>none)
 | _,_,_,_=>none
def Bi (s:St) (ks:List PK) (i:Nat) (e:i7) (p:List Step) (t:Ty) (ys:List Operand):Option (DK ks×List Nat×List Nat) :=
 match (T6.loose ks (s.K5 ys)).contains i with
 | false=>AV.vk s ks (s.K5 ys)
 | true=>match e with
  | .var u x=>(match w5 u x p (.hole t) ([]:List t.den) with
   | some r=>AV.vk ((s.kill i (i7.var u x).kd p).y9 i (.var r.1 r.2)) ks (((s.kill i (i7.var u x).kd p).y9 i (.var r.1 r.2)).K5 ys)
   | none=>none)
  | _=>none
def GR (E:Env) (T2:TypeId) (g:FuncId) (x:AV) (ys:List Operand) (ad:AV) (d:Nat) (s:St):Option (Prop×St) :=
 match look g E.E4,x,ad with
 | some ⟨.own (.d8 true t)::ks,[.d8 true t'],pre,fn,_,_⟩,.at_ i p,.ptr j q=>(match s.obj i,Nat.beq i j && (match F6 ks with|[]=>true|_=>false) && (Ty.d8 true t').K2 && J8 E T2 (.d8 true t) with
  | some e,true=>(match j9 e.ty e.x p,Bi s ks i e p t ys with
   | some ⟨u,l⟩,some (y,[],[]) =>
    if h:u=.d8 true t then
     (match w5 e.ty e.x p (.d8 true t') (fn (X3 h l,y)).1 with
     | some r=>(match J8 E T2 (.d8 true t') && zY e p r with
      | true=>some (q=p/\pre (X3 h l,y),((s.put (some d) .any).Z9 i e.vu).y9 i (e.E8 r))
      | false=>none)
     | none=>none)
    else none
   | _,_=>none)
  | _,_=>none)
 | _,_,_=>none
def Eo (E:Env) (g:FuncId) (x:Operand) (ys:List Operand) (d:Nat):List Oper->St->Option (Prop×St×Nat)
 | [],_=>none
 | o::rest,s=>match o.guard,H7 E.nt o.dst with
  | none,true=>(match Al o.op with
   | true=>(match o.dst with
    | some d1=>(match !Nat.beq d1 d && !(BF o).contains d && (x::ys).all (λ z=>match z with|.tmp t=>!Nat.beq t d1|_=>true),(match n6 E o s with|.fail _=>none|.ok v _=>some (True,v)|.G6 p v _=>some (p,v)) with
     | true,some (p,v)=>(match Eo E g x ys d rest (s.put (some d1) v) with
      | some (p2,s2,n)=>some (p/\p2,s2,n+1)
      | none=>none)
     | _,_=>none)
    | none=>none)
   | false=>(match o.op with
    | .store T2 ad (.tmp d')=>(match Nat.beq d' d && (match ad with|.tmp t=>!Nat.beq t d|_=>true) with
     | true=>(match GR E T2 g (s.ev x) ys (s.ev ad) d s with
      | some (p,s2)=>some (p,s2.put o.dst (.raw undef),1)
      | none=>none)
     | false=>none)
    | _=>none))
  | _,_=>none
def Ml (E:Env) (o:Oper) (rest:List Oper) (s:St):Option (Prop×St×Nat) :=
 match o.guard,o.dst,H7 E.nt o.dst,o.op with
 | none,some d,true,.call c=>(match c.callee,c.args.toList with
  | .value (.func g),x::ys=>(match s.ev x with
   | .at_ i p=>(match (AV.at_ i p).vg s with
    | some _=>none
    | none=>Eo E g x ys d rest s)
   | _=>none)
  | _,_=>none)
 | _,_,_,_=>none
def GQ (_E:Env) (_o:Oper) (_s:St):Option (Prop×St):=none
def PK.l5:PK->Bool
 | .own _|.rw _|.mu _=>true
 | _=>false
def pm:List (Option Nat)->List Step->Bool
 | [],[]=>true
 | some n::q,.l8 m::p=>Nat.beq n m && pm q p
 | none::q,.idx _::p=>pm q p
 | _,_=>false
def He (_E:Env) (_o:Oper) (_s:St):Option (Prop×St):=none
def vB:Ty->Ty->Bool
 | .pair a b,.pair c d=>vB a c && vB b d
 | .arr n a,.arr m b=>Nat.beq n m && vB a b
 | .d8 true a,.d8 true b=>vB a b
 | .d8 _ a,.C6 b=>decide (a=b)
 | a,b=>decide (a=b)
def msV:(u t:Ty)->u.den->t.den
 | .pair a b,.pair c d,y=>(msV a c y.1,msV b d y.2)
 | .arr n a,.arr _ b,y=>if h:a=b then h▸y else List.map (msV a b) y
 | .d8 true a,.d8 true b,y=>if h:a=b then h▸y else List.map (msV a b) y
 | .d8 true a,.C6 b,y=>if h:a=b then (1,h▸y,[]) else (1,[],[])
 | .d8 false a,.C6 b,y=>if h:a=b then (0,h▸y,[]) else (0,[],[])
 | a,b,y=>if h:a=b then h▸y else b.s8
def yT:(u t:Ty)->u.den->Option t.den
 | .pair a b,.pair c d,y=>(match yT a c y.1,yT b d y.2 with
  | some x1,some x2=>some (x1,x2)
  | _,_=>none)
 | u,t,y=>if h:u=t then some (X3 h y) else if h:u.sh=t then (match u.W0 with
  | true=>some (cast ((F7 u).symm.trans (congrArg Ty.den h)) y)
  | false=>none) else (match vB u t with
  | true=>some (msV u t y)
  | false=>none)
def AV.Mm (i:Nat) (v:AV):AV :=
 match v.j5 i with
 | false=>v
 | true=>match v with
  | .ptr j []=>.ptr j []
  | _=>.any
def St.xD (i:Nat) (s:St):St:={ s with fr:=mapA (AV.map (AV.Mm i)) s.fr }
def AV.Mb (s:St) (i:Nat) (t:Ty) (v:AV):AV :=
 match v.j5 i with
 | false=>v
 | true=>match v.asV s t with
  | some x=>.val t x
  | none=>(match v with
   | .ptr j p=>(match s.vA t j p with
    | some x=>.P8 t x
    | none=>.any)
   | _=>.any)
def St.wC (i:Nat) (t:Ty) (s:St):St:={ fr:=mapA (AV.map (AV.Mb s i t)) s.fr,hp:=del i s.hp }
def EO (s:St):List AV->Option (Nat×Ty)
 | []=>none
 | .sub i [] _ _::l=>(match s.obj i,l.any (·.j5 i),pinned i with
  | some (.own (.d8 true u) _),true,false=>some (i,.d8 false u.sh)
  | _,_,_=>EO s l)
 | .at_ i []::l=>(match s.obj i,l.any (·.j5 i),pinned i with
  | some (.own (.d8 true u) _),true,false=>some (i,.d8 false u.sh)
  | _,_,_=>EO s l)
 | _::l=>EO s l
def US:AV->Bool
 | .val (.d8 false _) _=>true
 | _=>false
def Jf (s:St):List AV->Option (Nat×Ty)
 | []=>none
 | .at_ i []::l=>(match s.obj i,pinned i with
  | some (.own (.d8 true u) _),false=>some (i,.d8 false u.sh)
  | _,_=>Jf s l)
 | _::l=>Jf s l
def Wz (s:St) (l:List AV):Option (Nat×Ty) :=
 match EO s l,l.any US with
 | some r,_=>some r
 | none,true=>Jf s l
 | none,false=>none
def St.xu:List Nat->St->St
 | [],s=>s
 | i::l,s=>(match s.obj i,pinned i with
  | some (.own (.d8 true u) _),false=>St.xu l (s.wC i (.d8 false u.sh))
  | _,_=>St.xu l s)
def AS (E:Env) (o:Oper) (s:St):Option St :=
 match E.ps.any PK.l5,o.op with
 | false,.call c=>(match c.callee,c.args.toList with
  | .value (.func g),x::_=>(match look g E.E4,s.ev x with
   | some ⟨.rw t::_,_,_,_,_,_⟩,.ptr i []=>(match s.obj i with
    | some (.var u y)=>(match decide (u=t) with
     | true=>none
     | false=>(match yT u t y with
      | some z=>some ((s.xD i).y9 i (.var t z))
      | none=>none))
    | _=>none)
   | some ⟨.rd t::_,rs,_,_,_,nw⟩,.ptr i []=>(match rs.all Ty.K2 || nw,pinned i,s.vA t i [] with
    | false,false,some _=>some (s.wC i t)
    | _,_,_=>none)
   | some ⟨ps,rs,_,_,_,nw⟩,_=>(match rs.all Ty.K2 || nw with
    | true=>none
    | false=>some (s.xu (T6.loose ps (s.K5 c.args.toList))))
   | _,_=>none)
  | _,_=>none)
 | false,.buildSlice _ _ parts=>(match Wz s (parts.toList.map λ q=>s.ev q.2) with
  | some (i,t)=>(match pinned i with
   | false=>some (s.wC i t)
   | true=>none)
  | none=>none)
 | _,_=>none
def PK.vu:PK->Bool
 | .own _=>true
 | _=>false
def DT (E:Env) (o:Oper) (s:St):Option St :=
 match o.op with
 | .call c=>(match c.callee,c.args.toList with
  | .value (.func g),.tmp tx::_=>(match look g E.E4,look tx s.fr with
   | some ⟨.own (.d8 true t)::ks,rs,_,_,_,_⟩,some (.at_ i (st::p))=>(match s.obj i with
    | some (.var u y)=>(match j9 u y (st::p),w5 u y (st::p) (.hole t) ([]:List t.den) with
     | some ⟨v,l⟩,some r =>
      if h:v=.d8 true t then
       (match (ks.any PK.vu || rs.isEmpty) && ((s.kill i (i7.var u y).kd (st::p)).y9 i (.var r.1 r.2)).fresh (1600000+tx) with
       | true=>some { ((s.kill i (i7.var u y).kd (st::p)).y9 i (.var r.1 r.2)).y9 (1600000+tx) (.own (.d8 true t) (X3 h l)) with fr:=Ex.put tx (.at_ (1600000+tx) []) ((s.kill i (i7.var u y).kd (st::p)).y9 i (.var r.1 r.2)).fr }
       | false=>none)
      else none
     | _,_=>none)
    | _=>none)
   | _,_=>none)
  | _,_=>none)
 | _=>none
def Dr (E:Env) (o:Oper) (s:St):St :=
 match o.op with
 | .call c=>(match c.callee,c.args.toList with
  | .value (.func g),x::_=>(match look g E.E4,s.ev x with
   | some ⟨.mu _::_,_,_,_,_,_⟩,.at_ i []=>(match s.obj i with
    | some (.own (.C6 t) z)=>(match Nat.ble 1 z.1 && Nat.ble z.1 2 with
     | true=>match t.shared with|false=>s|true=>{ fr:=mapA (AV.map λ v=>match v.j5 i with|false=>v|true=>match v with|.at_ j []=>.at_ j []|_=>.any) s.fr,hp:=Ex.put i (.own (.d8 true t) z.2.1) s.hp }
     | false=>s)
    | _=>s)
   | _,_=>s)
  | _,_=>s)
 | _=>s
def Mu (E:Env) (o:Oper) (s:St):St:=(DT E o ((AS E o s).getD s)).getD ((AS E o s).getD s)
def Dj (E:Env) (o:Oper) (s:St):St:=Mu E o (Dr E o s)
def wv (E:Env) (ops:Array Oper):Nat->List Oper->St->(St->Tree (E.rs++F6 E.ps))->Tree (E.rs++F6 E.ps)
 | _,[],s,k=>k s
 | n+1,_::rest,s,k=>wv E ops n rest s k
 | 0,o::rest,s0,k=>let s:=Dj E o s0
  match Mk E o rest s with
  | some (p,s',n)=>.f9 p (wv E ops n rest s' k)
  | none=>match Ml E o rest s with
  | some (p,s',n)=>.f9 p (wv E ops n rest s' k)
  | none=>match GQ E o s with
  | some (p,s')=>.f9 p (wv E ops 0 rest s' k)
  | none=>match He E o s with
  | some (p,s')=>.f9 p (wv E ops 0 rest s' k)
  | none=>match o.guard,H7 E.nt o.dst,brA E s o with
   | none,true,some (p,v1,v2)=>.both p (wv E ops 0 rest (s.put o.dst v1) k) (wv E ops 0 rest (s.put o.dst v2) k)
   | _,_,_=>yr E ops o s λ s'=>wv E ops 0 rest s' k
def OR.get:OR->Option (Prop×AV×St)
 | .fail _=>none
 | .ok v s=>some (True,v,s)
 | .G6 p v s=>some (p,v,s)
def Y3 (E:Env) (o:Oper) (s:St):Option (Prop×St) :=
 match H7 E.nt o.dst with
 | false=>none
 | true =>
 match o.op with
 | .pick c a b=>match s.ev c with
  | .val .bool g=>some (True,s.put o.dst (match g with|true=>s.ev a|false=>s.ev b))
  | _=>none
 | _=>match (n6 E o s).get with
  | none=>none
  | some (p,v,s')=>some (p,s'.put o.dst v)
def I0 (E:Env) (ops:Array Oper) (o:Oper) (s:St):Option (Prop×St) :=
 match o.guard with
 | none=>Y3 E o s
 | some (j,want)=>match AH ops j with
  | none=>none
  | some g=>match s.ev (.tmp g) with
   | .raw (.tuple _)=>match H7 E.nt o.dst with
    | true=>some (True,s.put o.dst (.raw undef))
    | false=>none
   | .val .bool b=>match H7 E.nt o.dst with
    | false=>none
    | true=>match b == want with
     | true=>Y3 E o (s.put (some g) (.val .bool b))
     | false=>some (True,(s.put (some g) (.val .bool b)).put o.dst (.raw undef))
   | _=>none
def looks (ops:Array Oper) (o:Oper):List Nat :=
 (o.op.operands.toList.filterMap λ|.tmp t=>some t|_=>none) ++
 (match o.guard with
 | some (g,_)=>(AH ops g).toList
 | none=>[])
def MX (ops:Array Oper) (x y:Oper):Bool :=
 (match x.dst with
 | some d=>!(looks ops y).contains d && (match y.dst with|some e=>!(Nat.beq d e)|none=>true)
 | none=>true) &&
 (match y.dst with
 | some d=>!(looks ops x).contains d
 | none=>true)
def indep (ops:Array Oper) (x y:Oper):Bool:=MX ops x y && !(Nat.beq ((x.dst.getD 0) % 1000) ((y.dst.getD 0) % 1000))
def l5 (E:Env) (o:Oper) (s:St):List Nat :=
 match o.op with
 | .store _ a x=>(s.ev a).I1++(s.ev x).I1
 | .box _ x=>(s.ev x).I1
 | .build _ parts=>(s.K5 (parts.toList.map (·.2))).I1
 | .buildSlice _ _ parts=>(s.K5 (parts.toList.map (·.2))).I1
 | .mapUpdate _ m _ _=>(s.ev m).I1
 | .call c=>(match c.callee with
  | .value f=>(match s.ev f with
   | .D3 g caps=>(match look g E.E4 with
    | some c'=>(match c'.ps.any PK.l5 with
     | false=>[]
     | true=>((s.K5 c.args.toList).app caps).I1)
    | none=>[])
   | .val (.fn g) _=>(match look g E.E4 with
    | some c'=>(match c'.ps.any PK.l5 with
     | false=>[]
     | true=>((s.K5 c.args.toList).app .nil).I1)
    | none=>[])
   | .val (.box false (some g) t) y=>(match look g E.E4 with
    | some c'=>(match c'.ps.any PK.l5 with
     | false=>[]
     | true=>((s.K5 c.args.toList).app (.cons (.P8 t (Option.getD (y:Option t.den) t.s8)) .nil)).I1)
    | none=>[])
   | _=>[])
  | .builtin .append=>(s.K5 c.args.toList).I1
  | .builtin .copy=>(s.K5 c.args.toList).I1
  | .builtin .clear=>(s.K5 c.args.toList).I1
  | _=>[])
 | _=>[]
structure Met where
 i:Nat
 o:Oper
 s:St
 T:List Nat
def K4 (o:Oper) (v:AV):AV :=
 match o.guard,o.op with
 | none,.extract _ j=>(match v with
  | .M2 l=>(match n6.nth j l with
   | some v=>.M2 (.cons v .nil)
   | none=>.any)
  | _=>.any)
 | _,_=>v
def Br (ops:Array Oper) (e:Met) (y:Oper) (Ty:List Nat):Bool :=
 (match e.T with
  | []=>true
  | T=>((looks ops y).all λ m=>T.all λ i=>!(K4 y (e.s.get m)).j5 i) && T.all λ i=>!(Nat.beq (i % 1000) ((y.dst.getD 0) % 1000))) &&
 (match Ty with
  | []=>true
  | T=>(looks ops e.o).all λ m=>T.all λ i=>!(K4 e.o (e.s.get m)).j5 i)
def E6:List Oper->List Nat->List Nat
 | [],acc=>acc
 | o::l,acc=>E6 l (acc++[o.after.toList.foldl (λ m e=>match Region.binds .any e with|true=>Nat.lor (Nat.lor m (2^e.on)) (acc.getD e.on 0)|false=>m) 0])
def Mh (_:List Nat) (o:Oper) (_ i:Nat):Bool :=
 o.after.toList.all λ e=>!Region.binds .any e || Nat.blt e.on i
def MG (M:List Nat) (o:Oper) (m n:Nat):Bool :=
 (List.range n).all λ j=>!(m.testBit j) || o.after.toList.any λ e=>Region.binds .any e && (Nat.beq e.on j || (M.getD e.on 0).testBit j)
def wL (ops:Array Oper):Bool :=
 let M:=E6 ops.toList []
 let L:=ops.toList
 let n:=L.length
 (List.range n).all λ i=>match L[i]? with
  | none=>false
  | some o=>Mh M o (M.getD i 0) i && MG M o (M.getD i 0) n &&
   (List.range i).all λ j=>match L[j]? with
    | none=>false
    | some x=>(M.getD i 0).testBit j || indep ops x o
def AV.clean:AV->Bool
 | .ptr _ _|.at_ _ _|.sub _ _ _ _=>false
 | .cons a b=>a.clean && b.clean
 | .M2 l|.D3 _ l|.bx l|.rc _ l=>l.clean
 | _=>true
def Bq {α:Type _}:List (Nat×α)->Bool
 | []=>true
 | (n,_)::l=>(match l with
  | []=>true
  | (m,_)::_=>Nat.blt n m) && Bq l
def Cr:List Nat->Bool
 | []=>true
 | a::l=>!l.contains a && Cr l
def wt (ops:List Oper):List Nat:=ops.filterMap (·.dst)
def BR (ops:Array Oper) (s:St):Bool :=
 Bq s.fr && Cr (wt ops.toList) && (wt ops.toList.dropLast).all λ d=>(s.get d).clean
def zm (ops:Array Oper) (j:Nat):Bool:=(List.range ops.size).all λ i=>!Nat.blt j i || ((E6 ops.toList []).getD i 0).testBit j
def Jd (ops:Array Oper) (s:St):Bool :=
 Bq s.fr && Cr (wt ops.toList) && (List.range ops.size).all λ j=>zm ops j || (match ops[j]? with
  | some o=>(match o.dst with
   | some d=>(s.get d).clean
   | none=>true)
  | none=>true)
def Q9:Code->Nat
 | .region id _ _=>id
 | .seq a _=>Q9 a
 | .block _ c=>Q9 c
 | .loop c=>Q9 c
 | .cond _ a _=>Q9 a
 | _=>0
structure vO where
 k:Nat
 x:Operand
 y:Operand
 T:TypeId
 U:TypeId
 d:Nat
def GP (E:Env) (o:Oper) (s:St) (i:Nat):Option vO :=
 match o.guard,o.dst,H7 E.nt o.dst,o.op with
 | none,some d,true,.call c=>(match c.callee,c.args.toList,c.argTypes.toList with
  | .builtin .append,[x,y],[T,U]=>(match s.ev x with
   | .at_ j p=>(match (AV.at_ j p).vg s with
    | some _=>none
    | none=>some ⟨i,x,y,T,U,d⟩)
   | _=>none)
  | _,_,_=>none)
 | _,_,_,_=>none
def LU (o:Oper):Bool:=match o.guard,o.op with|none,.store _ _ _=>true|_,_=>false
def quiet (o:Oper):Bool :=
 o.guard.isNone && (match o.op with
  | .move _=>true
  | .load _ _=>true
  | .fieldAddr _ _ _=>true
  | .indexAddr _ _ _=>true
  | .nilCheck _=>true
  | .binOp .rem _ _ _ _=>true
  | _=>false)
def zW (d:Option Nat) (L:List Nat):Bool :=
 match d with
 | some e=>!L.contains e
 | none=>true
def Ek (ops:Array Oper) (M:List Nat) (k n:Nat):Bool :=
 Nat.beq (n+1) ops.size && Nat.blt k n && (match ops[k]? with
  | some ok=>(List.range n).all λ j=>(M.getD n 0).testBit j && (Nat.beq j k || (match ops[j]? with
   | some o=>zW o.dst ok.dst.toList && ((M.getD k 0).testBit j || ((quiet o || LU o) && zW o.dst (looks ops ok)))
   | none=>false))
  | none=>false)
def zf (ops:Array Oper) (q:vO) (n j:Nat) (o:Oper) (s:St):Bool :=
 match o.op with
 | .store _ ad x=>(match s.ev ad,s.ev x with
  | .ptr j0 _,.val _ _=>!(s.ev q.x).j5 j0 && !(s.ev q.y).j5 j0
  | _,_=>false) && o.guard.isNone && o.dst.isNone && (List.range n).all λ j'=>Nat.ble j' j || (match ops[j']? with
   | some o'=>zW o'.dst (looks ops o)
   | none=>true)
 | _=>false
def Ea (ops:Array Oper) (M:List Nat) (q:vO) (n:Nat) (s:St):Bool :=
 (List.range n).all λ j=>Nat.beq j q.k || (match ops[j]? with
  | some o=>(M.getD q.k 0).testBit j || quiet o || zf ops q n j o s
  | none=>true)
def zQ (E:Env) (ops:Array Oper) (M:List Nat) (q:vO) (i:Nat) (o:Oper) (s:St):Option (Prop×St) :=
 match o.guard,o.op with
 | none,.store T2 ad (.tmp d')=>(match Nat.beq d' q.d && (match ad with|.tmp t=>!Nat.beq t q.d|_=>true) && Ek ops M q.k i && Ea ops M q i s && H7 E.nt o.dst with
  | true=>(match xX E q.T q.U T2 (s.ev q.x) (s.ev q.y) (s.ev ad) q.d s with
   | some (p,s2)=>some (p,s2.put o.dst (.raw undef))
   | none=>none)
  | false=>none)
 | _,_=>none
def AW (E:Env) (ops:Array Oper) (M:List Nat) (q:vO):Nat->List Oper->St->List Met->(St->Tree (E.rs++F6 E.ps))->Tree (E.rs++F6 E.ps)
 | _,[],_,_,_=>.stuck "draw: pending"
 | i,[o],s,_,k=>(match zQ E ops M q i o s with
  | some (p,s2)=>.f9 p (k s2)
  | none=>.stuck "draw: append")
 | i,o::o2::rest,s,acc,k =>
  match acc.all λ e=>(M.getD i 0).testBit e.i || Br ops e o (l5 E o s) with
  | false=>.stuck "draw: objects"
  | true=>yr E ops o s λ s'=>AW E ops M q (i+1) (o2::rest) s' (⟨i,o,s,l5 E o s⟩::acc) k
def Dl (E:Env) (ops:Array Oper) (M:List Nat):Nat->List Oper->St->List Met->(St->Tree (E.rs++F6 E.ps))->Tree (E.rs++F6 E.ps)
 | _,[],s,_,k=>k s
 | i,o::rest,s,acc,k =>
  match GP E o s i with
  | some q=>AW E ops M q (i+1) rest s acc k
  | none=>match acc.all λ e=>(M.getD i 0).testBit e.i || Br ops e o (l5 E o s) with
   | false=>.stuck "draw: objects"
   | true=>yr E ops o s λ s'=>Dl E ops M (i+1) rest s' (⟨i,o,s,l5 E o s⟩::acc) k
def Dm (E:Env) (ops:Array Oper) (M:List Nat):Nat->List Oper->St->List Met->(St->Tree (E.rs++F6 E.ps))->Tree (E.rs++F6 E.ps)
 | _,[],s,_,k=>k s
 | i,o::rest,s,acc,k =>
  match acc.all λ e=>(M.getD i 0).testBit e.i || Br ops e o (l5 E o s) with
  | false=>.stuck "draw: objects"
  | true=>yr E ops o s λ s'=>Dm E ops M (i+1) rest s' (⟨i,o,s,l5 E o s⟩::acc) k
def Ym (ops:Array Oper) (s:St) (t:Nat):Option Nat :=
 ops.toList.findSome? λ o=>match o.dst,o.op with
  | some d,.slice _ (.tmp a) _ _ _=>(match Nat.beq d t with
   | true=>ops.toList.findSome? λ o2=>(match o2.dst,o2.op with
    | some d2,.move (.tmp x)=>(match Nat.beq d2 a,look x s.fr with
     | true,some (.at_ i [])=>some i
     | _,_=>none)
    | _,_=>none)
   | false=>none)
  | _,_=>none
def Wc (ops:Array Oper) (s:St):Option Nat :=
 ops.toList.findSome? λ o=>match o.op with
  | .buildSlice _ _ parts=>(match parts.toList.filterMap λ q=>(match q.2 with|.tmp t=>Ym ops s t|_=>none) with
   | i::j::_=>(match Nat.beq i j with|true=>some i|false=>none)
   | _=>none)
  | _=>none
def Mn (m i:Nat) (p:List Step) (s:St):St :=
 match s.obj i with
 | some (.var u y)=>(match j9 u y p with
  | some ⟨.C6 t0,z⟩=>(match t0.shared,w5 u y p (.C6 t0) ((0,z.2.1,[]):Nat×(List t0.den×List t0.den)) with
   | true,some r=>{ ((s.xD i).y9 i (.var r.1 r.2)) with fr:=Ex.put m (.val (.d8 false t0) z.2.1) ((s.xD i).y9 i (.var r.1 r.2)).fr }
   | _,_=>s)
  | _=>s)
 | _=>s
def Gd (E:Env) (m:Nat) (t:Ty) (s:St):St :=
 match E.ps.any PK.l5,s.get m with
 | false,.ptr i []=>(match s.obj i with
  | some (.var u y)=>(match decide (u=t) with
   | true=>s
   | false=>(match yT u t y with
    | some z=>(s.xD i).y9 i (.var t z)
    | none=>s))
  | _=>s)
 | _,.at_ i p=>(match t with
  | .d8 false _=>Mn m i p s
  | _=>s)
 | _,.raw (.slice none 0 0)=>(match t with
  | .d8 false u=>{ s with fr:=Ex.put m (.val (.d8 false u) ([]:List u.den)) s.fr }
  | _=>s)
 | _,_=>s
def Ao (E:Env):List (Nat×Option Ty)->St->St
 | [],s=>s
 | (m,some t)::l,s=>Ao E l (Gd E m t s)
 | (_,none)::l,s=>Ao E l s
def VA (ops:Array Oper):Nat:=(ops.toList.findSome? λ o=>o.dst).getD 0
def Dk (E:Env) (ops:Array Oper) (s:St):St :=
 match look (998000+VA ops) E.D5 with
 | some l=>Ao E l s
 | none=>s
def GV (E:Env) (ops:Array Oper) (s:St):St :=
 match E.ps.any PK.l5,Wc ops s with
 | false,some i=>(match s.obj i,pinned i with
  | some (.own (.d8 true u) _),false=>s.wC i (.d8 false u.sh)
  | _,_=>s)
 | _,_=>s
def zL (E:Env) (ops:Array Oper) (s:St):St:=GV E ops (Dk E ops s)
def Ty.Gb:Ty->Bool
 | .int _|.bool|.str|.unit=>true
 | .pair a b=>a.Gb && b.Gb
 | _=>false
def As (o:Oper) (s:St):Bool :=
 match o.guard,o.op with
 | none,.store _ a x=>(match s.ev a,s.ev x with
  | .ptr _ _,.val t _=>t.Gb
  | _,_=>false)
 | _,_=>false
def Up (o:Oper):Bool :=
 match o.guard,o.op with
 | none,.indexAddr _ _ _=>true
 | none,.fieldAddr _ _ _=>true
 | _,_=>false
def HM (o:Oper) (s:St):Bool :=
 match o.guard,o.op with
 | none,.indexAddr _ a i=>(match s.ev a,s.ev i with
  | .at_ _ _,.val (.int _) _=>true
  | _,_=>false)
 | none,.fieldAddr _ a _=>(match s.ev a with
  | .ptr _ _=>true
  | _=>false)
 | _,_=>false
def Gc (o:Oper) (s:St):Option (Nat×(Bool×Ty)×List Step) :=
 match As o s,o.op with
 | true,.store _ a _=>(match s.ev a with
  | .ptr j q=>(look j s.hp).map λ e=>(j,e.kd,q)
  | _=>none)
 | _,_=>none
def tyP:Ty->List Step->Option Ty
 | t,[]=>some t
 | .pair a _,.l8 0::p=>tyP a p
 | .pair _ b,.l8 (n+1)::p=>tyP b (.l8 n::p)
 | .arr _ t,.idx _::p=>tyP t p
 | .d8 true t,.idx _::p=>tyP t p
 | _,_=>none
def Be (j:Nat) (kd:Bool×Ty) (q:List Step) (v:AV):Bool :=
 match v with
 | .ptr i p=>!Nat.beq j i || kp q p
 | .at_ i p=>!Nat.beq j i || (match AV.Bg j kd q (.at_ i p) with|.at_ _ _=>true|_=>false)
 | .val _ _=>true
 | _=>false
def hpk (s:St) (i:Nat):Option (Bool×Ty):=(look i s.hp).map i7.kd
def Bf (o:Oper) (s:St) (j:Nat) (kd:Bool×Ty) (q:List Step):Bool :=
 match o.guard,o.op with
 | none,.move a=>Be j kd q (s.ev a)
 | none,.fieldAddr _ a n=>(match s.ev a with
  | .ptr i p=>Be j kd q (.ptr i p) && Be j kd q (.ptr i (p++[.l8 n]))
  | _=>false)
 | none,.load _ a=>(match s.ev a with
  | .ptr i p=>Be j kd q (.ptr i p) && Be j kd q (.at_ i p) && (match hpk s i with
   | some k=>(match tyP k.2 p with
    | some u=>!u.shared
    | none=>false)
   | none=>false)
  | _=>false)
 | _,_=>false
def LR (ops:Array Oper):List Nat:=ops.toList.filterMap λ o=>match Up o with|true=>o.dst|false=>none
def L7:List Oper->St->St
 | [],s=>s
 | o::l,s=>match o.op with
  | .call c=>(match c.callee,o.dst with
   | .builtin .append,some d=>L7 l { s with fr:=Ex.put d .any s.fr }
   | _,_=>L7 l s)
  | _=>L7 l s
def Nd (i:Nat) (s:St):List Nat->Bool
 | []=>false
 | t::l=>(s.get t).j5 i || Nd i s l
def Q6 (live:List Nat) (s0:St):List (Nat×i7)->St->St
 | [],s=>s
 | (i,_)::l,s=>match pinned i || Nd i s0 live with
  | true=>Q6 live s0 l s
  | false=>Q6 live s0 l (s.drop i)
def AV.ren (i j:Nat):AV->AV:=AV.map λ v =>
 match v.j5 i with
 | false=>v
 | true=>match v with
  | .ptr _ p=>.ptr j p
  | .at_ _ p=>.at_ j p
  | .sub _ p a b=>.sub j p a b
  | _=>.any
def settle (m:Nat) (t:Ty) (s:St):St :=
 match s.get m with
 | .raw (.slice none 0 0)=>(match t,s.fresh (1000000+m) with
  | .d8 true u,true=>{ s.y9 (1000000+m) (.own (.d8 true u) ([]:List u.den)) with fr:=Ex.put m (.at_ (1000000+m) []) s.fr }
  | _,_=>s)
 | .at_ i []=>(match s.obj i with
  | some (.own u x)=>(match pinned i || !s.fresh (1000000+m) with
   | true=>s
   | false=>{ fr:=mapA (AV.ren i (1000000+m)) s.fr,hp:=Ex.put (1000000+m) (.own u x) (del i s.hp) })
  | _=>s)
 | .sub i [] lo hi=>(match (AV.sub i [] lo hi).vg s with
  | some (⟨u,x⟩,_)=>(match pinned i || !(s.drop i).fresh (1000000+m) with
   | true=>s
   | false=>{ (s.drop i).y9 (1000000+m) (.own u x) with fr:=Ex.put m (.at_ (1000000+m) []) (s.drop i).fr })
  | none=>s)
 | .val u x=>(match decide (u=t) && s.fresh (1000000+m) with
  | true=>{ s.y9 (1000000+m) (.own u x) with fr:=Ex.put m (.at_ (1000000+m) []) s.fr }
  | false=>s)
 | _=>s
def Y0:List (Nat×Option Ty)->St->St
 | [],s=>s
 | (_,none)::l,s=>Y0 l s
 | (m,some t)::l,s=>Y0 l (settle m t s)
def canon (live:List (Nat×Option Ty)) (s:St):St :=
 let ts:=live.map (·.1)
 let s:=Q6 ts s s.hp s
 let s:=Y0 live s
 let s:=Q6 ts s s.hp s
 { fr:=ts.map λ t=>(t,s.get t),hp:=s.hp }
def St.cutAt (E:Env) (c:Code) (s:St):St:=canon ((look (Q9 c) E.D5).getD []) (Ao E ((look (Q9 c) E.D5).getD []) s)
def ye (E:Env) (s:St):List ResultVar->Option AV
 | []=>some .nil
 | .tmp t::l=>match ye E s l with|some v=>some (.cons (s.ev (.tmp t)) v)|none=>none
 | .cell a T::l=>match s.ev (.tmp a) with
  | .ptr i p=>(match s.part i p with
   | some ⟨u,y⟩=>(match J8 E T u with
    | true=>(match ye E s l with
     | some v=>(match u.shared with|true=>some (.cons (.val u y) v)|false=>some (.cons (.at_ i p) v))
     | none=>none)
    | false=>none)
   | none=>none)
  | _=>none
def HW (s:St) (t:Ty) (used:List Nat) (a:AV):Option (t.den×List Nat) :=
 match a with
 | .at_ i []=>(match used.contains i || pinned i with
  | true=>none
  | false=>match s.obj i with
   | some (.var u x)=>if h:u=t then some (X3 h x,i::used) else none
   | some (.own u x)=>if h:u=t then some (X3 h x,i::used) else none
   | _=>none)
 | .sub i [] lo hi=>(match used.contains i || pinned i with
  | true=>none
  | false=>match (AV.sub i [] lo hi).vg s with
   | some (⟨u,x⟩,_)=>if h:u=t then some (X3 h x,i::used) else none
   | none=>none)
 | .ptr i []=>(match used.contains i || pinned i with
  | true=>none
  | false=>match s.obj i with
   | some (.var u x)=>if h:Ty.box true none u=t then some (X3 h (some x),i::used) else none
   | _=>none)
 | .D3 f (.cons (.ptr i []) .nil)=>(match used.contains i || pinned i with
  | true=>none
  | false=>match s.obj i with
   | some (.var u x)=>if h:Ty.box true (some f) u=t then some (X3 h (some x),i::used) else none
   | _=>none)
 | .raw (.pointer none)=>(match t with
  | .box true none u=>some ((none:Option u.den),used)
  | _=>none)
 | a=>match a.as t with
  | some x=>some (x,used)
  | none=>none
def AX (s:St):(rs:List Ty)->List Nat->AV->Option (DL rs)
 | [],_,.nil=>some ()
 | t::ts,used,.cons a b=>match HW s t used a with
  | some (x,ff)=>match AX s ts ff b with
   | some y=>some (x,y)
   | none=>none
  | none=>none
 | _,_,_=>none
def vq (s:St):(ks:List PK)->Nat->Option (DL (F6 ks))
 | [],_=>some ()
 | .rw t::ks,j=>match s.obj (2000000+j),vq s ks (j+1) with
  | some (.var u x),some y=>if h:u=t then some (X3 h x,y) else none
  | _,_=>none
 | .mu t::ks,j=>match s.obj (2000000+j),vq s ks (j+1) with
  | some (.own u x),some y=>if h:u=.d8 true t then some (X3 h x,y) else none
  | _,_=>none
 | .v _::ks,j=>vq s ks (j+1)
 | .rd _::ks,j=>vq s ks (j+1)
 | .D3 _ _::ks,j=>vq s ks (j+1)
 | .own _::ks,j=>vq s ks (j+1)
 | .W3::ks,j=>vq s ks (j+1)
 | .rcs _ _::ks,j=>vq s ks (j+1)
 | .el _::ks,j=>vq s ks (j+1)
def finish (E:Env) (s:St):Tree (E.rs++F6 E.ps) :=
 match ye E s E.res with
 | none=>.stuck "result"
 | some l=>match AX s E.rs [] l,vq s E.ps 0 with
  | some y,some z=>.ret (DL.app y z)
  | _,_=>.stuck "result: type"
def Cc:List ResultVar->List Ty->List (Nat×Option Ty)
 | .cell a _::l,t::ts=>(a,some t)::Cc l ts
 | _::l,_::ts=>Cc l ts
 | _,_=>[]
def IK (E:Env) (s:St):Tree (E.rs++F6 E.ps) :=
 match E.gp with
 | none=>finish E s
 | some p=>match look J7 s.fr with
  | some (.ptr i q)=>.f9 (i=2000000/\q=p/\E.nt<=J7) (finish E s)
  | _=>.stuck "ghost"
def Np (E:Env) (s:St):Tree (E.rs++F6 E.ps):=IK E (Ao E (Cc E.res E.rs) s)
def exec (E:Env):Nat->List Item->St->Tree (E.rs++F6 E.ps)
 | 0,_,_=>.stuck "fuel"
 | n+1,k,s =>
  match k with
  | []=>Np E s
  | .inBlock _::k=>exec E n k s
  | .inLoop c::k=>.cut c k (s.cutAt E c)
  | .code c::k =>
   match c with
   | .skip=>exec E n k s
   | .seq a b=>exec E n (.code a::.code b::k) s
   | .cond c a b=>match s.ev c with
    | .val .bool g=>cond g (exec E n (.code a::k) s) (exec E n (.code b::k) s)
    | _=>.stuck "cond"
   | .block id c=>exec E n (.code c::.inBlock id::k) s
   | .loop c=>.cut c k (s.cutAt E c)
   | .exit id=>match exitTo id k with
    | some k'=>exec E n k' s
    | none=>.stuck "exit"
   | .ret=>Np E s
   | .region _ ops draw=>match draw with
    | false=>wv E ops 0 ops.toList (Dk E ops s) λ s'=>exec E n k s'
    | true=>match wL ops && BR ops (L7 ops.toList (zL E ops s)) && E.P.follows .mixedOrders with
     | true=>Dl E ops (E6 ops.toList []) 0 ops.toList (L7 ops.toList (zL E ops s)) [] λ s'=>exec E n k s'
     | false=>match wL ops && Jd ops (L7 ops.toList (zL E ops s)) && E.P.follows .mixedOrders with
      | true=>Dm E ops (E6 ops.toList []) 0 ops.toList (L7 ops.toList (zL E ops s)) [] λ s'=>exec E n k s'
      | false=>.stuck "draw"
   | _=>.stuck "code"
  | _::_=>.stuck "item"
def ze:Code->List Item->List (Nat×(Code×List Item))
 | .seq a b,k=>ze a (.code b::k)++ze b k
 | .cond _ a b,k=>ze a k++ze b k
 | .block id c,k=>ze c (.inBlock id::k)
 | .loop c,k=>(Q9 c,(c,k))::ze c (.inLoop c::k)
 | _,_=>[]
def g8 (c:Code) (r:Nat):Code×List Item:=(look r (ze c [])).getD (.skip,[])
def W8:(ks:List PK)->DK ks->Nat->List (Nat×AV)
 | [],_,_=>[]
 | .v t::ks,x,i=>(i,.val t x.1)::W8 ks x.2 (i+1)
 | .rd t::ks,x,i=>(i,.P8 t x.1)::W8 ks x.2 (i+1)
 | .D3 f ts::ks,x,i=>(i,.D3 f (rdA ts x.1))::W8 ks x.2 (i+1)
 | .own _::ks,x,i=>(i,.at_ (1500000+i) [])::W8 ks x.2 (i+1)
 | .rw _::ks,x,i=>(i,.ptr (2000000+i) [])::W8 ks x.2 (i+1)
 | .mu _::ks,x,i=>(i,.at_ (2000000+i) [])::W8 ks x.2 (i+1)
 | .W3::ks,x,i=>(i,.raw (.slice none 0 0))::W8 ks x.2 (i+1)
 | .rcs _ _::ks,x,i=>(i,.any)::W8 ks x.2 (i+1)
 | .el _::ks,x,i=>(i,.any)::W8 ks x.2 (i+1)
where rdA:(ts:List Ty)->DL ts->AV
 | [],_=>.nil
 | t::ts,x=>.cons (.P8 t x.1) (rdA ts x.2)
def G2:(ks:List PK)->DK ks->Nat->List (Nat×i7)
 | [],_,_=>[]
 | .own t::ks,x,i=>Ex.put (1500000+i) (.own t x.1) (G2 ks x.2 (i+1))
 | .rw t::ks,x,i=>Ex.put (2000000+i) (.var t x.1) (G2 ks x.2 (i+1))
 | .mu t::ks,x,i=>Ex.put (2000000+i) (.own (.d8 true t) x.1) (G2 ks x.2 (i+1))
 | .v _::ks,x,i=>G2 ks x.2 (i+1)
 | .rd _::ks,x,i=>G2 ks x.2 (i+1)
 | .D3 _ _::ks,x,i=>G2 ks x.2 (i+1)
 | .W3::ks,x,i=>G2 ks x.2 (i+1)
 | .rcs _ _::ks,x,i=>G2 ks x.2 (i+1)
 | .el _::ks,x,i=>G2 ks x.2 (i+1)
def GY (fr:List (Nat×AV)):Nat->Nat->AV
 | _,0=>.nil
 | j,n+1=>.cons ((look j fr).getD .any) (GY fr (j+1) n)
def wz:(ks:List PK)->DK ks->Nat->List (Nat×AV)->List (Nat×AV)
 | [],_,_,fr=>fr
 | .rcs f n::ks,x,i,fr=>wz ks x.2 (i+1) (Ex.put i (.bx (.D3 f (.rc f (GY fr (i - n) n)))) fr)
 | .el q::ks,x,i,fr=>wz ks x.2 (i+1) (Ex.put i (.ptr (2000000+(i - 1)) (q++[.idx x.1])) fr)
 | .v _::ks,x,i,fr=>wz ks x.2 (i+1) fr
 | .rd _::ks,x,i,fr=>wz ks x.2 (i+1) fr
 | .D3 _ _::ks,x,i,fr=>wz ks x.2 (i+1) fr
 | .own _::ks,x,i,fr=>wz ks x.2 (i+1) fr
 | .rw _::ks,x,i,fr=>wz ks x.2 (i+1) fr
 | .mu _::ks,x,i,fr=>wz ks x.2 (i+1) fr
 | .W3::ks,x,i,fr=>wz ks x.2 (i+1) fr
def y8 (ks:List PK) (x:DK ks):St:={ fr:=wz ks x 0 (W8 ks x 0),hp:=G2 ks x 0 }
end Go.Ex
namespace Go.Ex
theorem yn {n m:Nat} (h:n≠m):Nat.beq n m=false:=by
 cases e:Nat.beq n m with
 | true=>exact absurd (Nat.eq_of_beq_eq_true e) h
 | false=>rfl
section
variable {α:Type _}
theorem o7 (n m:Nat) (x:α):∀ l:List (Nat×α),look n (put m x l)=if n=m then some x else look n l
 | []=>by
  simp only [put,look];by_cases h:n=m
  ·subst h; simp
  ·rw [if_neg h]; have:Nat.beq n m=false:=yn h
   simp [this]
 | (k,y)::l=>by
  simp only [put];cases hk:Nat.beq m k with
  | true =>
   have:m=k:=Nat.eq_of_beq_eq_true hk;subst this;simp only [look];by_cases h:n=m
   ·subst h; simp
   ·rw [if_neg h]; have:Nat.beq n m=false:=yn h
    simp [this]
  | false =>
   have pR:m≠k:=λ e=>by subst e; simp at hk
   cases Nat.blt m k with
   | true =>
    simp only [look];by_cases h:n=m
    ·subst h; simp
    ·rw [if_neg h]; have:Nat.beq n m=false:=yn h
     simp [this]
   | false =>
    simp only [look];cases hn:Nat.beq n k with
    | true =>
     have:n=k:=Nat.eq_of_beq_eq_true hn;subst this;simp [Ne.symm pR]
    | false=>exact o7 n m x l
theorem M1 (n m:Nat):∀ l:List (Nat×α),look n (del m l)=if n=m then none else look n l
 | []=>by simp [del,look]
 | (k,y)::l=>by
  simp only [del];cases hk:Nat.beq m k with
  | true =>
   have:m=k:=Nat.eq_of_beq_eq_true hk;subst this;simp only [look,M1 n m l];by_cases h:n=m
   ·simp [h]
   ·have:Nat.beq n m=false:=yn h
    simp [h,this]
  | false =>
   have pR:m≠k:=λ e=>by subst e; simp at hk
   simp only [look];cases hn:Nat.beq n k with
   | true =>
    have:n=k:=Nat.eq_of_beq_eq_true hn;subst this;simp [Ne.symm pR]
   | false=>exact M1 n m l
theorem P9 (n:Nat) (f:α->α):∀ l:List (Nat×α),look n (mapA f l)=(look n l).map f
 | []=>rfl
 | (k,y)::l=>by
  simp only [mapA,look];cases Nat.beq n k with
  | true=>rfl
  | false=>exact P9 n f l
end
theorem CS {d:Nat}:∀ {l:List (Nat×AV)},we d l=true->∀ {n:Nat} {v:AV},look n l=some v->v.j5 d=false
 | [],_,_,_,h=>by cases h
 | (k,y)::l,h,n,v,hv=>by
  simp only [we,Bool.and_eq_true,Bool.not_eq_true'] at h;simp only [look] at hv;cases hk:Nat.beq n k with
  | true=>rw [hk] at hv; cases hv; exact h.1
  | false=>rw [hk] at hv; exact CS h.2 hv
def AV.ref:AV->Bool
 | .ptr _ _|.at_ _ _|.sub _ _ _ _=>true
 | _=>false
theorem AV.map_id:∀ v:AV,v.map (λ u=>u)=v:=by
 intro v
 induction v with
 | cons a b iha ihb=>simp only [AV.map,iha,ihb]
 | M2 l ih=>simp only [AV.map,ih]
 | D3 f l ih=>simp only [AV.map,ih]
 | bx l ih=>simp only [AV.map,ih]
 | rc f l ih=>simp only [AV.map,ih]
 | _=>rfl
theorem Yb {H H':Array Go.Obj} {S:Nat->Prop}:∀ {t:Ty} {p:List Step} {r off r' ar:Nat} {O:List Nat} {x:t.den},i6 H S t O (e8 H r off t.size) x->off+t.size<=(x8 H r).length->B8 t x p ->
  e8 H' r' ar t.size=e8 H r off t.size->(∀ c∈O,H'[c]?=H[c]?)->∀ {u:Ty} {y:u.den},j9 t x p=some ⟨u,y⟩ ->
  (∃ k,C2 H t p r off=some (r,off+k)/\C2 H' t p r' ar=some (r',ar+k)/\k+u.size<=t.size)\/(∃ b o,C2 H t p r off=some (b,o)/\C2 H' t p r' ar=some (b,o)/\b∈O):=by
 intro t;have sub:∀ {r off r' ar n o m:Nat},e8 H' r' ar n=e8 H r off n->o+m<=n->e8 H' r' (ar+o) m=e8 H r (off+o) m:=by
  intro r off r' ar n o m h hm;have e:∀ (K:Array Go.Obj) (c d:Nat),e8 K c (d+o) m=((e8 K c d n).drop o).take m:=by
   intro K c d;rw [o6,n8 _ _ _ _ (by omega)]
  rw [e H',e H,h]
 have shift:∀ {a:Ty} {q:List Step} {r off r' ar d n s:Nat} {O:List Nat},(∃ k,C2 H a q r (off+d)=some (r,off+d+k)/\C2 H' a q r' (ar+d)=some (r',ar+d+k)/\k+s<=n)\/(∃ b o,C2 H a q r (off+d)=some (b,o)/\C2 H' a q r' (ar+d)=some (b,o)/\b∈O) ->
   ∀ {m:Nat} {O':List Nat},d+n<=m->(∀ c∈O,c∈O')->(∃ k,C2 H a q r (off+d)=some (r,off+k)/\C2 H' a q r' (ar+d)=some (r',ar+k)/\k+s<=m)\/(∃ b o,C2 H a q r (off+d)=some (b,o)/\C2 H' a q r' (ar+d)=some (b,o)/\b∈O'):=by
  intro a q r off r' ar d n s O h m O' hm hO;rcases h with ⟨k,h1,h2,h3⟩|⟨b,o,h1,h2,h3⟩
  ·exact .inl ⟨d+k,by rw [h1,Nat.add_assoc],by rw [h2,Nat.add_assoc],by omega⟩
  ·exact .inr ⟨b,o,h1,h2,hO b h3⟩
 induction t with
 | pair a c iha ihc =>
  intro p r off r' ar O x hR hb ho hc hO u y hg
  match p,ho,hg with
  | [],_,hg=>simp only [j9,Option.some.injEq] at hg; cases hg; exact .inl ⟨0,rfl,rfl,by omega⟩
  | .l8 0::p,ho,hg =>
   obtain ⟨P1,P2,rfl,h1,h2⟩:=hR;simp only [Ty.size] at *
   rw [n8 _ _ _ _ (by omega)] at h1;have:=iha h1 (by omega) ho (by have:=sub (o:=0) (m:=a.size) hc (by omega); simpa using this) (λ c hc=>hO c (by simp [hc])) hg;exact shift (d:=0) this (by omega) (λ c hc=>by simp [hc])
  | .l8 (n+1)::p,ho,hg =>
   obtain ⟨P1,P2,rfl,h1,h2⟩:=hR;simp only [Ty.size] at *
   rw [o6,Nat.add_sub_cancel_left] at h2;have:=ihc h2 (by omega) ho (sub (o:=a.size) (m:=c.size) hc (by omega)) (λ c hc=>hO c (by simp [hc])) hg;exact shift (d:=a.size) this (by omega) (λ c hc=>by simp [hc])
  | .idx i::p,ho,_=>simp [B8] at ho
 | arr n t ih =>
  intro p r off r' ar O x hR hb ho hc hO u y hg
  match p,ho,hg with
  | [],_,hg=>simp only [j9,Option.some.injEq] at hg; cases hg; exact .inl ⟨0,rfl,rfl,by omega⟩
  | .idx i::p,ho,hg =>
   obtain ⟨hi,ho⟩:=ho;obtain ⟨hl,hR⟩:=hR;simp only [Ty.size] at *
   obtain ⟨b1,b2,b3,b4⟩:=E7 (sz:=t.size) hi;obtain ⟨P1,P2,P3,rfl,g1,g2,g3⟩:=j6.split (d:=t.s8) (i:=i.toNat) (by rw [hl]; exact b1) hR;rw [o6,n8 _ _ _ _ (by omega)] at g2;have:=ih g2 (by omega) ho (sub (o:=i.toNat*t.size) (m:=t.size) hc (by omega)) (λ c hc=>hO c (by simp [hc])) hg;exact shift (d:=i.toNat*t.size) this (by omega) (λ c hc=>by simp [hc])
  | .l8 i::p,ho,_=>simp [B8] at ho
 | d8 o t ih =>
  intro p r off r' ar O x hR hb ho hc hO u y hg
  match p,ho,hg with
  | [],_,hg=>refine .inl ⟨0,by cases o<;>rfl,by cases o<;>rfl,?_⟩; have hg:some (⟨.d8 o t,x⟩:Sigma Ty.den)=some ⟨u,y⟩:=(by cases o<;>exact hg); cases hg; omega
  | .idx i::p,ho,hg =>
   cases o with
   | false=>simp [B8] at ho
   | true =>
    obtain ⟨hi,ho⟩:=ho;rcases hR with ⟨_,_,hn⟩|⟨b1,o1,cap,O',c1,c2,c3,c4,c5,rfl,c6⟩
    ·subst hn; simp at hi; omega
    ·simp only [Ty.size] at *
     have hh:=(R0 r off _).1 c1;have qd:=(R0 r' ar _).1 (hc.trans c1);obtain ⟨b1',b2,b3,b4⟩:=E7 (sz:=t.size) hi;obtain ⟨P1,P2,P3,rfl,g1,g2,g3⟩:=j6.split (d:=t.s8) (i:=i.toNat) b1' c5;rw [o6,n8 _ _ _ _ (by omega)] at g2;have cT:List.length x*t.size<=cap*t.size:=Nat.mul_le_mul_right _ c2;have:=ih g2 (by omega) ho (r':=b1) (ar:=o1+i.toNat*t.size) (l6 (hO b1 (by simp)) _ _) (λ c hc=>hO c (by simp [hc])) hg;simp only [C2,hh,qd];rcases this with ⟨k,h1,h2,h3⟩|⟨b,o,h1,h2,h3⟩
     ·exact .inr ⟨b1,_,h1,h2,by simp⟩
     ·exact .inr ⟨b,o,h1,h2,by simp [h3]⟩
  | .l8 i::p,ho,_=>cases o<;>simp [B8] at ho
 | _ =>
  intro p r off r' ar O x hR hb ho hc hO u y hg
  match p,ho,hg with
  | [],_,hg=>simp only [j9,Option.some.injEq] at hg; cases hg; exact .inl ⟨0,rfl,rfl,by omega⟩
  | .l8 i::p,ho,_=>simp [B8] at ho
  | .idx i::p,ho,_=>simp [B8] at ho
structure Ix where
 root:Nat->Nat×Nat
 cells:Nat->List Value
 own:Nat->List Nat
def gh (H:Array Go.Obj) (cs:List Value):Array Go.Obj:=H.push (.cells cs.toArray 0)
def VH (H:Array Go.Obj) (ι:Ix) (i:Nat):i7->Array Go.Obj
 | .own _ _=>gh H (ι.cells i)
 | _=>H
def VR (H:Array Go.Obj) (ι:Ix) (i:Nat):i7->Nat×Nat
 | .own _ _=>(H.size,0)
 | _=>ι.root i
def Place (H:Array Go.Obj) (ι:Ix) (i:Nat) (e:i7) (p:List Step):Option (Nat×Nat) :=
 match e with
 | .M3=>none
 | e=>C2 (VH H ι i e) e.ty p (VR H ι i e).1 (VR H ι i e).2
theorem I3 {H:Array Go.Obj} {ι:Ix} {i:Nat} {e:i7} {p:List Step} (he:e≠.M3):Place H ι i e p=C2 (VH H ι i e) e.ty p (VR H ι i e).1 (VR H ι i e).2:=by
 cases e<;>first|rfl|exact absurd rfl he
theorem JT {H:Array Go.Obj} {ι:Ix} {i:Nat} {e:i7} {p:List Step} {r:Nat×Nat} (h:Place H ι i e p=some r):e≠.M3:=by
 rintro rfl; cases h
def Loc (H:Array Go.Obj) (ι:Ix) (i:Nat) (e:i7) (p:List Step):Option (Nat×Nat) :=
 match Place H ι i e p with
 | some (b,off)=>if b<H.size then some (b,off) else none
 | none=>none
def Cells (H:Array Go.Obj) (ι:Ix) (i:Nat) (e:i7) (p:List Step) (u:Ty) (cs:List Value):Prop :=
 ∃ b off,Place H ι i e p=some (b,off)/\cs=e8 (VH H ι i e) b off u.size
def AU (sz:Nat) (a:Option Addr) (cap:Nat) (lo hi:Int) (v:Value):Prop :=
 ∃ c A,v=.slice A (hi - lo).toNat c/\(c≠0->A=a.map (·.add (lo.toNat*sz)))/\(hi - lo).toNat<=c/\lo.toNat+c=cap
def VX (H:Array Go.Obj) (S:Nat->Prop) (ι:Ix) (hp:List (Nat×i7)):AV->List Value->Prop
 | .any,vs=>∃ v,vs=[v]
 | .raw v,vs=>vs=[v]
 | .val t x,vs=>∃ cs,vs=[s5 t cs]/\i6 H S t [] cs x
 | .ptr i p,vs=>∃ e b off,look i hp=some e/\B8 e.ty e.x p/\Loc H ι i e p=some (b,off)/\vs=[.pointer (some ⟨b,off,none⟩)]
 | .P8 t x,vs=>∃ b off,vs=[.pointer (some ⟨b,off,none⟩)]/\S b/\off+t.size<=(x8 H b).length/\i6 H S t [] (e8 H b off t.size) x
 | .at_ i p,vs=>∃ e u y cs,look i hp=some e/\B8 e.ty e.x p/\j9 e.ty e.x p=some ⟨u,y⟩/\Cells H ι i e p u cs/\vs=[s5 u cs]
 | .sub i p lo hi,vs=>∃ e v,look i hp=some e/\B8 e.ty e.x p/\vs=[v]/\0<=lo/\lo<=hi /\
   ((∃ t l a cap,j9 e.ty e.x p=some ⟨.d8 true t,l⟩/\hi<=(List.length l:Int)/\Cells H ι i e p (.d8 true t) [.slice a (List.length l) cap]/\AU t.size a cap lo hi v) \/
   (∃ n t l b off,j9 e.ty e.x p=some ⟨.arr n t,l⟩/\(hi<=(n:Int)/\n<=maxLen)/\Loc H ι i e p=some (b,off)/\AU t.size (some ⟨b,off,none⟩) n lo hi v))
 | .nil,vs=>vs=[]
 | .cons a b,vs=>∃ v us,vs=v::us/\VX H S ι hp a [v]/\VX H S ι hp b us
 | .M2 l,vs=>∃ us,vs=[.tuple us.toArray]/\VX H S ι hp l us
 | .D3 f l,vs=>∃ us,vs=[.func (.func f) #[] us.toArray]/\VX H S ι hp l us
 | .bx l,vs=>∃ b off u,vs=[.pointer (some ⟨b,off,none⟩)]/\S b/\off+1<=(x8 H b).length/\e8 H b off 1=[u]/\VX H S ι hp l [u]
 | .rc f l,vs=>∃ b off us,vs=us++[.pointer (some ⟨b,off,none⟩)]/\S b/\off+1<=(x8 H b).length/\e8 H b off 1=[.func (.func f) #[] (us++[.pointer (some ⟨b,off,none⟩)]).toArray]/\VX H S ι hp l us
def OB (H:Array Go.Obj) (S:Nat->Prop) (ι:Ix) (i:Nat):i7->Prop
 | .var t x=>(∃ O,O.Perm (ι.own i)/\i6 H S t O (e8 H (ι.root i).1 (ι.root i).2 t.size) x)/\P5 H (ι.root i).1 ((ι.root i).2+t.size)/\((ι.root i).1::ι.own i).Nodup
 | .own t x=>(∃ O,O.Perm (ι.own i)/\i6 H S t O (ι.cells i) x)/\(ι.own i).Nodup
 | .M3=>(ι.own i).Nodup
def l7 (ι:Ix) (i:Nat):i7->List Nat
 | .var _ _=>(ι.root i).1::ι.own i
 | .own _ _=>ι.own i
 | .M3=>ι.own i
structure F3 where
 w0:World
 S0:Nat->Prop
 M:Nat->Prop
 n:Nat
 pins:List (Nat×(Nat×Nat)×List Value)
 gv:Value:=undef
def W7 (w w':World):Prop:=w'.tape=w.tape/\w.drawn<=w'.drawn
theorem W7.refl (w:World):W7 w w:=⟨rfl,Nat.le_refl _⟩
theorem W7.trans {w w' w'':World} (h':W7 w' w'') (h:W7 w w'):W7 w w'':=⟨h'.1.trans h.1,Nat.le_trans h.2 h'.2⟩
theorem W7.of {w w':World} (h:w'.tape=w.tape) (h2:w'.drawn=w.drawn):W7 w w':=⟨h,by rw [h2]; exact Nat.le_refl _⟩
structure HS (B:F3) (S:Nat->Prop) (ι:Ix) (hp:List (Nat×i7)) (w:World):Prop where
 os:w.os=B.w0.os
 tape:W7 B.w0 w
 out:w.output=B.w0.output
 size:B.w0.heap.size<=w.heap.size
 frame:∀ c,c<B.w0.heap.size->¬ B.M c->w.heap[c]?=B.w0.heap[c]?
 slt:∀ b,S b->b<w.heap.size
 s0:∀ b,B.S0 b->S b
 s1:∀ b,S b->B.S0 b\/B.w0.heap.size<=b\/B.M b
 ob:∀ i e,look i hp=some e->OB w.heap S ι i e
 bl:∀ i e,look i hp=some e->∀ b∈l7 ι i e,¬ S b/\(B.w0.heap.size<=b\/B.M b)/\b<w.heap.size
 dj:∀ i j ei ej,look i hp=some ei->look j hp=some ej->i≠j->∀ b∈l7 ι i ei,b∉l7 ι j ej
 pin:∀ q∈B.pins,pinned q.1=true/\(∃ e,look q.1 hp=some e)/\ι.root q.1=q.2.1/\ι.cells q.1=q.2.2
def F3.gd (B:F3) (t:Nat):Value:=match Nat.beq t J7 with|true=>B.gv|false=>undef
structure RS (B:F3) (S:Nat->Prop) (ι:Ix) (s:St) (a:Act) (w:World):Prop where
 hs:HS B S ι s.hp w
 dfr:a.defers=[]
 sz:a.tmps.size=B.n
 fr:∀ t v,look t s.fr=some v->VX w.heap S ι s.hp v [a.tmps.getD t (B.gd t)]
section
variable {H H':Array Go.Obj} {S S':Nat->Prop} {ι ι':Ix} {hp cK:List (Nat×i7)}
theorem VX.map {f:AV->AV} (hH:∀ b,S b->H'[b]?=H[b]?) (hS:∀ b,S b->S' b):∀ {v:AV} {vs:List Value},
  (∀ u vs,u.ref=true->(∀ i,u.j5 i=true->v.j5 i=true)->VX H S ι hp u vs->VX H' S' ι' cK (f u) vs)->VX H S ι hp v vs->VX H' S' ι' cK (v.map f) vs:=by
 intro v
 induction v with
 | any=>intro vs _ h; exact h
 | raw v=>intro vs _ h; exact h
 | val t x=>rintro vs _ ⟨cs,e,h⟩; exact ⟨cs,e,h.w6 (λ b hb=>by rcases hb with hb|hb; cases hb; exact hH b hb) hS⟩
 | ptr i p=>intro vs hf h; exact hf _ vs rfl (λ _ h=>h) h
 | P8 t x =>
  rintro vs _ ⟨b,off,e,hb,h3,h4⟩;refine ⟨b,off,e,hS b hb,by rw [Q4 (hH b hb)]; exact h3,?_⟩;rw [l6 (hH b hb)];exact h4.w6 (λ b hb=>by rcases hb with hb|hb; cases hb; exact hH b hb) hS
 | at_ i p=>intro vs hf h; exact hf _ vs rfl (λ _ h=>h) h
 | sub i p a b=>intro vs hf h; exact hf _ vs rfl (λ _ h=>h) h
 | nil=>intro vs _ h; exact h
 | cons a b iha ihb=>rintro vs hf ⟨v,us,e,ha,hb⟩; exact ⟨v,us,e,iha (λ u vs hu hm=>hf u vs hu (λ i hi=>by simp [AV.j5,hm i hi])) ha,ihb (λ u vs hu hm=>hf u vs hu (λ i hi=>by simp [AV.j5,hm i hi])) hb⟩
 | M2 l ih=>rintro vs hf ⟨us,e,h⟩; exact ⟨us,e,ih hf h⟩
 | D3 f l ih=>rintro vs hf ⟨us,e,h⟩; exact ⟨us,e,ih hf h⟩
 | bx l ih=>rintro vs hf ⟨b,off,u,e,hb,h1,h2,h⟩; exact ⟨b,off,u,e,hS b hb,by rw [Q4 (hH b hb)]; exact h1,by rw [l6 (hH b hb)]; exact h2,ih hf h⟩
 | rc f l ih=>rintro vs hf ⟨b,off,us,e,hb,h1,h2,h⟩; exact ⟨b,off,us,e,hS b hb,by rw [Q4 (hH b hb)]; exact h1,by rw [l6 (hH b hb)]; exact h2,ih hf h⟩
theorem VX.one {v:AV} {vs:List Value} (hr:v.ref=true) (h:VX H S ι hp v vs):∃ x,vs=[x]:=by
 cases v<;>simp only [AV.ref] at hr<;>try cases hr
 ·obtain ⟨e,b,off,_,_,_,h4⟩:=h; exact ⟨_,h4⟩
 ·obtain ⟨e,u,y,cs,_,_,_,_,h5⟩:=h; exact ⟨_,h5⟩
 ·obtain ⟨e,v,_,_,h3,_⟩:=h; exact ⟨_,h3⟩
theorem Ak {cs:List Value} {b:Nat} (h:b<H.size):(gh H cs)[b]?=H[b]?:=by
 rw [gh,Array.getElem?_push,if_neg (by omega)]
theorem DZ {cs:List Value}:(gh H cs)[H.size]?=some (.cells cs.toArray 0):=by simp [gh]
theorem wx {cs:List Value}:x8 (gh H cs) H.size=cs:=by simp [x8,DZ]
theorem BK {cs:List Value}:(gh H cs).size=H.size+1:=by simp [gh]
theorem P5.lt {b n:Nat} (h:P5 H b n):b<H.size:=by
 obtain ⟨arr,T,⟨fz,e,_⟩,_⟩:=h;exact (Array.getElem?_eq_some_iff.1 e).1
theorem OB.U5 {i:Nat} {e:i7} (he:e≠.M3) (ho:OB H S ι i e) {c:Nat} (hc:c∈ι.own i):c<H.size:=by
 cases e with
 | var t x=>obtain ⟨⟨O,hO,hR⟩,_⟩:=ho; exact hR.xx c (hO.mem_iff.2 hc)
 | own t x=>obtain ⟨⟨O,hO,hR⟩,_⟩:=ho; exact hR.xx c (hO.mem_iff.2 hc)
 | M3=>exact absurd rfl he
theorem OB.see {i:Nat} {e:i7} (he:e≠.M3) (ho:OB H S ι i e) (hS:∀ c,S c->c<H.size):∃ O,O.Perm (ι.own i)/\i6 (VH H ι i e) S e.ty O (e8 (VH H ι i e) (VR H ι i e).1 (VR H ι i e).2 e.ty.size) e.x /\
  (VR H ι i e).2+e.ty.size<=(x8 (VH H ι i e) (VR H ι i e).1).length/\((VR H ι i e).1::ι.own i).Nodup/\(VR H ι i e).1<(VH H ι i e).size/\(¬ S (VR H ι i e).1\/∃ t x,e=.var t x)/\P5 (VH H ι i e) (VR H ι i e).1 ((VR H ι i e).2+e.ty.size):=by
 cases e with
 | var t x =>
  obtain ⟨⟨O,hO,hR⟩,hf,aN⟩:=ho;exact ⟨O,hO,hR,hf.x8,aN,hf.lt,.inr ⟨t,x,rfl⟩,hf⟩
 | own t x =>
  have bj:=λ c hc=>OB.U5 (c:=c) he ho hc;obtain ⟨⟨O,hO,hR⟩,aN⟩:=ho;have hl:=hR.length;have cJ:e8 (gh H (ι.cells i)) H.size 0 t.size=ι.cells i:=by
   simp only [e8,wx,List.drop_zero];exact List.take_of_length_le (by omega)
  refine ⟨O,hO,?_,?_,?_,by simp [VR,VH,BK],.inl (λ h=>Nat.lt_irrefl _ (hS _ h)),⟨_,_,⟨_,DZ,.inl rfl⟩,by simp [VR,i7.ty,hl]⟩⟩
  ·simp only [VH,VR,i7.ty,i7.x,cJ]
   exact hR.w6 (λ c hc=>Ak (hc.elim (λ h=>bj c (hO.mem_iff.1 h)) (hS c))) (λ _ h=>h)
  ·simp only [VH,VR,i7.ty,wx]; omega
  ·exact List.nodup_cons.2 ⟨λ h=>Nat.lt_irrefl _ (bj _ h),aN⟩
 | M3=>exact absurd rfl he
theorem G8 {i:Nat} {e:i7} {c:Nat} (h:c<H.size):(VH H ι i e)[c]?=H[c]?:=by
 cases e<;>first|rfl|exact Ak h
theorem wj {i:Nat} {e:i7} {t:Ty} {O:List Nat} {cs:List Value} {x:t.den} (hO:∀ c∈O,c<H.size) (hS:∀ c,S c->c<H.size):i6 (VH H ι i e) S t O cs x↔i6 H S t O cs x :=
 ⟨λ h=>h.w6 (λ c hc=>(G8 (hc.elim (hO c) (hS c))).symm) (λ _ h=>h),λ h=>h.w6 (λ c hc=>G8 (hc.elim (hO c) (hS c))) (λ _ h=>h)⟩
theorem OB.part {i:Nat} {e:i7} (he:e≠.M3) (ho:OB H S ι i e) (hS:∀ c,S c->c<H.size) {p:List Step} (aK:B8 e.ty e.x p) {u:Ty} {y:u.den} (hg:j9 e.ty e.x p=some ⟨u,y⟩) :
  ∃ b off O2,Place H ι i e p=some (b,off)/\(∀ c∈O2,c∈ι.own i)/\O2.Nodup/\i6 H S u O2 (e8 (VH H ι i e) b off u.size) y/\off+u.size<=(x8 (VH H ι i e) b).length /\
   (b<H.size->b∈l7 ι i e/\P5 H b (off+u.size)):=by
 obtain ⟨O,hO,hR,hb,aN,bj,gy,dY⟩:=ho.see he hS;obtain ⟨O1,O2,b',ar,e1,e2,e3,e4,e5,e6⟩:=focus hR hb aK hg
 have hm:∀ c,c∈O1\/c∈O2->c∈ι.own i:=λ c hc=>hO.mem_iff.1 (e1.mem_iff.2 (by simpa using hc));have ld:∀ c∈O2,c<H.size:=λ c hc=>ho.U5 he (hm c (.inr hc));refine ⟨b',ar,O2,(I3 he).trans e3,λ c hc=>hm c (.inr hc),?_,(wj ld hS).1 e4,e5,λ bR=>?_⟩
 ·exact (List.nodup_append.1 ((e1.nodup_iff).1 ((hO.nodup_iff).2 (List.nodup_cons.1 aN).2))).2.1
 ·have gk:P5 (VH H ι i e) b' (ar+u.size):=by
   rcases e6 with ⟨rfl,g1,g2⟩|⟨_,g⟩
   ·exact dY.mono g2
   ·exact g
  refine ⟨?_,?_⟩
  ·rcases e6 with ⟨rfl,g1,g2⟩|⟨g,_⟩
   ·cases e with
    | var t x=>simp [l7,VR]
    | own t x=>simp [VR] at bR
    | M3=>exact absurd rfl he
   ·have:=hm b' (.inl g)
    cases e<;>simp [l7,this]
  ·obtain ⟨arr,T,⟨fz,h1,h3⟩,h2⟩:=gk
   rw [G8 bR] at h1;exact ⟨arr,T,⟨fz,h1,h3⟩,h2⟩
theorem D4 {i:Nat} {e:i7} {p:List Step} {b off:Nat} (h:Loc H ι i e p=some (b,off)):Place H ι i e p=some (b,off)/\b<H.size:=by
 unfold Loc at h;split at h
 ·rename_i b' ar hp
  split at h
  ·rename_i bj; cases h; exact ⟨hp,bj⟩
  ·cases h
 ·cases h
theorem wi {i:Nat} {e:i7} {p:List Step} {b off:Nat} (h:Place H ι i e p=some (b,off)) (hb:b<H.size):Loc H ι i e p=some (b,off):=by
 unfold Loc; rw [h]; simp [hb]
theorem N5 {i:Nat} {e:i7} (he:e≠.M3) (ho:OB H S ι i e) (hS:∀ c,S c->c<H.size) {p:List Step} (aK:B8 e.ty e.x p) {u:Ty} {y:u.den} (hg:j9 e.ty e.x p=some ⟨u,y⟩) {b off:Nat} (hl:Loc H ι i e p=some (b,off)) :
  ∃ O2,(∀ c∈O2,c∈ι.own i)/\O2.Nodup/\i6 H S u O2 (e8 H b off u.size) y/\off+u.size<=(x8 H b).length/\b∈l7 ι i e/\P5 H b (off+u.size):=by
 obtain ⟨b',ar,O2,k1,k2,k3,k4,k5,k6⟩:=ho.part he hS aK hg;obtain ⟨h1,h2⟩:=D4 hl;rw [k1] at h1; cases h1;rw [l6 (G8 h2)] at k4;rw [Q4 (G8 h2)] at k5;exact ⟨O2,k2,k3,k4,k5,k6 h2⟩
theorem OB.w6 {i:Nat} {e:i7} (ho:OB H S ι i e) (hH:∀ b,b∈l7 ι i e\/S b->H'[b]?=H[b]?) (hS:∀ b,S b->S' b):OB H' S' ι i e:=by
 cases e with
 | var t x =>
  obtain ⟨⟨O,hO,hR⟩,⟨arr,T,⟨fz,hf,tr⟩,hn⟩,aN⟩:=ho;have hr:H'[(ι.root i).1]?=H[(ι.root i).1]?:=hH _ (.inl (by simp [l7]));refine ⟨⟨O,hO,?_⟩,⟨arr,T,⟨fz,hr.trans hf,tr⟩,hn⟩,aN⟩;rw [l6 hr];exact hR.w6 (λ b hb=>hH b (hb.imp (λ h=>by simp [l7,hO.mem_iff.1 h]) id)) hS
 | own t x =>
  obtain ⟨⟨O,hO,hR⟩,aN⟩:=ho;exact ⟨⟨O,hO,hR.w6 (λ b hb=>hH b (hb.imp (λ h=>hO.mem_iff.1 h) id)) hS⟩,aN⟩
 | M3=>exact ho
theorem Tq {i:Nat} {e:i7} (he:e≠.M3) (ho:OB H S ι i e) (jm:∀ c,S c->c<H.size) (hH:∀ b,b∈l7 ι i e->H'[b]?=H[b]?) {p:List Step} (aK:B8 e.ty e.x p) {u:Ty} {y:u.den} (hg:j9 e.ty e.x p=some ⟨u,y⟩) :
  ∃ b off b' ar,Place H ι i e p=some (b,off)/\Place H' ι i e p=some (b',ar)/\e8 (VH H' ι i e) b' ar u.size=e8 (VH H ι i e) b off u.size/\(b<H.size->b'=b/\ar=off/\b<H'.size)/\(¬ b<H.size->¬ b'<H'.size):=by
 have bj:∀ c∈ι.own i,c<H.size/\c<H'.size:=λ c hc=>by
  have h1:=ho.U5 he hc;refine ⟨h1,?_⟩;have h2:=hH c (by cases e<;>simp [l7,hc]);rw [Array.getElem?_eq_getElem h1] at h2;exact (Array.getElem?_eq_some_iff.1 h2).1
 obtain ⟨O,hO,hR,hb,aN,_,_,dY⟩:=ho.see he jm;have bF:e8 (VH H' ι i e) (VR H' ι i e).1 (VR H' ι i e).2 e.ty.size=e8 (VH H ι i e) (VR H ι i e).1 (VR H ι i e).2 e.ty.size:=by
  cases e with
  | var t x=>exact l6 (hH _ (by simp [l7,VR])) _ _
  | own t x=>simp only [VH,VR,e8,wx]
  | M3=>exact absurd rfl he
 have dp:∀ c∈O,(VH H' ι i e)[c]?=(VH H ι i e)[c]?:=λ c hc=>by
  have hc:=hO.mem_iff.1 hc;rw [G8 (bj c hc).2,G8 (bj c hc).1];exact hH c (by cases e<;>simp [l7,hc])
 rcases Yb hR hb aK bF dp hg with ⟨k,h1,h2,h3⟩|⟨b,o,h1,h2,h3⟩
 ·refine ⟨_,_,_,_,(I3 he).trans h1,(I3 he).trans h2,?_,?_,?_⟩
  ·have e0:∀ (K:Array Go.Obj) (r:Nat×Nat),e8 K r.1 (r.2+k) u.size=((e8 K r.1 r.2 e.ty.size).drop k).take u.size:=by
    intro K r;rw [o6,n8 _ _ _ _ (by omega)]
   rw [e0,e0,bF]
  ·intro bR
   cases e with
   | var t x =>
    refine ⟨rfl,rfl,?_⟩;have h2:=hH (ι.root i).1 (by simp [l7]);have bR:(ι.root i).1<H.size:=bR;rw [Array.getElem?_eq_getElem bR] at h2;exact (Array.getElem?_eq_some_iff.1 h2).1
   | own t x=>simp [VR] at bR
   | M3=>exact absurd rfl he
  ·intro bR
   cases e with
   | var t x=>exact absurd dY.lt bR
   | own t x=>simp [VR]
   | M3=>exact absurd rfl he
 ·have hc:=hO.mem_iff.1 h3
  refine ⟨b,o,b,o,(I3 he).trans h1,(I3 he).trans h2,?_,λ _=>⟨rfl,rfl,(bj b hc).2⟩,λ bR=>absurd (bj b hc).1 bR⟩;exact l6 (dp b h3) _ _
theorem Fi {i:Nat} {e:i7} (he:e≠.M3) (ho:OB H S ι i e) (jm:∀ c,S c->c<H.size) (hH:∀ b,b∈l7 ι i e->H'[b]?=H[b]?) {p:List Step} (aK:B8 e.ty e.x p) {r:Nat×Nat} (h:Loc H ι i e p=some r):Loc H' ι i e p=some r:=by
 obtain ⟨u,y,hg⟩:=Rl aK;obtain ⟨b,off,b',ar,h1,h2,h3,h4,h5⟩:=Tq (H':=H') he ho jm hH aK hg;obtain ⟨k1,k2⟩:=D4 (b:=r.1) (off:=r.2) h;rw [h1] at k1; cases k1;obtain ⟨rfl,rfl,h6⟩:=h4 k2;exact wi h2 h6
theorem Lz {i:Nat} {e:i7} (he:e≠.M3) (ho:OB H S ι i e) (jm:∀ c,S c->c<H.size) (hH:∀ b,b∈l7 ι i e->H'[b]?=H[b]?) {p:List Step} (aK:B8 e.ty e.x p) {u:Ty} {y:u.den} (hg:j9 e.ty e.x p=some ⟨u,y⟩)
  {cs:List Value} (h:Cells H ι i e p u cs):Cells H' ι i e p u cs:=by
 obtain ⟨b0,off0,k1,k2⟩:=h;obtain ⟨b,off,b',ar,h1,h2,h3,h4,h5⟩:=Tq (H':=H') he ho jm hH aK hg;rw [h1] at k1; cases k1;exact ⟨b',ar,h2,k2.trans h3.symm⟩
theorem L8 {i:Nat} {e:i7} {p:List Step} {r:Nat×Nat} (h:Loc H ι i e p=some r):e≠.M3:=JT (D4 (b:=r.1) (off:=r.2) h).1
theorem CA {i:Nat} {e:i7} {p:List Step} {u:Ty} {cs:List Value} (h:Cells H ι i e p u cs):e≠.M3:=by obtain ⟨_,_,h,_⟩:=h; exact JT h
theorem VX.grow (hH:∀ b,(∃ i e,look i hp=some e/\b∈l7 ι i e)\/S b->H'[b]?=H[b]?) (hS:∀ b,S b->S' b) (jm:∀ c,S c->c<H.size) (aX:∀ i e,look i hp=some e->OB H S ι i e) {v:AV} {vs:List Value} (h:VX H S ι hp v vs) :
  VX H' S' ι hp v vs:=by
 have:=VX.map (H':=H') (S':=S') (ι':=ι) (cK:=hp) (f:=λ u=>u) (λ b hb=>hH b (.inr hb)) hS ?_ h
 ·rwa [AV.map_id] at this
 ·intro u vs hu _ h
  cases u<;>simp only [AV.ref] at hu<;>try cases hu
  ·obtain ⟨e,b,off,h1,h2,h3,h4⟩:=h
   exact ⟨e,b,off,h1,h2,Fi (L8 h3) (aX _ e h1) jm (λ b hb=>hH b (.inl ⟨_,e,h1,hb⟩)) h2 h3,h4⟩
  ·obtain ⟨e,u,y,cs,h1,h2,h3,h4,h5⟩:=h
   exact ⟨e,u,y,cs,h1,h2,h3,Lz (CA h4) (aX _ e h1) jm (λ b hb=>hH b (.inl ⟨_,e,h1,hb⟩)) h2 h3 h4,h5⟩
  ·obtain ⟨e,v,h1,h2,h3,h4,h5,h6⟩:=h
   refine ⟨e,v,h1,h2,h3,h4,h5,?_⟩;rcases h6 with ⟨t,l,a,cap,k1,k2,k3,k4⟩|⟨n,t,l,b,off,k1,k2,k3,k4⟩
   ·exact .inl ⟨t,l,a,cap,k1,k2,Lz (CA k3) (aX _ e h1) jm (λ b hb=>hH b (.inl ⟨_,e,h1,hb⟩)) h2 k1 k3,k4⟩
   ·exact .inr ⟨n,t,l,b,off,k1,k2,Fi (L8 k3) (aX _ e h1) jm (λ b hb=>hH b (.inl ⟨_,e,h1,hb⟩)) h2 k3,k4⟩
end
end Go.Ex
namespace Go.Ex
theorem Ms:∀ t:Ty,zc t.sh=zc t:=by
 intro t
 induction t with
 | pair a b iha ihb=>simp only [Ty.sh,zc,iha,ihb]
 | arr n t ih=>simp only [Ty.sh,zc,ih]
 | _=>rfl
theorem MA (t:Ty):t.sh.agg=t.agg:=by cases t<;>rfl
theorem Mr {u t:Ty} (h:u.sh=t.sh):zc u=zc t:=by rw [<- Ms u,h,Ms]
theorem Eb {u t:Ty} (h:u.sh=t.sh):u.agg=t.agg:=by rw [<- MA u,h,MA]
theorem HU {u t:Ty} (h:u.sh=t.sh) (cs:List Value):s5 u cs=s5 t cs:=by simp only [s5,Eb h]
theorem UA:∀ t:Ty,t.sh.al=t.al:=by
 intro t
 induction t with
 | pair a b iha ihb=>simp only [Ty.sh,Ty.al,iha,ihb]
 | arr n t ih=>simp only [Ty.sh,Ty.al,ih]
 | _=>rfl
theorem Mp:∀ t:Ty,t.sh.wb=t.wb/\∀ o,t.sh.yd o=t.yd o:=by
 intro t
 induction t with
 | pair a b iha ihb=>refine ⟨?_,λ o=>?_⟩<;>simp only [Ty.sh,Ty.wb,Ty.yd,iha.1,ihb.2,UA]
 | arr n t ih=>refine ⟨?_,λ o=>rfl⟩; simp only [Ty.sh,Ty.wb,ih.1]
 | d8 o t ih=>exact ⟨rfl,λ o=>rfl⟩
 | _=>exact ⟨rfl,λ o=>rfl⟩
theorem UI {u t:Ty} (h:u.sh=t.sh):u.wb=t.wb:=by rw [<- (Mp u).1,h,(Mp t).1]
theorem R7:∀ t:Ty,(zc t).length=t.size:=by
 intro t
 induction t with
 | pair a b iha ihb=>simp only [zc,Ty.size,List.length_append,iha,ihb]
 | arr n t ih=>simp [zc,Ty.size,ih]
 | _=>rfl
theorem Nh:∀ t:Ty,zc t.T1=zc t:=by
 intro t
 induction t with
 | pair a b iha ihb=>simp only [Ty.T1,zc,iha,ihb]
 | arr n t ih=>simp only [Ty.T1,zc,ih]
 | _=>rfl
theorem WE (t:Ty):t.T1.agg=t.agg:=by cases t<;>rfl
theorem Ov (t:Ty) (cs:List Value):s5 t.T1 cs=s5 t cs:=by simp only [s5,WE]
theorem Uq:∀ t:Ty,t.T1.al=t.al:=by
 intro t
 induction t with
 | pair a b iha ihb=>simp only [Ty.T1,Ty.al,iha,ihb]
 | arr n t ih=>simp only [Ty.T1,Ty.al,ih]
 | _=>rfl
theorem Ng:∀ t:Ty,t.T1.wb=t.wb/\∀ o,t.T1.yd o=t.yd o:=by
 intro t
 induction t with
 | pair a b iha ihb=>refine ⟨?_,λ o=>?_⟩<;>simp only [Ty.T1,Ty.wb,Ty.yd,iha.1,ihb.2,Uq]
 | arr n t ih=>refine ⟨?_,λ o=>rfl⟩; simp only [Ty.T1,Ty.wb,ih.1]
 | _=>exact ⟨rfl,λ o=>rfl⟩
theorem AB:∀ t:Ty,t.T1.size=t.size:=by
 intro t
 induction t with
 | pair a b iha ihb=>simp only [Ty.T1,Ty.size,iha,ihb]
 | arr n t ih=>simp only [Ty.T1,Ty.size,ih]
 | _=>rfl
section
variable {P:Program}
theorem XC:∀ {n:Nat} {T:TypeId} {t:Ty},p9 P n T t.T1=true->p9 P n T t=true:=by
 intro n
 induction n with
 | zero=>intro T t h; simp [p9] at h
 | succ n ih =>
  intro T t h;have gj:∀ (fs:List Field) (off:Nat) (t:Ty),n7 (p9 P n) fs off t.T1=true->n7 (p9 P n) fs off t=true:=by
   intro fs
   induction fs with
   | nil =>
    intro off t h;cases t<;>simp [n7,Ty.T1] at h;rfl
   | cons f fs ihf =>
    intro off t h;cases t<;>simp [n7,Ty.T1] at h;rename_i a b;have h2:=ih h.1.1.2;have h3:=ihf _ _ h.2;rw [AB] at h h3;simp only [n7,Bool.and_eq_true];refine ⟨⟨⟨⟨?_,?_⟩,h2⟩,?_⟩,h3⟩<;>simp [h.1]
  simp only [p9,Bool.and_eq_true] at h ⊢;obtain ⟨h1,h2⟩:=h;refine ⟨?_,?_⟩
  ·rw [AB,(Ng t).1,Ov,Nh] at h1; exact h1
  ·cases hu:P.underlying T with
   | none=>simp [hu] at h2
   | some d =>
    cases t with
    | box o g t=>cases g<;>cases d<;>simp only [hu,Ty.T1] at h2 ⊢<;>first|exact (Bool.false_ne_true h2).elim|exact h2|exact ih h2|exact gj _ _ _ h2
    | _ =>
     cases d<;>simp only [hu,Ty.T1] at h2 ⊢<;>first|exact (Bool.false_ne_true h2).elim|exact h2|exact gj _ _ _ h2|skip
     all_goals (simp only [Bool.and_eq_true,AB] at h2; simp only [Bool.and_eq_true]; exact ⟨h2.1,ih h2.2⟩)
theorem XB:∀ {n:Nat} {T:TypeId} {t:Ty},p9 P n T t=true->p9 P n T t.T1=true:=by
 intro n
 induction n with
 | zero=>intro T t h; simp [p9] at h
 | succ n ih =>
  intro T t h;have gj:∀ (fs:List Field) (off:Nat) (t:Ty),n7 (p9 P n) fs off t=true->n7 (p9 P n) fs off t.T1=true:=by
   intro fs
   induction fs with
   | nil =>
    intro off t h;cases t<;>simp [n7] at h;rfl
   | cons f fs ihf =>
    intro off t h;cases t<;>simp [n7] at h;rename_i a b;have h2:=ih h.1.1.2;have h3:=ihf _ _ h.2;simp only [Ty.T1,n7,Bool.and_eq_true,AB];refine ⟨⟨⟨⟨?_,?_⟩,h2⟩,?_⟩,h3⟩<;>simp [h.1]
  simp only [p9,Bool.and_eq_true] at h ⊢;obtain ⟨h1,h2⟩:=h;refine ⟨?_,?_⟩
  ·rw [AB,(Ng t).1,Ov,Nh]; exact h1
  ·cases hu:P.underlying T with
   | none=>simp [hu] at h2
   | some d =>
    cases t with
    | box o g t=>cases g<;>cases d<;>simp only [hu,Ty.T1] at h2 ⊢<;>first|exact (Bool.false_ne_true h2).elim|exact h2|exact ih h2|exact gj _ _ _ h2
    | _ =>
     cases d<;>simp only [hu,Ty.T1] at h2 ⊢<;>first|exact (Bool.false_ne_true h2).elim|exact h2|exact gj _ _ _ h2|skip
     all_goals (simp only [Bool.and_eq_true] at h2; simp only [Bool.and_eq_true,AB]; exact ⟨h2.1,ih h2.2⟩)
theorem Eu:∀ {n:Nat} {T:TypeId} {t u:Ty},u.sh=t.sh->p9 P n T t=true->p9 P n T u=true:=by
 intro n
 induction n with
 | zero=>intro T t u _ h; simp [p9] at h
 | succ n ih =>
  intro T t u hs h;have gj:∀ (fs:List Field) (off:Nat) (t u:Ty),u.sh=t.sh->n7 (p9 P n) fs off t=true->n7 (p9 P n) fs off u=true:=by
   intro fs
   induction fs with
   | nil =>
    intro off t u hs h;cases t<;>simp [n7] at h;cases u<;>simp only [Ty.sh] at hs<;>try cases hs
    rfl
   | cons f fs ihf =>
    intro off t u hs h;cases t<;>simp [n7] at h;rename_i a b;cases u<;>simp only [Ty.sh] at hs<;>try cases hs
    rename_i a' b';simp only [Ty.pair.injEq] at hs;have h2:=ih hs.1 h.1.1.2;have h3:=ihf _ _ _ hs.2 h.2;simp only [n7,G7 hs.1,Bool.and_eq_true];refine ⟨⟨⟨⟨?_,?_⟩,h2⟩,?_⟩,h3⟩<;>simp [h.1]
  simp only [p9,Bool.and_eq_true] at h ⊢;obtain ⟨h1,h2⟩:=h;refine ⟨?_,?_⟩
  ·rw [G7 hs,UI hs,HU hs,Mr hs]; exact h1
  ·cases t with
   | pair a b =>
    cases u<;>simp only [Ty.sh] at hs<;>try cases hs
    rename_i a' b';have lU:(Ty.pair a' b').sh=(Ty.pair a b).sh:=hs;cases hu:P.underlying T with
    | none=>simp [hu] at h2
    | some d =>
     cases d<;>simp only [hu] at h2 ⊢<;>first|exact (Bool.false_ne_true h2).elim|skip
     exact gj _ _ _ _ lU h2
   | unit =>
    cases u<;>simp only [Ty.sh] at hs<;>try cases hs
    exact h2
   | arr m t =>
    cases u<;>simp only [Ty.sh] at hs<;>try cases hs
    rename_i m' t';simp only [Ty.arr.injEq] at hs;cases hu:P.underlying T with
    | none=>simp [hu] at h2
    | some d =>
     cases d<;>simp only [hu] at h2 ⊢<;>first|exact (Bool.false_ne_true h2).elim|skip
     ·simp only [Bool.and_eq_true] at h2 ⊢
      rw [hs.1,G7 hs.2];exact ⟨h2.1,ih hs.2 h2.2⟩
     ·exact gj _ _ _ _ (by simp only [Ty.sh,hs]) h2
   | d8 o t =>
    cases u<;>simp only [Ty.sh] at hs<;>try cases hs
    ·rename_i o' t'
     simp only [Ty.d8.injEq] at hs;cases hu:P.underlying T with
     | none=>simp [hu] at h2
     | some d =>
      cases d<;>simp only [hu] at h2 ⊢<;>first|exact (Bool.false_ne_true h2).elim|skip
      ·simp only [Bool.and_eq_true] at h2 ⊢
       rw [G7 hs.2];exact ⟨h2.1,ih hs.2 h2.2⟩
      ·exact gj _ _ _ _ (by simp only [Ty.sh,hs]) h2
    ·rename_i t'
     simp only [Ty.d8.injEq] at hs;cases hu:P.underlying T with
     | none=>simp [hu] at h2
     | some d =>
      cases d<;>simp only [hu] at h2 ⊢<;>first|exact (Bool.false_ne_true h2).elim|skip
      ·simp only [Bool.and_eq_true] at h2 ⊢
       rw [G7 hs.2];exact ⟨h2.1,ih hs.2 h2.2⟩
      ·exact gj _ _ _ _ (by simp only [Ty.sh,hs]) h2
   | hole t =>
    cases u<;>simp only [Ty.sh] at hs<;>try cases hs
    ·rename_i o' t'
     simp only [Ty.d8.injEq] at hs;cases hu:P.underlying T with
     | none=>simp [hu] at h2
     | some d =>
      cases d<;>simp only [hu] at h2 ⊢<;>first|exact (Bool.false_ne_true h2).elim|skip
      ·simp only [Bool.and_eq_true] at h2 ⊢
       rw [G7 hs.2];exact ⟨h2.1,ih hs.2 h2.2⟩
      ·exact gj _ _ _ _ (by simp only [Ty.sh,hs]) h2
    ·rename_i t'
     simp only [Ty.d8.injEq] at hs;cases hu:P.underlying T with
     | none=>simp [hu] at h2
     | some d =>
      cases d<;>simp only [hu] at h2 ⊢<;>first|exact (Bool.false_ne_true h2).elim|skip
      ·simp only [Bool.and_eq_true] at h2 ⊢
       rw [G7 hs.2];exact ⟨h2.1,ih hs.2 h2.2⟩
      ·exact gj _ _ _ _ (by simp only [Ty.sh,hs]) h2
   | C6 t =>
    cases u<;>simp only [Ty.sh] at hs<;>try cases hs
    rename_i t';simp only [Ty.C6.injEq] at hs;cases hu:P.underlying T with
    | none=>simp [hu] at h2
    | some d =>
     cases d<;>simp only [hu] at h2 ⊢<;>first|exact (Bool.false_ne_true h2).elim|skip
     ·simp only [Bool.and_eq_true] at h2 ⊢
      rw [G7 hs];exact ⟨h2.1,ih hs h2.2⟩
     ·exact gj _ _ _ _ (by simp only [Ty.sh,hs]) h2
   | map o k v =>
    cases u<;>simp only [Ty.sh] at hs<;>try cases hs
    cases hu:P.underlying T with
    | none=>simp [hu] at h2
    | some d =>
     cases d<;>simp only [hu] at h2 ⊢<;>first|exact (Bool.false_ne_true h2).elim|exact h2|skip
     ·exact gj _ _ (.map o k v) _ rfl h2
   | box o g t =>
    cases u<;>simp only [Ty.sh] at hs<;>try cases hs
    rename_i o' g' t';simp only [Ty.box.injEq] at hs;obtain ⟨_,rfl,hs⟩:=hs;cases hu:P.underlying T with
    | none=>simp [hu] at h2
    | some d =>
     cases g'<;>cases d<;>simp only [hu] at h2 ⊢<;>first|exact (Bool.false_ne_true h2).elim|exact ih hs h2|exact gj _ _ _ _ (by simp only [Ty.sh,hs]) h2|trivial
   | _ =>
    cases u<;>simp only [Ty.sh] at hs<;>try cases hs
    exact h2
theorem MU:∀ {a b:Value},eqS a b=true->a=b:=by
 intro a b h;unfold eqS at h;split at h
 ·simp at h; rw [h.1,h.2]
 ·simp at h; rw [h]
 ·rename_i a b
  cases a; cases b;simp at h;rw [h.1,h.2]
 ·rename_i a b c d
  simp only [Bool.and_eq_true] at h;have h1:=Nat.eq_of_beq_eq_true h.1;have h2:=Nat.eq_of_beq_eq_true h.2;rw [h1,h2]
 ·rfl
 ·rfl
 ·rfl
 ·cases h
theorem MT:∀ {a b:List Value},eqL a b=true->a=b
 | [],[],_=>rfl
 | a::l,b::m,h=>by
  simp only [eqL,Bool.and_eq_true] at h;rw [MU h.1,MT h.2]
 | [],_::_,h=>by simp [eqL] at h
 | _::_,[],h=>by simp [eqL] at h
theorem VO {a b:Value} (h:eqV a b=true):a=b:=by
 unfold eqV at h;split at h
 ·rename_i a b
  have:=MT h;rw [show a=b from Array.toList_inj.1 this]
 ·exact MU h
theorem X6 {n:Nat} {T:TypeId} {t:Ty} (h:p9 P n T t=true):∃ i,P.info? T=some i/\i.size=t.size/\i.zero=some (s5 t (zc t)):=by
 cases n with
 | zero=>simp [p9] at h
 | succ n =>
  simp only [p9,Bool.and_eq_true] at h;obtain ⟨h1,_⟩:=h;split at h1
  ·rename_i i hi
   simp only [Bool.and_eq_true] at h1;refine ⟨i,hi,Nat.eq_of_beq_eq_true h1.1.1,?_⟩;have h1:=h1.2;split at h1
   ·rename_i z hz; rw [hz,VO h1]
   ·cases h1
  ·cases h1
theorem KB {n:Nat} {T:TypeId} {t:Ty} (h:p9 P n T t=true) {i:TypeInfo} (hi:P.info? T=some i):i.bytes=t.wb:=by
 cases n with
 | zero=>simp [p9] at h
 | succ n =>
  simp only [p9,Bool.and_eq_true] at h;have h1:=h.1;rw [hi] at h1;simp only [Bool.and_eq_true] at h1;exact Nat.eq_of_beq_eq_true h1.1.2
theorem R6 {n:Nat} {T:TypeId} {t:Ty} (h:p9 P n T t=true):∃ d,P.underlying T=some d/\t.agg=(match d with|.struct _=>true|.array _ _=>true|_=>false):=by
 cases n with
 | zero=>simp [p9] at h
 | succ n =>
  simp only [p9,Bool.and_eq_true] at h;obtain ⟨_,h2⟩:=h;cases hu:P.underlying T with
  | none=>simp [hu] at h2
  | some d =>
   refine ⟨d,rfl,?_⟩;cases d<;>simp only [hu] at h2
   case struct fs =>
    cases hf:fs.toList with
    | nil=>rw [hf] at h2; cases t<;>simp [n7] at h2; rfl
    | cons f l=>rw [hf] at h2; cases t<;>simp [n7] at h2; rfl
   all_goals cases t<;>first|rfl|(exact (Bool.false_ne_true h2).elim)
variable {w:World}
theorem run_sizeOf {n:Nat} {T:TypeId} {t:Ty} (h:p9 P n T t=true):(sizeOf T).run P w=.ok t.size w:=by
 obtain ⟨i,h1,h2,_⟩:=X6 h;simp [sizeOf,typeInfo,program,Sem.run,h1,h2]
theorem Ce {n:Nat} {T:TypeId} {t:Ty} (h:p9 P n T t=true):(zeroValue T).run P w=.ok (s5 t (zc t)) w:=by
 obtain ⟨i,h1,_,h3⟩:=X6 h;simp [zeroValue,typeInfo,program,Sem.run,h1,h3]
theorem w8 {T:TypeId} {d:TypeDesc} (h:P.underlying T=some d):(underlying T).run P w=.ok d w:=by
 simp [underlying,program,Sem.run,h]
theorem Kn {n:Nat} {T:TypeId} {t:Ty} (h:p9 P n T t=true):(isAgg T).run P w=.ok t.agg w:=by
 obtain ⟨d,h1,h2⟩:=R6 h;rw [h2];simp only [isAgg,Sem.run_bind,w8 h1,Result.andThen];cases d<;>rfl
end
section
variable {H:Array Go.Obj} {S:Nat->Prop}
theorem i6.s8:∀ t:Ty,i6 H S t [] (zc t) t.s8:=by
 intro t
 induction t with
 | int k=>exact ⟨rfl,rfl,by unfold u7; cases k<;>decide⟩
 | bool=>exact ⟨rfl,rfl⟩
 | str=>exact ⟨rfl,rfl,Nat.zero_le _⟩
 | unit=>exact ⟨rfl,rfl⟩
 | fn f=>exact ⟨rfl,rfl⟩
 | hole t _=>exact ⟨rfl,_,rfl,rfl⟩
 | C6 t _=>exact .inl ⟨rfl,⟨none,0,rfl,λ _=>rfl⟩,rfl⟩
 | map o k v=>exact .inl ⟨rfl,rfl,rfl⟩
 | box o g t=>exact .inl ⟨rfl,rfl,rfl⟩
 | pair a b iha ihb =>
  refine ⟨[],[],rfl,?_,?_⟩
  ·simp only [zc,<- R7 a,List.take_left']; exact iha
  ·simp only [zc,<- R7 a,List.drop_left']; exact ihb
 | arr n t ih =>
  refine ⟨by simp [Ty.s8],?_⟩;simp only [Ty.s8,zc]
  induction n with
  | zero=>exact ⟨rfl,rfl⟩
  | succ n ihn =>
   refine ⟨[],[],rfl,?_,?_⟩
   ·rw [List.replicate_succ,List.flatten_cons,List.take_left' (R7 t)]; exact ih
   ·rw [List.replicate_succ,List.flatten_cons,List.drop_left' (R7 t)]; exact ihn
 | d8 o t _=>exact .inl ⟨rfl,⟨none,0,rfl,λ _=>rfl⟩,rfl⟩
theorem ZB {t:Ty} {cs:List Value} (h:cs.length=t.size) (hn:∀ c∈cs,∀ a,c≠.agg a):(s5 t cs).cells=cs.toArray:=by
 unfold s5
 split
 ·rfl
 ·rename_i hg
  have:cs.length=1:=by rw [h]; cases t<;>simp_all [Ty.agg,Ty.size]
  match cs,this with
  | [c],_ =>
   simp only [List.headD_cons];have:=hn c (by simp);cases c<;>simp_all [Value.cells]
def Plain (v:Value):Prop:=v.oneCell'=true/\∀ a,v≠.agg a
theorem j6.plain {α:Type} {R:List Nat->List Value->α->Prop} {sz:Nat} (hR:∀ O cs x,R O cs x->∀ c∈cs,Plain c):∀ {l:List α} {O:List Nat} {cs:List Value},j6 R sz O cs l->∀ c∈cs,Plain c
 | [],_,_,⟨_,h⟩=>by rw [h]; simp
 | _::_,_,cs,⟨O1,O2,_,h1,h2⟩=>by
  intro c hc;rw [<- List.take_append_drop sz cs] at hc;rcases List.mem_append.1 hc with h|h
  ·exact hR _ _ _ h1 c h
  ·exact j6.plain hR h2 c h
theorem i6.plain:∀ {t:Ty} {O:List Nat} {cs:List Value} {x:t.den},i6 H S t O cs x->∀ c∈cs,Plain c:=by
 intro t
 induction t with
 | int k=>rintro O cs x ⟨_,rfl,_⟩ c hc; simp at hc; subst hc; exact ⟨rfl,by simp⟩
 | bool=>rintro O cs x ⟨_,rfl⟩ c hc; simp at hc; subst hc; exact ⟨rfl,by simp⟩
 | str=>rintro O cs x ⟨_,rfl,_⟩ c hc; simp at hc; subst hc; exact ⟨rfl,by simp⟩
 | unit=>rintro O cs x ⟨_,rfl⟩ c hc; simp at hc
 | fn f =>
  rintro O cs x ⟨_,rfl⟩ c hc;simp at hc; subst hc;cases x with
  | true=>exact ⟨rfl,by simp [fnV]⟩
  | false =>
   unfold fnV;dsimp only
   split<;>exact ⟨rfl,by simp⟩
 | hole t _ =>
  rintro O cs x ⟨_,v,rfl,hv⟩ c hc;simp at hc; subst hc;cases c<;>first|exact ⟨rfl,by simp⟩|exact absurd hv (by simp [Dp])
 | C6 t _ =>
  rintro O cs ⟨n,l,m⟩ h c hc
  match n,h with
  | 0,h=>rcases h with ⟨_,⟨_,_,rfl,_⟩,_⟩|⟨b,off,cap,O',rfl,_⟩<;>(simp at hc; subst hc; exact ⟨rfl,by simp⟩)
  | 1,h=>rcases h with ⟨_,⟨_,_,rfl,_⟩,_⟩|⟨b,off,cap,O',rfl,_⟩<;>(simp at hc; subst hc; exact ⟨rfl,by simp⟩)
  | n+2,⟨b,off,O',h1,_⟩=>rw [h1] at hc; simp at hc; subst hc; exact ⟨rfl,by simp⟩
 | map o k v =>
  rintro O cs x (⟨_,_,rfl⟩|⟨l,b,es,ck,_,rfl,_⟩) c hc<;>(simp at hc; subst hc; exact ⟨rfl,by simp⟩)
 | box o g t =>
  rintro O cs x (⟨_,_,rfl⟩|⟨y,b,off,O',_,rfl,_⟩) c hc<;>(simp at hc; subst hc; cases g<;>exact ⟨rfl,by simp [wY,Dh]⟩)
 | pair a b iha ihb =>
  rintro O cs x ⟨O1,O2,_,h1,h2⟩ c hc;rw [<- List.take_append_drop a.size cs] at hc;rcases List.mem_append.1 hc with h|h
  ·exact iha h1 c h
  ·exact ihb h2 c h
 | arr n t ih=>rintro O cs x ⟨_,h⟩; exact j6.plain (λ _ _ _ h=>ih h) h
 | d8 o t _ =>
  rintro O cs x h c hc;rcases h with ⟨_,⟨_,_,rfl,_⟩,_⟩|⟨b,off,cap,O',rfl,_⟩<;>(simp at hc; subst hc; exact ⟨rfl,by simp⟩)
theorem i6.cells {t:Ty} {O:List Nat} {cs:List Value} {x:t.den} (h:i6 H S t O cs x):(s5 t cs).cells=cs.toArray :=
 ZB h.length λ c hc=>(h.plain c hc).2
end
end Go.Ex
