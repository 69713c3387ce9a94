import Derived.Test.YtibpibbnnogdkaaExC2
namespace Go.Ex

def look {α : Type _} (n : Nat) : List (Nat × α) → Option α
  | [] => none
  | (m, x) :: l => match Nat.beq n m with | true => some x | false => look n l

def put {α : Type _} (n : Nat) (x : α) (l : List (Nat × α)) : List (Nat × α) :=
  match l with
  | [] => [(n, x)]
  | (m, y) :: l => match Nat.beq n m with
    | true => (n, x) :: l
    | false => match Nat.blt n m with
      | true => (n, x) :: (m, y) :: l
      | false => (m, y) :: put n x l

def del {α : Type _} (n : Nat) : List (Nat × α) → List (Nat × α)
  | [] => []
  | (m, y) :: l => match Nat.beq n m with | true => del n l | false => (m, y) :: del n l

/-! ### types against the program's table -/
structure TI where
  ty : Ty
  by_ : Nat

def zc : Ty → List Value
  | .int k => [.int k 0]
  | .bool => [.bool false]
  | .str => [.string ⟨#[]⟩]
  | .unit => []
  | .pair a b => zc a ++ zc b
  | .arr n t => (List.replicate n (zc t)).flatten
  | .slc _ _ => [.slice none 0 0]

def toV (t : Ty) (cs : List Value) : Value := if t.agg then .agg cs.toArray else cs.headD undef

def eqS : Value → Value → Bool
  | .int k n, .int k' n' => decide (k = k') && decide (n = n')
  | .bool a, .bool b => a == b
  | .string a, .string b => a.data.size == 0 && b.data.size == 0
  | .slice none a b, .slice none c d => Nat.beq a c && Nat.beq b d
  | _, _ => false

def eqL : List Value → List Value → Bool
  | [], [] => true
  | a :: l, b :: m => eqS a b && eqL l m
  | _, _ => false

def eqV : Value → Value → Bool
  | .agg a, .agg b => eqL a.toList b.toList
  | a, b => eqS a b

def Ty.al : Ty → Nat
  | .int k => k.bits / 8
  | .bool => 1
  | .str | .slc _ _ => 8
  | .unit => 1
  | .pair a b => Nat.max a.al b.al
  | .arr _ t => t.al

def rup (n a : Nat) : Nat := (n + (a - 1)) / a * a

mutual
/-- how many bytes Go lays for it -/
def Ty.wb : Ty → Nat
  | .int k => k.bits / 8
  | .bool => 1
  | .str => 16
  | .slc _ _ => 24
  | .unit => 0
  | .pair a b => rup (b.offs (rup 0 a.al + a.wb)) (Nat.max a.al b.al)
  | .arr n t => n * t.wb
def Ty.offs : Ty → Nat → Nat
  | .pair a b, o => b.offs (rup o a.al + a.wb)
  | _, o => o
end

def fieldsOk (ck : TypeId → Ty → Bool) : List Field → Nat → Ty → Bool
  | [], _, .unit => true
  | f :: fs, off, .pair a b => Nat.beq f.offset off && Nat.ble 1 a.size && ck f.type a && f.name != "_" && fieldsOk ck fs (off + a.size) b
  | _, _, _ => false

def tyOk (P : Program) : Nat → TypeId → Ty → Bool
  | 0, _, _ => false
  | n + 1, T, t =>
    (match P.info? T with
    | some i => Nat.beq i.size t.size && Nat.beq i.bytes t.wb && (match i.zero with | some z => eqV z (toV t (zc t)) | none => false)
    | none => false) &&
    match P.underlying T, t with
    | some .bool, .bool => true
    | some (.int k), .int k' => decide (k = k')
    | some .string, .str => true
    | some (.struct fs), t => fieldsOk (tyOk P n) fs.toList 0 t
    | some (.array m e), .arr m' t => Nat.beq m m' && Nat.ble 1 t.size && tyOk P n e t
    | some (.slice e), .slc _ t => Nat.ble 1 t.size && tyOk P n e t
    | _, _ => false

def tiOk (P : Program) (x : TypeId × TI) : Bool := tyOk P 100 x.1 x.2.ty && Nat.beq (P.bytesOf x.1) x.2.by_

/-! ### abstract values -/
inductive AV where
  | any
  | raw (v : Value)
  | val (t : Ty) (x : t.den)
  | ptr (i : Nat) (p : List Step)
  | rptr (t : Ty) (x : t.den)
  | at_ (i : Nat) (p : List Step)
  | sub (i : Nat) (p : List Step) (lo hi : Int)
  | nil
  | cons (a b : AV)
  | tup (l : AV)
  | clo (f : FuncId) (l : AV)

inductive Ent where
  | var (t : Ty) (x : t.den)
  | own (t : Ty) (x : t.den)
  | bag

def Ent.ty : Ent → Ty | .var t _ => t | .own t _ => t | .bag => .unit
def Ent.x : (e : Ent) → e.ty.den | .var _ x => x | .own _ x => x | .bag => ()
def Ent.upd (e : Ent) (r : Sigma Ty.den) : Ent := match e with | .var _ _ => .var r.1 r.2 | .own _ _ => .own r.1 r.2 | .bag => .bag
def Ent.isOwn : Ent → Bool | .own _ _ => true | _ => false
/-- what a store must know of the object -/
def Ent.kd (e : Ent) : Bool × Ty := (e.isOwn, e.ty)

structure St where
  fr : List (Nat × AV)
  hp : List (Nat × Ent)

def St.get (s : St) (t : Nat) : AV := (look t s.fr).getD .any
def St.obj (s : St) (i : Nat) : Option Ent := look i s.hp

def St.put (s : St) (d : Option Nat) (v : AV) : St :=
  match d with
  | some t => { s with fr := Ex.put t v s.fr }
  | none => s

def AV.ment (i : Nat) : AV → Bool
  | .ptr j _ | .at_ j _ | .sub j _ _ _ => Nat.beq i j
  | .cons a b => a.ment i || b.ment i
  | .tup l | .clo _ l => l.ment i
  | _ => false

/-- what speaks of objects, turned -/
def AV.map (f : AV → AV) : AV → AV
  | .ptr j p => f (.ptr j p)
  | .at_ j p => f (.at_ j p)
  | .sub j p a b => f (.sub j p a b)
  | .cons a b => .cons (a.map f) (b.map f)
  | .tup l => .tup (l.map f)
  | .clo g l => .clo g (l.map f)
  | v => v

def AV.drop (i : Nat) : AV → AV := AV.map fun v => match v.ment i with | true => .any | false => v

/-- behind a store at 'q' of object i: pointers that still point, and the header that lies in no memory -/
def AV.kill1 (i : Nat) (ow : Bool × Ty) (q : List Step) (v : AV) : AV :=
  match v.ment i with
  | false => v
  | true => match v with
    | .ptr j p => match kp q p with | true => .ptr j p | false => .any
    | .at_ j [] => match ow.1, q with
      | true, .idx _ :: _ => .at_ j []
      | _, _ => match kc ow.2 q [] with | true => .at_ j [] | false => .any
    | .at_ j (st :: p) => match kc ow.2 q (st :: p) && kp q (st :: p) with | true => .at_ j (st :: p) | false => .any
    | .sub j [] a b => match ow.1, q with
      | true, .idx _ :: _ => .sub j [] a b
      | _, _ => .any
    | _ => .any

def AV.kill (i : Nat) (ow : Bool × Ty) (q : List Step) : AV → AV := AV.map (AV.kill1 i ow q)

def mapA {α : Type _} (f : α → α) : List (Nat × α) → List (Nat × α)
  | [] => []
  | (n, x) :: l => (n, f x) :: mapA f l

def St.drop (i : Nat) (s : St) : St := { fr := mapA (AV.drop i) s.fr, hp := del i s.hp }
def St.kill (i : Nat) (ow : Bool × Ty) (q : List Step) (s : St) : St := { s with fr := mapA (AV.kill i ow q) s.fr }
def St.drops : List Nat → St → St
  | [], s => s
  | i :: l, s => St.drops l (s.drop i)
def St.putE (s : St) (i : Nat) (e : Ent) : St := { s with hp := Ex.put i e s.hp }

def noMent (i : Nat) : List (Nat × AV) → Bool
  | [] => true
  | (_, v) :: l => !v.ment i && noMent i l

/-- may 'i' be laid anew? -/
def St.fresh (s : St) (i : Nat) : Bool := (look i s.hp).isNone && noMent i s.fr

/-! ### contracts -/
/-- what a parameter is: a value that is read, a pointer that is read, a closure over pointers that are read, a value that is handed over, a pointer through which the callee writes, a slice whose elements it writes -/
inductive PK where
  | v (t : Ty)
  | rd (t : Ty)
  | clo (f : FuncId) (ts : List Ty)
  | own (t : Ty)
  | rw (t : Ty)
  | mu (t : Ty)

def DL : List Ty → Type
  | [] => Unit
  | t :: ts => t.den × DL ts

def PK.den : PK → Type
  | .v t => t.den
  | .rd t => t.den
  | .clo _ ts => DL ts
  | .own t => t.den
  | .rw t => t.den
  | .mu t => List t.den

def DK : List PK → Type
  | [] => Unit
  | k :: ks => k.den × DK ks

/-- the types of what a callee writes -/
def wts : List PK → List Ty
  | [] => []
  | .rw t :: ks => t :: wts ks
  | .mu t :: ks => .slc true t :: wts ks
  | _ :: ks => wts ks

def DL.app : {a b : List Ty} → DL a → DL b → DL (a ++ b)
  | [], _, _, y => y
  | _ :: _, _, x, y => (x.1, DL.app x.2 y)

structure Ctr where
  ps : List PK
  rs : List Ty
  pre : DK ps → Prop
  fn : DK ps → DL rs
  out : DK ps → DL (wts ps)

structure Env where
  P : Program
  tt : List (TypeId × TI)
  ctr : List (FuncId × Ctr)
  res : List ResultVar
  rs : List Ty
  ps : List PK
  cuts : List (Nat × List (Nat × Option Ty))
  nt : Nat

inductive Tree (rs : List Ty) where
  | need (p : Prop) (t : Tree rs)
  | both (p : Prop) (a b : Tree rs)
  | cut (c : Code) (k : List Item) (s : St)
  | ret (y : DL rs)
  | stuck (why : String)

/-- what is to be shown of a tree: its needs, and what is said of its ends -/
def Tree.holds {rs : List Ty} (L : Code → List Item → St → Prop) (R : DL rs → Prop) : Tree rs → Prop
  | .need p t => p ∧ (p → t.holds L R)
  | .both p a b => (p → a.holds L R) ∧ b.holds L R
  | .cut c k s => L c k s
  | .ret y => R y
  | .stuck _ => False

inductive OR where
  | fail (why : String)
  | ok (v : AV) (s : St)
  | okN (p : Prop) (v : AV) (s : St)

theorem den_sh : ∀ t : Ty, t.sh.den = t.den := by
  intro t
  induction t with
  | pair a b iha ihb => simp only [Ty.sh, Ty.den, iha, ihb]
  | arr n t ih => simp only [Ty.sh, Ty.den, ih]
  | slc o t ih => simp only [Ty.sh, Ty.den, ih]
  | _ => rfl

theorem den_er {u t : Ty} (h : u.sh = t.sh) : u.den = t.den := by rw [← den_sh u, h, den_sh]

/-- a value, as one of type t: of the very type, or nil -/
def AV.as (t : Ty) : AV → Option t.den
  | .val u x => if h : u = t then some (h ▸ x) else none
  | .raw (.slice none 0 0) => match t with
    | .slc _ _ => some []
    | _ => none
  | _ => none

def St.part (s : St) (i : Nat) (p : List Step) : Option (Sigma Ty.den) :=
  match s.obj i with
  | some e => getP e.ty e.x p
  | none => none

/-- a part of an object, read as shared -/
def lendP (t : Ty) (r : Option (Sigma Ty.den)) : Option t.den :=
  match r with
  | some ⟨u, y⟩ => if h : u.sh = t then some (cast ((den_sh u).symm.trans (congrArg Ty.den h)) y) else none
  | none => none

def St.lend (s : St) (t : Ty) (i : Nat) (p : List Step) : Option t.den := lendP t (s.part i p)

def cut2 {α : Type} (lo hi : Int) (l : List α) : List α := (l.drop lo.toNat).take (hi - lo).toNat

/-- the elements of a view -/
def St.view (s : St) (i : Nat) (p : List Step) (lo hi : Int) : Option (Sigma fun t : Ty => List t.den) :=
  match s.part i p with
  | some ⟨.slc _ t, l⟩ => some ⟨t, cut2 lo hi l⟩
  | some ⟨.arr _ t, l⟩ => some ⟨t, cut2 lo hi l⟩
  | _ => none

def AV.asV (s : St) (t : Ty) : AV → Option t.den
  | .at_ i p => s.lend t i p
  | .sub i p lo hi => match s.view i p lo hi with
    | some ⟨u, l⟩ => lendP t (some ⟨.slc true u, l⟩)
    | none => none
  | .val u x => if h : u = t then some (h ▸ x) else lendP t (some ⟨u, x⟩)
  | v => v.as t

def AV.asR (s : St) (t : Ty) : AV → Option t.den
  | .ptr i p => s.lend t i p
  | .rptr u x => if h : u = t then some (h ▸ x) else none
  | _ => none

def AV.asRL (s : St) : (ts : List Ty) → AV → Option (DL ts)
  | [], .nil => some ()
  | t :: ts, .cons a b => match a.asR s t, AV.asRL s ts b with
    | some x, some y => some (x, y)
    | _, _ => none
  | _, _ => none

def castD {u t : Ty} (h : u = t) (x : u.den) : t.den := h ▸ x

/-- an object that goes over: its type and value, and which objects go with it -/
def AV.give (s : St) : AV → Option (Sigma Ty.den × List Nat)
  | .val t x => some (⟨t, x⟩, [])
  | .at_ i [] => match s.obj i with
    | some (.own t x) => some (⟨t, x⟩, [i])
    | _ => none
  | .sub i [] lo hi => match s.obj i with
    | some (.own (.slc true t) x) => some (⟨.slc true t, cut2 lo hi x⟩, [i])
    | _ => none
  | _ => none

/-- the same, where a variable may go as a whole -/
def AV.giveV (s : St) (v : AV) : Option (Sigma Ty.den × List Nat) :=
  match v with
  | .at_ i [] => match s.obj i with
    | some (.var t x) => some (⟨t, x⟩, [i])
    | _ => (AV.at_ i []).give s
  | v => v.give s

/-- what an argument gives: its reading; objects that it takes; objects that are written -/
def AV.asK (s : St) (k : PK) (v : AV) : Option (k.den × List Nat × List Nat) :=
  match k with
  | .v t => match v.asV s t with | some x => some (x, [], []) | none => none
  | .rd t => match v.asR s t with | some x => some (x, [], []) | none => none
  | .clo f ts => match v with
    | .clo g l => match Nat.beq f g with
      | true => match AV.asRL s ts l with | some x => some (x, [], []) | none => none
      | false => none
    | _ => none
  | .own t => match v with
    | .raw (.slice none 0 0) => match v.as t with | some x => some (x, [], []) | none => none
    | v => match v.giveV s with
      | some (⟨u, x⟩, l) => if h : u = t then some (castD h x, l, []) else none
      | none => none
  | .rw t => match v with
    | .ptr i [] => match s.obj i with
      | some (.var u x) => if h : u = t then some (castD h x, [], [i]) else none
      | _ => none
    | _ => none
  | .mu t => match v with
    | .at_ i [] => match s.obj i with
      | some (.own u x) => if h : u = .slc true t then some (castD h x, [], [i]) else none
      | _ => none
    | _ => none

def AV.asKs (s : St) : (ks : List PK) → AV → Option (DK ks × List Nat × List Nat)
  | [], .nil => some ((), [], [])
  | k :: ks, .cons a b => match a.asK s k, AV.asKs s ks b with
    | some (x, g, m), some (y, g', m') => some ((x, y), g ++ g', m ++ m')
    | _, _ => none
  | _, _ => none

/-- objects lent to a callee -/
def AV.lent : AV → List Nat
  | .at_ i _ | .ptr i _ | .sub i _ _ _ => [i]
  | .cons a b => a.lent ++ b.lent
  | .tup l | .clo _ l => l.lent
  | _ => []

def Ty.noSh : Ty → Bool
  | .pair a b => a.noSh && b.noSh
  | .arr _ t => t.noSh
  | .slc o t => o && t.noSh
  | _ => true

def AV.app : AV → AV → AV
  | .cons a b, l => .cons a (b.app l)
  | _, l => l

def rid (d j : Nat) : Nat := d + 1000 * (j + 1)

/-- a callee's results laid: what is not shared becomes an object of its own -/
def layRes : (ts : List Ty) → DL ts → Nat → Nat → List (Nat × Ent) → Option (AV × List (Nat × Ent))
  | [], _, _, _, hp => some (.nil, hp)
  | t :: ts, x, d, j, hp =>
    match t.shared with
    | true => match layRes ts x.2 d (j + 1) hp with
      | some (l, hp') => some (.cons (.val t x.1) l, hp')
      | none => none
    | false => match look (rid d j) hp with
      | some _ => none
      | none => match layRes ts x.2 d (j + 1) (Ex.put (rid d j) (.own t x.1) hp) with
        | some (l, hp') => some (.cons (.at_ (rid d j) []) l, hp')
        | none => none

def AV.one : AV → AV
  | .cons a .nil => a
  | l => .tup l

def noMents (d : Nat) : Nat → List (Nat × AV) → Bool
  | 0, _ => true
  | j + 1, fr => noMent (rid d j) fr && noMents d j fr

def noDup : List Nat → Bool
  | [] => true
  | a :: l => !l.contains a && noDup l

def disj : List Nat → List Nat → Bool
  | [], _ => true
  | a :: l, m => !m.contains a && disj l m

def nonesR (d : Nat) : Nat → List (Nat × Ent) → Bool
  | 0, _ => true
  | j + 1, hp => (look (rid d j) hp).isNone && nonesR d j hp

/-- objects that stay where they are: what came in to be written -/
def pinned (i : Nat) : Bool := Nat.ble 2000000 i

def flds : List Step → Bool
  | [] => true
  | .fld _ :: p => flds p
  | .idx _ :: _ => false

/-- behind a call that writes object i: pointers that still point, and the header that lies in no memory -/
def AV.killR1 (i : Nat) (ow : Bool) (v : AV) : AV :=
  match v.ment i with
  | false => v
  | true => match v with
    | .ptr j p => match flds p with | true => .ptr j p | false => .any
    | .at_ j [] => match ow with | true => .at_ j [] | false => .any
    | .sub j [] a b => match ow with | true => .sub j [] a b | false => .any
    | _ => .any

def St.killR (i : Nat) (ow : Bool) (s : St) : St := { s with fr := mapA (AV.map (AV.killR1 i ow)) s.fr }

/-- the written object's new value (one object at most is written) -/
def wr (ks : List PK) (y : DL (wts ks)) (m : List Nat) (s : St) : Option St :=
  match ks, y, m with
  | [], _, [] => some s
  | .rw t :: ks, y, [i] => match wts ks with
    | [] => some ((s.killR i false).putE i (.var t y.1))
    | _ => none
  | .mu t :: ks, y, [i] => match wts ks with
    | [] => some ((s.killR i true).putE i (.own (.slc true t) y.1))
    | _ => none
  | .v _ :: ks, y, m => wr ks y m s
  | .rd _ :: ks, y, m => wr ks y m s
  | .clo _ _ :: ks, y, m => wr ks y m s
  | .own _ :: ks, y, m => wr ks y m s
  | _, _, _ => none

def callA (E : Env) (f : FuncId) (args : AV) (dst : Option Nat) (s : St) : OR :=
  match look f E.ctr with
  | none => .fail "call: no contract"
  | some c => match AV.asKs s c.ps args with
    | none => .fail "call: arguments"
    | some (x, g, m) => match noDup (g ++ m) && disj (g ++ m) (loose c.ps args) && (g.all fun i => !pinned i) && ((c.rs.all Ty.noSh && (wts c.ps).all Ty.noSh) || (match loose c.ps args with | [] => true | _ => false)) && (noMents (dst.getD 0) c.rs.length s.fr && nonesR (dst.getD 0) c.rs.length s.hp) with
      | false => .fail "call: objects"
      | true => match wr c.ps (c.out x) m (St.drops g s) with
        | none => .fail "call: writing"
        | some s => match noMents (dst.getD 0) c.rs.length s.fr with
          | false => .fail "call: names"
          | true => match layRes c.rs (c.fn x) (dst.getD 0) 0 s.hp with
            | some (l, hp) => .okN (c.pre x) l.one { s with hp := hp }
            | none => .fail "call: results"
where
  /-- the objects that are read -/
  loose : List PK → AV → List Nat
    | .own _ :: ks, .cons _ b => loose ks b
    | .rw _ :: ks, .cons _ b => loose ks b
    | .mu _ :: ks, .cons _ b => loose ks b
    | _ :: ks, .cons a b => a.lent ++ loose ks b
    | _, _ => []

/-! ### operations -/
def ofConst : Value → AV
  | .int k n => if k.min ≤ n ∧ n ≤ k.max then .val (.int k) n else .raw (.int k n)
  | .bool b => .val .bool b
  | .string s => if s.data.size ≤ maxLen then .val .str s.data.toList else .raw (.string s)
  | v => .raw v

def St.ev (s : St) : Operand → AV
  | .tmp t => s.get t
  | .const v => ofConst v
  | .global _ => .any
  | .func f => .clo f .nil

def St.evs (s : St) : List Operand → AV
  | [] => .nil
  | x :: l => .cons (s.ev x) (s.evs l)

def bAnd (k : IntKind) (x y : Int) : Int := k.wrap (BitVec.ofInt k.bits x &&& BitVec.ofInt k.bits y).toNat
def bOr (k : IntKind) (x y : Int) : Int := k.wrap (BitVec.ofInt k.bits x ||| BitVec.ofInt k.bits y).toNat
def bXor (k : IntKind) (x y : Int) : Int := k.wrap (BitVec.ofInt k.bits x ^^^ BitVec.ofInt k.bits y).toNat
def bAndNot (k : IntKind) (x y : Int) : Int := k.wrap (BitVec.ofInt k.bits x &&& ~~~(BitVec.ofInt k.bits y)).toNat

def arith (k : IntKind) (r : Int) (s : St) : OR :=
  match k with
  | .i64 => .okN (inK .i64 r) (.val (.int .i64) r) s
  | k => .ok (.val (.int k) (k.wrap r)) s

def binI (op : BinOp) (k : IntKind) (a : Int) (k' : IntKind) (b : Int) (s : St) : OR :=
  match op with
  | .shl => .okN (0 ≤ b) (.val (.int k) (k.wrap (a * 2 ^ (min b.toNat k.bits)))) s
  | .shr => .okN (0 ≤ b) (.val (.int k) (a / 2 ^ (min b.toNat k.bits))) s
  | op =>
    if k = k' then
      match op with
      | .add => arith k (a + b) s
      | .sub => arith k (a - b) s
      | .mul => arith k (a * b) s
      | .quo => .okN (0 < b) (.val (.int k) (Int.tdiv a b)) s
      | .rem => .okN (0 < b) (.val (.int k) (Int.tmod a b)) s
      | .and => .ok (.val (.int k) (bAnd k a b)) s
      | .or => .ok (.val (.int k) (bOr k a b)) s
      | .xor => .ok (.val (.int k) (bXor k a b)) s
      | .andNot => .ok (.val (.int k) (bAndNot k a b)) s
      | .eql => .ok (.val .bool (decide (a = b))) s
      | .neq => .ok (.val .bool (decide (a ≠ b))) s
      | .lss => .ok (.val .bool (decide (a < b))) s
      | .leq => .ok (.val .bool (decide (a ≤ b))) s
      | .gtr => .ok (.val .bool (decide (b < a))) s
      | .geq => .ok (.val .bool (decide (b ≤ a))) s
      | _ => .fail "binop int"
    else .fail "binop kinds"

def binS (op : BinOp) (a b : List UInt8) (s : St) : OR :=
  match op with
  | .eql => .ok (.val .bool (decide (a = b))) s
  | .neq => .ok (.val .bool (decide (a ≠ b))) s
  | .add => .okN (a.length + b.length ≤ maxLen) (.val .str (a ++ b)) s
  | _ => .fail "binop string"

def chk (E : Env) (T : TypeId) (u : Ty) : Bool :=
  match look T E.tt with
  | some i => decide (i.ty.sh = u.sh)
  | none => false

/-- equality of structs and arrays of plain parts -/
def Ty.eqable : Ty → Bool
  | .int _ | .bool | .str | .unit => true
  | .pair a b => a.eqable && b.eqable
  | .arr _ t => t.eqable
  | _ => false

def eqD : (t : Ty) → t.den → t.den → Bool
  | .int _, x, y => decide ((x : Int) = y)
  | .bool, x, y => (x : Bool) == y
  | .str, x, y => decide ((x : List UInt8) = y)
  | .unit, _, _ => true
  | .pair a b, x, y => eqD a x.1 y.1 && eqD b x.2 y.2
  | .arr _ t, x, y => eqDL (eqD t) x y
  | .slc _ _, _, _ => false
where eqDL {α : Type} (f : α → α → Bool) : List α → List α → Bool
  | [], [] => true
  | x :: l, y :: m => f x y && eqDL f l m
  | _, _ => false

def binA (E : Env) (T : TypeId) (op : BinOp) (x y : AV) (s : St) : OR :=
  match x, y with
  | .val (.int k) a, .val (.int k') b => binI op k a k' b s
  | .val .bool a, .val .bool b =>
    match chk E T .bool, op with
    | true, .eql => .ok (.val .bool (a == b)) s
    | true, .neq => .ok (.val .bool (a != b)) s
    | _, _ => .fail "binop bool"
  | .val .str a, .val .str b => binS op a b s
  | _, _ => .fail "binop"

def Ty.ht : Ty → Nat
  | .pair a b => max (a.ht + 1) b.ht
  | .arr _ t => t.ht + 1
  | _ => 0

def eqFs (ck : TypeId → Ty → Bool) : List Field → Ty → Bool
  | [], .unit => true
  | f :: fs, .pair a b => ck f.type a && eqFs ck fs b
  | _, _ => false

def eqOk (P : Program) : Nat → TypeId → Ty → Bool
  | 0, _, _ => false
  | n + 1, T, t => match P.underlying T, t with
    | some (.struct fs), t => !P.stoodInHeld T && eqFs (eqOk P n) fs.toList t
    | some (.array _ e), .arr _ t => eqOk P n e t
    | some .bool, .bool => true
    | some (.int _), .int _ => true
    | some .string, .str => true
    | _, _ => false

/-- structs and arrays against each other -/
def eqA (E : Env) (T : TypeId) (op : BinOp) (t : Ty) (x : t.den) (u : Ty) (y : u.den) (s : St) : OR :=
  if h : u = t then
    (match t.agg && chk E T t && eqOk E.P 100 T t && !(E.P.eqGuardType E.P.depth T) && Nat.blt t.ht 100, op with
    | true, .eql => .ok (.val .bool (eqD t x (h ▸ y))) s
    | true, .neq => .ok (.val .bool (!(eqD t x (h ▸ y)))) s
    | _, _ => .fail "eq")
  else .fail "eq: types"

def binE (E : Env) (T : TypeId) (op : BinOp) (x y : AV) (s : St) : OR :=
  match x, y with
  | .val (.pair p q) a, .val u b => eqA E T op (.pair p q) a u b s
  | .val (.arr n q) a, .val u b => eqA E T op (.arr n q) a u b s
  | x, y => binA E T op x y s

def unA (op : UnOp) (x : AV) (s : St) : OR :=
  match op, x with
  | .not, .val .bool b => .ok (.val .bool (!b)) s
  | .neg, .val (.int k) a => arith k (0 - a) s
  | .xor, .val (.int k) a => .ok (.val (.int k) (bXor k (if k.signed then -1 else k.max) a)) s
  | _, _ => .fail "unop"

def partPath (t : Ty) (i : Nat) : List Step :=
  match t with
  | .arr _ _ => [.idx i]
  | _ => [.fld i]

/-- a struct or an array written out: parts by number, laid over the zero one after the other; and the objects that go into it -/
def buildL (s : St) : Sigma Ty.den → List (Nat × Operand) → Option (Sigma Ty.den × List Nat)
  | r, [] => some (r, [])
  | ⟨t, x⟩, (i, v) :: parts =>
    match getP t x (partPath t i) with
    | none => none
    | some ⟨u0, _⟩ => match s.ev v with
      | .raw (.slice none 0 0) => (match u0 with
        | .slc o u' => (match setP t x (partPath t i) (.slc o u') ([] : List u'.den) with
          | some r => buildL s r parts
          | none => none)
        | _ => none)
      | v => (match v.giveV s with
        | some (⟨u, z⟩, g) => (match setP t x (partPath t i) u z with
          | some r => (match buildL s r parts with
            | some (r, g') => some (r, g ++ g')
            | none => none)
          | none => none)
        | none => none)

/-- a value of the call's own, laid at a name -/
def St.lay (s : St) (d : Nat) (g : List Nat) (t : Ty) (x : t.den) : OR :=
  match noDup g && (g.all fun i => !pinned i) && s.fresh d with
  | false => .fail "lay: objects"
  | true => match (St.drops g s).fresh d with
    | true => .ok (.at_ d []) ((St.drops g s).putE d (.own t x))
    | false => .fail "lay: name"

def OR.need (p : Prop) : OR → OR
  | .ok v s => .okN p v s
  | r => r

def inArr (t : Ty) (i : Nat) : Bool :=
  match t with
  | .arr n _ => Nat.blt i n
  | _ => true

def loadA (E : Env) (T : TypeId) (a : AV) (s : St) : OR :=
  match a with
  | .rptr t x => match chk E T t with | true => .ok (.val t x) s | false => .fail "load: type"
  | .ptr i p => match s.part i p with
    | some ⟨u, y⟩ => (match chk E T u with
      | true => (match u.shared with | true => .ok (.val u y) s | false => .ok (.at_ i p) s)
      | false => .fail "load: type")
    | none => .fail "load: path"
  | _ => .fail "load"

/-- what is stored: a value of its own type, nil, an object of the call's own that is moved, a view of the very place, what was appended to the very place -/
def storeA (E : Env) (T : TypeId) (i : Nat) (p : List Step) (x : AV) (s : St) : OR :=
  match s.obj i with
  | none => .fail "store: object"
  | some e => match getP e.ty e.x p with
    | none => .fail "store: path"
    | some ⟨u, y⟩ => match chk E T u with
      | false => .fail "store: type"
      | true => match x with
        | .raw (.slice none 0 0) => (match u with
          | .slc o u' => (match setP e.ty e.x p (.slc o u') ([] : List u'.den) with
            | some r => .ok (.raw undef) ((s.kill i e.kd p).putE i (e.upd r))
            | none => .fail "store: nil")
          | _ => .fail "store: nil of what")
        | .sub j q lo hi => (match u, y with
          | .slc true u', (y : List u'.den) => (match setP e.ty e.x p (.slc true u') (cut2 lo hi y) with
            | some r => (match Nat.beq i j with
              | true => .okN (q = p ∧ True) (.raw undef) ((s.kill i e.kd p).putE i (e.upd r))
              | false => .fail "store: a view of another")
            | none => .fail "store: view")
          | _, _ => .fail "store: view of what")
        | x => (match x.giveV s with
          | some (⟨u', z⟩, g) => (match setP e.ty e.x p u' z with
            | some r => (match !g.contains i && noDup g && g.all fun i => !pinned i with
              | true => .ok (.raw undef) (((St.drops g s).kill i e.kd p).putE i (e.upd r))
              | false => .fail "store: itself")
            | none => .fail "store: value")
          | none => .fail "store: what")

/-- the elements of a slice, to be read -/
def AV.els (s : St) : AV → Option (Sigma fun t : Ty => List t.den)
  | .val (.slc _ t) l => some ⟨t, l⟩
  | .at_ i p => match s.part i p with
    | some ⟨.slc _ t, l⟩ => some ⟨t, l⟩
    | _ => none
  | .sub i p lo hi => s.view i p lo hi
  | _ => none

/-- what is appended: its elements, and the object that goes -/
def AV.app1 (s : St) (t0 : Ty) : AV → Option (Sigma (fun t : Ty => List t.den) × List Nat)
  | .raw (.slice none 0 0) => some (⟨t0, []⟩, [])
  | .val .str y => some (⟨.int .u8, (List.map (fun b : UInt8 => (b.toNat : Int)) y : List Int)⟩, [])
  | v => match v.els s with
    | none => none
    | some ⟨t, l⟩ => match t.shared with
      | true => some (⟨t, l⟩, [])
      | false => match v.give s with
        | some (⟨.slc true u, m⟩, g) => some (⟨u, m⟩, g)
        | _ => none

def castL {t u : Ty} (h : t = u) (l : List t.den) : List u.den := h ▸ l

def appendA (E : Env) (T : TypeId) (x y : AV) (dst : Option Nat) (s : St) : OR :=
  match look T E.tt, dst with
  | some ⟨.slc _ t0, _⟩, some d => match y.app1 s t0 with
    | none => .fail "append: what"
    | some (⟨t, m⟩, g) =>
      let own (l : List t0.den) (f : List Nat) : OR :=
        if h : t = t0 then (s.lay d (f ++ g) (.slc true t0) (l ++ castL h m)).need ((l.length + m.length : Nat) ≤ 140737488355328 ∧ (l.length + m.length : Nat) * (t0.wb : Nat) ≤ 140737488355328)
        else .fail "append: type"
      match x with
      | .raw (.slice none 0 0) => own [] []
      | .val (.slc true u) _ => (match chk E T (.slc true u) with | true => own [] [] | false => .fail "append: type")
      | x => match x.give s with
        | some (⟨.slc true u, l⟩, f) => if h : u = t0 then own (castL h l) f else .fail "append: type"
        | _ => .fail "append: to what"
  | _, _ => .fail "append"

/-- bounds of a slice -/
def bnd (s : St) (d : Int) : Option Operand → Option Int
  | none => some d
  | some x => match s.ev x with
    | .val (.int _) n => some n
    | _ => none

def sliceA (E : Env) (T : TypeId) (x : AV) (lo hi max : Option Operand) (s : St) : OR :=
  match bnd s 0 lo with
  | none => .fail "slice: low"
  | some a =>
  match x with
  | .val .str y => (match bnd s (List.length y : Int) hi, max with
    | some b, none => (match chk E T .str with | true => .okN (0 ≤ a ∧ a ≤ b ∧ b ≤ (List.length y : Int)) (.val .str (cut2 a b y)) s | false => .fail "slice: type")
    | _, _ => .fail "slice: bounds")
  | .val (.slc false t) y => (match bnd s (List.length y : Int) hi, max with
    | some b, none => (match chk E T (.slc false t) with | true => .okN (0 ≤ a ∧ a ≤ b ∧ b ≤ (List.length y : Int)) (.val (.slc false t) (cut2 a b y)) s | false => .fail "slice: type")
    | some b, some _ => (match chk E T (.slc false t) && hi.isSome, bnd s 0 max with
      | true, some c => .okN (a = 0 ∧ b = 0 ∧ c = 0) (.val (.slc true t) ([] : List t.den)) s
      | _, _ => .fail "slice: type")
    | _, _ => .fail "slice: bounds")
  | .at_ i p => (match s.part i p with
    | some ⟨.slc true t, y⟩ => (match bnd s (List.length y : Int) hi, max with
      | some b, none => (match chk E T (.slc true t) with | true => .okN (0 ≤ a ∧ a ≤ b ∧ b ≤ (List.length y : Int)) (.sub i p a b) s | false => .fail "slice: type")
      | some b, some _ => (match chk E T (.slc true t) && hi.isSome, bnd s 0 max with
        | true, some c => .okN (a = 0 ∧ b = 0 ∧ c = 0) (.val (.slc true t) ([] : List t.den)) s
        | _, _ => .fail "slice: type")
      | _, _ => .fail "slice: bounds")
    | _ => .fail "slice: of what")
  | .sub i p a0 b0 => (match s.view i p a0 b0 with
    | some ⟨t, y⟩ => (match bnd s (b0 - a0) hi, max with
      | some b, none => (match chk E T (.slc true t) with | true => .okN (0 ≤ a ∧ a ≤ b ∧ b ≤ b0 - a0) (.sub i p (a0 + a) (a0 + b)) s | false => .fail "slice: type")
      | _, _ => .fail "slice: bounds")
    | none => .fail "slice: view")
  | .ptr i p => (match s.part i p with
    | some ⟨.arr n t, _⟩ => (match bnd s (n : Int) hi, max with
      | some b, none => (match chkP E T (.arr n t) && Nat.ble n 1000000 with | true => .okN (0 ≤ a ∧ a ≤ b ∧ b ≤ (n : Int)) (.sub i p a b) s | false => .fail "slice: type")
      | _, _ => .fail "slice: bounds")
    | _ => .fail "slice: of what")
  | _ => .fail "slice"
where
  /-- the type of pointers to an array -/
  chkP (E : Env) (T : TypeId) (u : Ty) : Bool :=
    match E.P.underlying T with
    | some (.pointer A) => chk E A u
    | some (.array _ _) => chk E T u
    | _ => false

def foldI (s : St) (k : IntKind) (f : Int → Int → Int) : Int → List Operand → OR
  | a, [] => .ok (.val (.int k) a) s
  | a, x :: l => match s.ev x with
    | .val (.int k') b => if k = k' then foldI s k f (f a b) l else .fail "max"
    | _ => .fail "max"

def aop (E : Env) (o : Oper) (s : St) : OR :=
  match o.op with
  | .move x => .ok (s.ev x) s
  | .assign x => .ok (s.ev x) s
  | .alloc T => match look T E.tt, o.dst with
    | some t, some d => (match s.fresh d with
      | true => .ok (.ptr d []) (s.putE d (.var t.ty t.ty.dflt))
      | false => .fail "alloc: name")
    | _, _ => .fail "alloc"
  | .box T x => match look T E.tt, o.dst with
    | some t, some d => (match s.fresh d with
      | true => (match (s.ev x).giveV s with
        | some (⟨u, y⟩, g) => if u.sh = t.ty.sh then (match noDup g && !g.contains d && g.all fun i => !pinned i with
          | true => .ok (.ptr d []) ((St.drops g s).putE d (.var u y))
          | false => .fail "box: objects") else .fail "box: value"
        | none => (match s.ev x, t.ty with
          | .raw (.slice none 0 0), .slc o u => .ok (.ptr d []) (s.putE d (.var (.slc o u) ([] : List u.den)))
          | _, _ => .fail "box: what"))
      | false => .fail "box: name")
    | _, _ => .fail "box"
  | .build T parts => match look T E.tt with
    | some t => (match t.ty.agg && parts.toList.all (fun q => inArr t.ty q.1) with
      | true => (match buildL s ⟨t.ty, t.ty.dflt⟩ parts.toList, o.dst with
        | some (⟨u, y⟩, []), _ => .ok (.val u y) s
        | some (⟨u, y⟩, g), some d => s.lay d g u y
        | _, _ => .fail "build: parts")
      | false => .fail "build: index")
    | none => .fail "build"
  | .buildSlice T n parts => match look T E.tt, o.dst with
    | some ⟨.slc true t, _⟩, some d => (match s.fresh d && parts.toList.all (fun q => Nat.blt q.1 n) && Nat.ble (n * t.size) 16777216 with
      | true => (match buildL s ⟨.arr n t, (Ty.arr n t).dflt⟩ parts.toList with
        | some (⟨.arr _ t', l⟩, g) => s.lay d g (.slc true t') l
        | _ => .fail "buildSlice: parts")
      | false => .fail "buildSlice: name")
    | _, _ => .fail "buildSlice"
  | .load T a => loadA E T (s.ev a) s
  | .store T a x => match s.ev a with
    | .ptr i p => storeA E T i p (s.ev x) s
    | _ => .fail "store"
  | .nilCheck x => match s.ev x with
    | .ptr i p => .ok (.ptr i p) s
    | .rptr t y => .ok (.rptr t y) s
    | .clo f l => .ok (.clo f l) s
    | _ => .fail "nilCheck"
  | .fieldAddr T x n => match s.ev x with
    | .ptr i p => (match s.part i p with
      | some ⟨u, z⟩ => (match chk E T u, getP u z [.fld n] with
        | true, some _ => .ok (.ptr i (p ++ [.fld n])) s
        | _, _ => .fail "fieldAddr: type")
      | none => .fail "fieldAddr: path")
    | .rptr t y => match chk E T t, getP t y [.fld n] with
      | true, some ⟨u, z⟩ => .ok (.rptr u z) s
      | _, _ => .fail "fieldAddr"
    | _ => .fail "fieldAddr"
  | .indexAddr T x i => match s.ev x, s.ev i with
    | .ptr d p, .val (.int _) n => (match s.part d p with
      | some ⟨.arr m u, _⟩ => (match chk E T (.arr m u) with
        | true => .okN (0 ≤ n ∧ n < m) (.ptr d (p ++ [.idx n])) s
        | false => .fail "indexAddr: type")
      | _ => .fail "indexAddr: type")
    | .rptr (.arr m t) y, .val (.int _) n => (match chk E T (.arr m t) with
      | true => .okN (0 ≤ n ∧ n < m) (.rptr t (List.getD y (Int.toNat n) t.dflt)) s
      | false => .fail "indexAddr: type")
    | .val (.slc false t) y, .val (.int _) n => (match chk E T (.slc false t) with
      | true => .okN (0 ≤ n ∧ n < List.length y) (.rptr t (List.getD y (Int.toNat n) t.dflt)) s
      | false => .fail "indexAddr: type")
    | .at_ d p, .val (.int _) n => (match s.part d p with
      | some ⟨.slc true u, z⟩ => (match chk E T (.slc true u) with
        | true => .okN (0 ≤ n ∧ n < List.length z) (.ptr d (p ++ [.idx n])) s
        | false => .fail "indexAddr: type")
      | _ => .fail "indexAddr: type")
    | .sub d p lo hi, .val (.int _) n => (match s.view d p lo hi with
      | some ⟨u, _⟩ => (match chk E T (.slc true u) with
        | true => .okN (0 ≤ n ∧ n < hi - lo) (.ptr d (p ++ [.idx (lo + n)])) s
        | false => .fail "indexAddr: type")
      | none => .fail "indexAddr: view")
    | _, _ => .fail "indexAddr"
  | .field T x n => match s.ev x with
    | .val t y => (match chk E T t, getP t y [.fld n] with
      | true, some ⟨u, z⟩ => .ok (.val u z) s
      | _, _ => .fail "field")
    | .at_ i p => (match s.part i p with
      | some ⟨t, y⟩ => (match chk E T t, getP t y [.fld n] with
        | true, some ⟨u, z⟩ => (match u.shared with | true => .ok (.val u z) s | false => .ok (.at_ i (p ++ [.fld n])) s)
        | _, _ => .fail "field")
      | none => .fail "field: part")
    | _ => .fail "field"
  | .index T x i => match s.ev x, s.ev i with
    | .val .str y, .val (.int _) n => (match chk E T .str with
      | true => .okN (0 ≤ n ∧ n < List.length y) (.val (.int .u8) ((List.getD y (Int.toNat n) 0).toNat : Int)) s
      | false => .fail "index: type")
    | .val (.arr m t) y, .val (.int _) n => (match chk E T (.arr m t) with
      | true => .okN (0 ≤ n ∧ n < m) (.val t (List.getD y (Int.toNat n) t.dflt)) s
      | false => .fail "index: type")
    | .at_ i p, .val (.int _) n => (match s.part i p with
      | some ⟨.arr m t, y⟩ => (match chk E T (.arr m t) with
        | true => (match t.shared with
          | true => .okN (0 ≤ n ∧ n < m) (.val t (List.getD y (Int.toNat n) t.dflt)) s
          | false => .okN (0 ≤ n ∧ n < m) (.at_ i (p ++ [.idx n])) s)
        | false => .fail "index: type")
      | _ => .fail "index: of what")
    | _, _ => .fail "index"
  | .binOp op T x y _ => binE E T op (s.ev x) (s.ev y) s
  | .unOp op _ x => unA op (s.ev x) s
  | .convert T' T x => match s.ev x, look T' E.tt, look T E.tt with
    | .val (.int _) n, some ⟨.int _, _⟩, some ⟨.int k, _⟩ => .ok (.val (.int k) (k.wrap n)) s
    | .val .str y, some ⟨.str, _⟩, some ⟨.slc true (.int .u8), _⟩ => (match o.dst with
      | some d => s.lay d [] (.slc true (.int .u8)) (List.map (fun b : UInt8 => (b.toNat : Int)) y : List Int)
      | none => .fail "convert")
    | v, some ⟨.slc true (.int .u8), _⟩, some ⟨.str, _⟩ => (match v.els s with
      | some ⟨.int .u8, l⟩ => .ok (.val .str (List.map (fun n : Int => UInt8.ofNat n.toNat) l)) s
      | _ => match v with
        | .raw (.slice none 0 0) => .ok (.val .str []) s
        | _ => .fail "convert: bytes")
    | _, _, _ => .fail "convert"
  | .extract x i => match s.ev x with
    | .tup l => match nth i l with
      | some v => .ok v s
      | none => .fail "extract"
    | _ => .fail "extract"
  | .makeSlice T x y => match look T E.tt, o.dst, s.ev x, s.ev y with
    | some ⟨.slc true t, _⟩, some d, .val (.int _) n, .val (.int _) m => (s.lay d [] (.slc true t) (List.replicate n.toNat t.dflt)).need (0 ≤ n ∧ n ≤ m ∧ m ≤ 140737488355328 ∧ m * (t.wb : Nat) ≤ 140737488355328)
    | _, _, _, _ => .fail "makeSlice"
  | .slice T x lo hi max => sliceA E T (s.ev x) lo hi max s
  | .makeFunc (.func f) first caps => match first.toList with
    | [] => .ok (.clo f (s.evs caps.toList)) s
    | _ => .fail "makeFunc"
  | .call c => match c.callee with
    | .value f => match s.ev f with
      | .clo f caps => callA E f ((s.evs c.args.toList).app caps) o.dst s
      | _ => .fail "call of what"
    | .builtin .len => match c.args.toList, c.argTypes.toList with
      | [x], [T] => (match s.ev x with
        | .val (.slc q u) y => (match chk E T (.slc q u) with | true => .ok (.val (.int .i64) (List.length y : Int)) s | false => .fail "len")
        | .val .str y => (match chk E T .str with | true => .ok (.val (.int .i64) (List.length y : Int)) s | false => .fail "len")
        | .val (.arr n u) _ => (match chk E T (.arr n u) with | true => (if (n : Int) ≤ 9223372036854775807 then .ok (.val (.int .i64) (n : Int)) s else .fail "len") | false => .fail "len")
        | .at_ d p => (match s.part d p with
          | some ⟨.slc q u, z⟩ => (match chk E T (.slc q u) with | true => .ok (.val (.int .i64) (List.length z : Int)) s | false => .fail "len")
          | _ => .fail "len")
        | .sub d p lo hi => (match s.view d p lo hi with
          | some ⟨u, _⟩ => (match chk E T (.slc true u) with | true => .ok (.val (.int .i64) (hi - lo)) s | false => .fail "len")
          | none => .fail "len")
        | .raw (.slice none 0 0) => (match look T E.tt with | some ⟨.slc _ _, _⟩ => .ok (.val (.int .i64) 0) s | _ => .fail "len")
        | _ => .fail "len")
      | _, _ => .fail "len"
    | .builtin .append => match c.args.toList, c.argTypes.toList with
      | [x, y], [T, U] => (match look U E.tt with
        | some ⟨.slc _ _, _⟩ => appendA E T (s.ev x) (s.ev y) o.dst s
        | some ⟨.str, _⟩ => appendA E T (s.ev x) (s.ev y) o.dst s
        | _ => .fail "append: of what type")
      | _, _ => .fail "append"
    | .builtin .max => match c.args.toList with
      | x :: l => (match s.ev x with
        | .val (.int k) a => foldI s k (fun a b => if a < b then b else a) a l
        | _ => .fail "max")
      | _ => .fail "max"
    | .builtin .min => match c.args.toList with
      | x :: l => (match s.ev x with
        | .val (.int k) a => foldI s k (fun a b => if b < a then b else a) a l
        | _ => .fail "min")
      | _ => .fail "min"
    | _ => .fail "builtin"
  | _ => .fail "op"
where nth : Nat → AV → Option AV
  | 0, .cons a _ => some a
  | n + 1, .cons _ b => nth n b
  | _, _ => none

def guardSlot (ops : Array Oper) (j : Nat) : Option Nat := (ops[j]?).bind (·.dst)

def dstOk (n : Nat) : Option Nat → Bool
  | some d => Nat.blt d n
  | none => true

def runOp (E : Env) (o : Oper) (s : St) (k : St → Tree (E.rs ++ wts E.ps)) : Tree (E.rs ++ wts E.ps) :=
  match dstOk E.nt o.dst with
  | false => .stuck "slot"
  | true =>
  match o.op with
  | .pick c a b => match s.ev c with
    | .val .bool g => cond g (k (s.put o.dst (s.ev a))) (k (s.put o.dst (s.ev b)))
    | _ => .stuck "pick"
  | _ => match aop E o s with
    | .fail why => .stuck why
    | .ok v s' => k (s'.put o.dst v)
    | .okN p v s' => .need p (k (s'.put o.dst v))

/-- one place of a region: an operation, wanted or not -/
def placeA (E : Env) (ops : Array Oper) (o : Oper) (s : St) (k : St → Tree (E.rs ++ wts E.ps)) : Tree (E.rs ++ wts E.ps) :=
  match o.guard with
  | none => runOp E o s k
  | some (j, want) => match guardSlot ops j with
    | none => .stuck "guard"
    | some g => match s.get g with
      | .raw (.tuple _) => match dstOk E.nt o.dst with
        | true => k (s.put o.dst (.raw undef))
        | false => .stuck "slot"
      | .val .bool b => match dstOk E.nt o.dst with
        | false => .stuck "slot"
        | true => cond b
          (match want with
            | true => runOp E o (s.put (some g) (.val .bool true)) k
            | false => k ((s.put (some g) (.val .bool true)).put o.dst (.raw undef)))
          (match want with
            | false => runOp E o (s.put (some g) (.val .bool false)) k
            | true => k ((s.put (some g) (.val .bool false)).put o.dst (.raw undef)))
      | _ => .stuck "guard value"

def regA (E : Env) (ops : Array Oper) : List Oper → St → (St → Tree (E.rs ++ wts E.ps)) → Tree (E.rs ++ wts E.ps)
  | [], s, k => k s
  | o :: rest, s, k => placeA E ops o s fun s' => regA E ops rest s' k

/-- a slice against nil: either answer, where it is empty -/
def brA (E : Env) (s : St) (o : Oper) : Option (Prop × AV × AV) :=
  match o.op with
  | .binOp op T x y _ => match op with
    | .eql => (match s.ev y, look T E.tt with
      | .raw (.slice none 0 0), some ⟨.slc _ _, _⟩ => (match (s.ev x).els s with
        | some r => some (r.2 = [], .val .bool true, .val .bool false)
        | none => none)
      | _, _ => none)
    | .neq => (match s.ev y, look T E.tt with
      | .raw (.slice none 0 0), some ⟨.slc _ _, _⟩ => (match (s.ev x).els s with
        | some r => some (r.2 = [], .val .bool false, .val .bool true)
        | none => none)
      | _, _ => none)
    | _ => none
  | _ => none

/-! ### append to a place: the append, the address again, the store, as one step -/
/-- is it an address that is computed? -/
def isAddr : Op → Bool
  | .fieldAddr _ _ _ => true
  | .indexAddr _ _ _ => true
  | _ => false

def opTmps (o : Oper) : List Nat := o.op.operands.toList.filterMap fun | .tmp t => some t | _ => none

/-- an object of the kind that is written in place, and stays of its type -/
def stayB (e : Ent) (p : List Step) (r : Sigma Ty.den) : Bool :=
  match e with
  | .var t _ => decide (r.1 = t)
  | .own (.slc true t) _ => (match p with
    | .idx _ :: _ => decide (r.1 = .slc true t)
    | _ => false)
  | _ => false

/-- what was appended to the place, stored at the place -/
def appS (E : Env) (T U T2 : TypeId) (x y ad : AV) (d : Nat) (s : St) : Option (Prop × St) :=
  match x, ad, look T E.tt, look U E.tt with
  | .at_ i p, .ptr j q, some ⟨.slc _ t0, _⟩, some ⟨u1, _⟩ => (match s.obj i, Nat.beq i j && (match u1 with | .slc _ _ => true | .str => true | _ => false) with
    | some e, true => (match getP e.ty e.x p with
      | some ⟨.slc true u, l⟩ => (match y.app1 s t0 with
        | some (⟨t, m⟩, g) =>
          if hu : u = t0 then
            if ht : t = t0 then
              (match setP e.ty e.x p (.slc true t0) (castL hu l ++ castL ht m) with
                | some r => (match chk E T2 (.slc true t0) && stayB e p r && !g.contains i && noDup g && g.all (fun i => !pinned i) with
                  | true => some (q = p ∧ (l.length + m.length : Nat) ≤ 140737488355328 ∧ (l.length + m.length : Nat) * (t0.wb : Nat) ≤ 140737488355328,
                    ((St.drops g (s.put (some d) .any)).kill i e.kd p).putE i (e.upd r))
                  | false => none)
                | none => none)
            else none
          else none
        | none => none)
      | _ => none)
    | _, _ => none)
  | _, _, _, _ => none

/-- on from the append: addresses, then the store; how many operations -/
def fuseGo (E : Env) (T U : TypeId) (x y : Operand) (d : Nat) : List Oper → St → Option (Prop × St × Nat)
  | [], _ => none
  | o :: rest, s => match o.guard, dstOk E.nt o.dst with
    | none, true => (match isAddr o.op with
      | true => (match o.dst with
        | some d1 => (match !Nat.beq d1 d && !(opTmps o).contains d && (match x with | .tmp t => !Nat.beq t d1 | _ => true) && (match y with | .tmp t => !Nat.beq t d1 | _ => true), (match aop E o s with | .fail _ => none | .ok v _ => some (True, v) | .okN p v _ => some (p, v)) with
          | true, some (p, v) => (match fuseGo E T U x y d rest (s.put (some d1) v) with
            | some (p2, s2, n) => some (p ∧ p2, s2, n + 1)
            | none => none)
          | _, _ => none)
        | none => none)
      | false => (match o.op with
        | .store T2 ad (.tmp d') => (match Nat.beq d' d && (match ad with | .tmp t => !Nat.beq t d | _ => true) with
          | true => (match appS E T U T2 (s.ev x) (s.ev y) (s.ev ad) d s with
            | some (p, s2) => some (p, s2.put o.dst (.raw undef), 1)
            | none => none)
          | false => none)
        | _ => none))
    | _, _ => none

def fuseA (E : Env) (o : Oper) (rest : List Oper) (s : St) : Option (Prop × St × Nat) :=
  match o.guard, o.dst, dstOk E.nt o.dst, o.op with
  | none, some d, true, .call c => (match c.callee, c.args.toList, c.argTypes.toList with
    | .builtin .append, [x, y], [T, U] => (match s.ev x with
      | .at_ i p => (match (AV.at_ i p).give s with
        | some _ => none
        | none => fuseGo E T U x y d rest s)
      | _ => none)
    | _, _, _ => none)
  | _, _, _, _ => none

/-- a region in the text's order; so many operations are past -/
def regF (E : Env) (ops : Array Oper) : Nat → List Oper → St → (St → Tree (E.rs ++ wts E.ps)) → Tree (E.rs ++ wts E.ps)
  | _, [], s, k => k s
  | n + 1, _ :: rest, s, k => regF E ops n rest s k
  | 0, o :: rest, s, k => match fuseA E o rest s with
    | some (p, s', n) => .need p (regF E ops n rest s' k)
    | none => match o.guard, dstOk E.nt o.dst, brA E s o with
      | none, true, some (p, v1, v2) => .both p (regF E ops 0 rest (s.put o.dst v1) k) (regF E ops 0 rest (s.put o.dst v2) k)
      | _, _, _ => placeA E ops o s fun s' => regF E ops 0 rest s' k

/-! ### regions whose order is drawn -/
def OR.get : OR → Option (Prop × AV × St)
  | .fail _ => none
  | .ok v s => some (True, v, s)
  | .okN p v s => some (p, v, s)

/-- an operation on a state, its branch taken -/
def runR (E : Env) (o : Oper) (s : St) : Option (Prop × St) :=
  match dstOk E.nt o.dst with
  | false => none
  | true =>
  match o.op with
  | .pick c a b => match s.ev c with
    | .val .bool g => some (True, s.put o.dst (match g with | true => s.ev a | false => s.ev b))
    | _ => none
  | _ => match (aop E o s).get with
    | none => none
    | some (p, v, s') => some (p, s'.put o.dst v)

def placeR (E : Env) (ops : Array Oper) (o : Oper) (s : St) : Option (Prop × St) :=
  match o.guard with
  | none => runR E o s
  | some (j, want) => match guardSlot ops j with
    | none => none
    | some g => match s.get g with
      | .raw (.tuple _) => match dstOk E.nt o.dst with
        | true => some (True, s.put o.dst (.raw undef))
        | false => none
      | .val .bool b => match dstOk E.nt o.dst with
        | false => none
        | true => match b == want with
          | true => runR E o (s.put (some g) (.val .bool b))
          | false => some (True, (s.put (some g) (.val .bool b)).put o.dst (.raw undef))
      | _ => none

def looks (ops : Array Oper) (o : Oper) : List Nat :=
  (o.op.operands.toList.filterMap fun | .tmp t => some t | _ => none) ++
  (match o.guard with
   | some (g, _) => (guardSlot ops g).toList
   | none => [])

def apartB (ops : Array Oper) (x y : Oper) : Bool :=
  (match x.dst with
   | some d => !(looks ops y).contains d && (match y.dst with | some e => !(Nat.beq d e) | none => true)
   | none => true) &&
  (match y.dst with
   | some d => !(looks ops x).contains d
   | none => true)

def indep (ops : Array Oper) (x y : Oper) : Bool := apartB ops x y && !(Nat.beq ((x.dst.getD 0) % 1000) ((y.dst.getD 0) % 1000))

def PK.takes : PK → Bool
  | .own _ | .rw _ | .mu _ => true
  | _ => false

/-- objects that an operation may take or change -/
def takes (E : Env) (o : Oper) (s : St) : List Nat :=
  match o.op with
  | .store _ a x => (s.ev a).lent ++ (s.ev x).lent
  | .box _ x => (s.ev x).lent
  | .build _ parts => (s.evs (parts.toList.map (·.2))).lent
  | .buildSlice _ _ parts => (s.evs (parts.toList.map (·.2))).lent
  | .call c => (match c.callee with
    | .value f => (match s.ev f with
      | .clo g caps => (match look g E.ctr with
        | some c' => (match c'.ps.any PK.takes with
          | false => []
          | true => ((s.evs c.args.toList).app caps).lent)
        | none => [])
      | _ => [])
    | .builtin .append => (s.evs c.args.toList).lent
    | _ => [])
  | _ => []

/-- an operation, at its number, with the state that it met -/
structure Met where
  i : Nat
  o : Oper
  s : St
  T : List Nat

/-- does neither take what the other looks at? -/
def pairB (ops : Array Oper) (e : Met) (y : Oper) (Ty : List Nat) : Bool :=
  (match e.T with
    | [] => true
    | T => ((looks ops y).all fun m => T.all fun i => !(e.s.get m).ment i) && T.all fun i => !(Nat.beq (i % 1000) ((y.dst.getD 0) % 1000))) &&
  (match Ty with
    | [] => true
    | T => (looks ops e.o).all fun m => T.all fun i => !(e.s.get m).ment i)

def masksGo : List Oper → List Nat → List Nat
  | [], acc => acc
  | o :: l, acc => masksGo l (acc ++ [o.after.toList.foldl (fun m e => match Region.binds .any e with | true => Nat.lor (Nat.lor m (2 ^ e.on)) (acc.getD e.on 0) | false => m) 0])

def depOk (_ : List Nat) (o : Oper) (_ i : Nat) : Bool :=
  o.after.toList.all fun e => !Region.binds .any e || Nat.blt e.on i

def maskOk (M : List Nat) (o : Oper) (m n : Nat) : Bool :=
  (List.range n).all fun j => !(m.testBit j) || o.after.toList.any fun e => Region.binds .any e && (Nat.beq e.on j || (M.getD e.on 0).testBit j)

/-- unordered operations do not touch one another -/
def drawOk (ops : Array Oper) : Bool :=
  let M := masksGo ops.toList []
  let L := ops.toList
  let n := L.length
  (List.range n).all fun i => match L[i]? with
    | none => false
    | some o => depOk M o (M.getD i 0) i && maskOk M o (M.getD i 0) n &&
      (List.range i).all fun j => match L[j]? with
        | none => false
        | some x => (M.getD i 0).testBit j || indep ops x o

def AV.clean : AV → Bool
  | .ptr _ _ | .at_ _ _ | .sub _ _ _ _ => false
  | .cons a b => a.clean && b.clean
  | .tup l | .clo _ l => l.clean
  | _ => true

def uniqB {α : Type _} : List (Nat × α) → Bool
  | [] => true
  | (n, _) :: l => (match l with
    | [] => true
    | (m, _) :: _ => Nat.blt n m) && uniqB l

def distinctB : List Nat → Bool
  | [] => true
  | a :: l => !l.contains a && distinctB l

def dsts (ops : List Oper) : List Nat := ops.filterMap (·.dst)

def entryOk (ops : Array Oper) (s : St) : Bool :=
  uniqB s.fr && distinctB (dsts ops.toList) && (dsts ops.toList).all fun d => (s.get d).clean

def firstRegion : Code → Nat
  | .region id _ _ => id
  | .seq a _ => firstRegion a
  | .block _ c => firstRegion c
  | .loop c => firstRegion c
  | .cond _ a _ => firstRegion a
  | _ => 0

/-- an append to a place, its store still to come -/
structure PendA where
  k : Nat
  x : Operand
  y : Operand
  T : TypeId
  U : TypeId
  d : Nat

def appAt (E : Env) (o : Oper) (s : St) (i : Nat) : Option PendA :=
  match o.guard, o.dst, dstOk E.nt o.dst, o.op with
  | none, some d, true, .call c => (match c.callee, c.args.toList, c.argTypes.toList with
    | .builtin .append, [x, y], [T, U] => (match s.ev x with
      | .at_ j p => (match (AV.at_ j p).give s with
        | some _ => none
        | none => some ⟨i, x, y, T, U, d⟩)
      | _ => none)
    | _, _, _ => none)
  | _, _, _, _ => none

/-- what neither changes memory nor lays anything -/
def quiet (o : Oper) : Bool :=
  o.guard.isNone && (match o.op with
    | .move _ => true
    | .load _ _ => true
    | .fieldAddr _ _ _ => true
    | .indexAddr _ _ _ => true
    | _ => false)

def notIn (d : Option Nat) (L : List Nat) : Bool :=
  match d with
  | some e => !L.contains e
  | none => true

/-- the store stands behind all; what may stand between the append and the store is quiet -/
def pendOk (ops : Array Oper) (M : List Nat) (k n : Nat) : Bool :=
  Nat.beq (n + 1) ops.size && Nat.blt k n && (match ops[k]? with
    | some ok => (List.range n).all fun j => (M.getD n 0).testBit j && (Nat.beq j k || (match ops[j]? with
      | some o => notIn o.dst ok.dst.toList && ((M.getD k 0).testBit j || (quiet o && notIn o.dst (looks ops ok)))
      | none => false))
    | none => false)

def finA (E : Env) (ops : Array Oper) (M : List Nat) (q : PendA) (i : Nat) (o : Oper) (s : St) : Option (Prop × St) :=
  match o.guard, o.op with
  | none, .store T2 ad (.tmp d') => (match Nat.beq d' q.d && (match ad with | .tmp t => !Nat.beq t q.d | _ => true) && pendOk ops M q.k i && dstOk E.nt o.dst with
    | true => (match appS E q.T q.U T2 (s.ev q.x) (s.ev q.y) (s.ev ad) q.d s with
      | some (p, s2) => some (p, s2.put o.dst (.raw undef))
      | none => none)
    | false => none)
  | _, _ => none

/-- a drawn region's operations, in the text's order; an append to a place is done with its store -/
def regP (E : Env) (ops : Array Oper) (M : List Nat) (q : PendA) : Nat → List Oper → St → List Met → (St → Tree (E.rs ++ wts E.ps)) → Tree (E.rs ++ wts E.ps)
  | _, [], _, _, _ => .stuck "draw: pending"
  | i, [o], s, _, k => (match finA E ops M q i o s with
    | some (p, s2) => .need p (k s2)
    | none => .stuck "draw: append")
  | i, o :: o2 :: rest, s, acc, k =>
    match acc.all fun e => (M.getD i 0).testBit e.i || pairB ops e o (takes E o s) with
    | false => .stuck "draw: objects"
    | true => placeA E ops o s fun s' => regP E ops M q (i + 1) (o2 :: rest) s' (⟨i, o, s, takes E o s⟩ :: acc) k

def regD (E : Env) (ops : Array Oper) (M : List Nat) : Nat → List Oper → St → List Met → (St → Tree (E.rs ++ wts E.ps)) → Tree (E.rs ++ wts E.ps)
  | _, [], s, _, k => k s
  | i, o :: rest, s, acc, k =>
    match appAt E o s i with
    | some q => regP E ops M q (i + 1) rest s acc k
    | none => match acc.all fun e => (M.getD i 0).testBit e.i || pairB ops e o (takes E o s) with
      | false => .stuck "draw: objects"
      | true => placeA E ops o s fun s' => regD E ops M (i + 1) rest s' (⟨i, o, s, takes E o s⟩ :: acc) k

/-- slots of what is appended, forgotten -/
def forgetA : List Oper → St → St
  | [], s => s
  | o :: l, s => match o.op with
    | .call c => (match c.callee, o.dst with
      | .builtin .append, some d => forgetA l { s with fr := Ex.put d .any s.fr }
      | _, _ => forgetA l s)
    | _ => forgetA l s

/-- is an object spoken of in one of the slots? -/
def usedIn (i : Nat) (s : St) : List Nat → Bool
  | [] => false
  | t :: l => (s.get t).ment i || usedIn i s l

/-- objects that go: those that no live slot speaks of -/
def dropAll (live : List Nat) (s0 : St) : List (Nat × Ent) → St → St
  | [], s => s
  | (i, _) :: l, s => match pinned i || usedIn i s0 live with
    | true => dropAll live s0 l s
    | false => dropAll live s0 l (s.drop i)

def AV.ren (i j : Nat) : AV → AV := AV.map fun v =>
  match v.ment i with
  | false => v
  | true => match v with
    | .ptr _ p => .ptr j p
    | .at_ _ p => .at_ j p
    | .sub _ p a b => .sub j p a b
    | _ => .any

/-- an owned slice at a slot, under the slot's own name -/
def settle (m : Nat) (t : Ty) (s : St) : St :=
  match s.get m with
  | .raw (.slice none 0 0) => (match t, s.fresh (1000000 + m) with
    | .slc true u, true => { s.putE (1000000 + m) (.own (.slc true u) ([] : List u.den)) with fr := Ex.put m (.at_ (1000000 + m) []) s.fr }
    | _, _ => s)
  | .at_ i [] => (match s.obj i with
    | some (.own u x) => (match pinned i || !s.fresh (1000000 + m) with
      | true => s
      | false => { fr := mapA (AV.ren i (1000000 + m)) s.fr, hp := Ex.put (1000000 + m) (.own u x) (del i s.hp) })
    | _ => s)
  | .sub i [] lo hi => (match (AV.sub i [] lo hi).give s with
    | some (⟨u, x⟩, _) => (match pinned i || !(s.drop i).fresh (1000000 + m) with
      | true => s
      | false => { (s.drop i).putE (1000000 + m) (.own u x) with fr := Ex.put m (.at_ (1000000 + m) []) (s.drop i).fr })
    | none => s)
  | .val u x => (match decide (u = t) && s.fresh (1000000 + m) with
    | true => { s.putE (1000000 + m) (.own u x) with fr := Ex.put m (.at_ (1000000 + m) []) s.fr }
    | false => s)
  | _ => s

def settles : List (Nat × Option Ty) → St → St
  | [], s => s
  | (_, none) :: l, s => settles l s
  | (m, some t) :: l, s => settles l (settle m t s)

/-- what is kept at a cut: the live slots and the objects that they speak of -/
def canon (live : List (Nat × Option Ty)) (s : St) : St :=
  let ts := live.map (·.1)
  let s := dropAll ts s s.hp s
  let s := settles live s
  let s := dropAll ts s s.hp s
  { fr := ts.map fun t => (t, s.get t), hp := s.hp }

def St.cutAt (E : Env) (c : Code) (s : St) : St := canon ((look (firstRegion c) E.cuts).getD []) s

def resA (E : Env) (s : St) : List ResultVar → Option AV
  | [] => some .nil
  | .tmp t :: l => match resA E s l with | some v => some (.cons (s.get t) v) | none => none
  | .cell a T :: l => match s.get a with
    | .ptr i p => (match s.part i p with
      | some ⟨u, y⟩ => (match chk E T u with
        | true => (match resA E s l with
          | some v => (match u.shared with | true => some (.cons (.val u y) v) | false => some (.cons (.at_ i p) v))
          | none => none)
        | false => none)
      | none => none)
    | _ => none

def retOne (s : St) (t : Ty) (used : List Nat) (a : AV) : Option (t.den × List Nat) :=
  match a with
  | .at_ i [] => (match used.contains i || pinned i with
    | true => none
    | false => match s.obj i with
      | some (.var u x) => if h : u = t then some (castD h x, i :: used) else none
      | some (.own u x) => if h : u = t then some (castD h x, i :: used) else none
      | _ => none)
  | .sub i [] lo hi => (match used.contains i || pinned i with
    | true => none
    | false => match (AV.sub i [] lo hi).give s with
      | some (⟨u, x⟩, _) => if h : u = t then some (castD h x, i :: used) else none
      | none => none)
  | a => match a.as t with
    | some x => some (x, used)
    | none => none

/-- the results, of their types; an object goes out once at most -/
def retA (s : St) : (rs : List Ty) → List Nat → AV → Option (DL rs)
  | [], _, .nil => some ()
  | t :: ts, used, .cons a b => match retOne s t used a with
    | some (x, used') => match retA s ts used' b with
      | some y => some (x, y)
      | none => none
    | none => none
  | _, _, _ => none

/-- what was written through parameters -/
def outA (s : St) : (ks : List PK) → Nat → Option (DL (wts ks))
  | [], _ => some ()
  | .rw t :: ks, j => match s.obj (2000000 + j), outA s ks (j + 1) with
    | some (.var u x), some y => if h : u = t then some (castD h x, y) else none
    | _, _ => none
  | .mu t :: ks, j => match s.obj (2000000 + j), outA s ks (j + 1) with
    | some (.own u x), some y => if h : u = .slc true t then some (castD h x, y) else none
    | _, _ => none
  | .v _ :: ks, j => outA s ks (j + 1)
  | .rd _ :: ks, j => outA s ks (j + 1)
  | .clo _ _ :: ks, j => outA s ks (j + 1)
  | .own _ :: ks, j => outA s ks (j + 1)

def finish (E : Env) (s : St) : Tree (E.rs ++ wts E.ps) :=
  match resA E s E.res with
  | none => .stuck "result"
  | some l => match retA s E.rs [] l, outA s E.ps 0 with
    | some y, some z => .ret (DL.app y z)
    | _, _ => .stuck "result: type"

def exec (E : Env) : Nat → List Item → St → Tree (E.rs ++ wts E.ps)
  | 0, _, _ => .stuck "fuel"
  | n + 1, k, s =>
    match k with
    | [] => finish E s
    | .inBlock _ :: k => exec E n k s
    | .inLoop c :: k => .cut c k (s.cutAt E c)
    | .code c :: k =>
      match c with
      | .skip => exec E n k s
      | .seq a b => exec E n (.code a :: .code b :: k) s
      | .cond c a b => match s.ev c with
        | .val .bool g => cond g (exec E n (.code a :: k) s) (exec E n (.code b :: k) s)
        | _ => .stuck "cond"
      | .block id c => exec E n (.code c :: .inBlock id :: k) s
      | .loop c => .cut c k (s.cutAt E c)
      | .exit id => match exitTo id k with
        | some k' => exec E n k' s
        | none => .stuck "exit"
      | .ret => finish E s
      | .region _ ops draw => match draw with
        | false => regF E ops 0 ops.toList s fun s' => exec E n k s'
        | true => match drawOk ops && entryOk ops (forgetA ops.toList s) && E.P.follows .mixedOrders with
          | true => regD E ops (masksGo ops.toList []) 0 ops.toList (forgetA ops.toList s) [] fun s' => exec E n k s'
          | false => .stuck "draw"
      | _ => .stuck "code"
    | _ :: _ => .stuck "item"

/-- the loops of a code, with what stands behind each -/
def cutsOf : Code → List Item → List (Nat × (Code × List Item))
  | .seq a b, k => cutsOf a (.code b :: k) ++ cutsOf b k
  | .cond _ a b, k => cutsOf a k ++ cutsOf b k
  | .block id c, k => cutsOf c (.inBlock id :: k)
  | .loop c, k => (firstRegion c, (c, k)) :: cutsOf c (.inLoop c :: k)
  | _, _ => []

def loopAt (c : Code) (r : Nat) : Code × List Item := (look r (cutsOf c [])).getD (.skip, [])

/-- where a function begins -/
def argsFr : (ks : List PK) → DK ks → Nat → List (Nat × AV)
  | [], _, _ => []
  | .v t :: ks, x, i => (i, .val t x.1) :: argsFr ks x.2 (i + 1)
  | .rd t :: ks, x, i => (i, .rptr t x.1) :: argsFr ks x.2 (i + 1)
  | .clo f ts :: ks, x, i => (i, .clo f (rdA ts x.1)) :: argsFr ks x.2 (i + 1)
  | .own _ :: ks, x, i => (i, .at_ (1500000 + i) []) :: argsFr ks x.2 (i + 1)
  | .rw _ :: ks, x, i => (i, .ptr (2000000 + i) []) :: argsFr ks x.2 (i + 1)
  | .mu _ :: ks, x, i => (i, .at_ (2000000 + i) []) :: argsFr ks x.2 (i + 1)
where rdA : (ts : List Ty) → DL ts → AV
  | [], _ => .nil
  | t :: ts, x => .cons (.rptr t x.1) (rdA ts x.2)

def argsHp : (ks : List PK) → DK ks → Nat → List (Nat × Ent)
  | [], _, _ => []
  | .own t :: ks, x, i => Ex.put (1500000 + i) (.own t x.1) (argsHp ks x.2 (i + 1))
  | .rw t :: ks, x, i => Ex.put (2000000 + i) (.var t x.1) (argsHp ks x.2 (i + 1))
  | .mu t :: ks, x, i => Ex.put (2000000 + i) (.own (.slc true t) x.1) (argsHp ks x.2 (i + 1))
  | .v _ :: ks, x, i => argsHp ks x.2 (i + 1)
  | .rd _ :: ks, x, i => argsHp ks x.2 (i + 1)
  | .clo _ _ :: ks, x, i => argsHp ks x.2 (i + 1)

def initSt (ks : List PK) (x : DK ks) : St := { fr := argsFr ks x 0, hp := argsHp ks x 0 }

end Go.Ex
