import Derived.Test.YtagjonjobbckdaaExC
namespace Go.Ex

def look {α : Type _} (n : Nat) : List (Nat × α) → Option α
  | [] => none
  | (m, x) :: l => match Nat.beq n m with | true => some x | false => look n l

def put {α : Type _} (n : Nat) (x : α) (l : List (Nat × α)) : List (Nat × α) :=
  match l with
  | [] => [(n, x)]
  | (m, y) :: l => match Nat.beq n m with | true => (n, x) :: l | false => (m, y) :: put n x l

def del {α : Type _} (n : Nat) : List (Nat × α) → List (Nat × α)
  | [] => []
  | (m, y) :: l => match Nat.beq n m with | true => del n l | false => (m, y) :: del n l

/-! ### types against the program's table -/
structure TI where
  ty : Ty
  by_ : Nat

def zc : Ty → List Value
  | .int k => [.int k 0]
  | .bool => [.bool false]
  | .str => [.string ⟨#[]⟩]
  | .unit => []
  | .pair a b => zc a ++ zc b
  | .arr n t => (List.replicate n (zc t)).flatten
  | .slc _ _ => [.slice none 0 0]

def toV (t : Ty) (cs : List Value) : Value := if t.agg then .agg cs.toArray else cs.headD undef

def eqS : Value → Value → Bool
  | .int k n, .int k' n' => decide (k = k') && decide (n = n')
  | .bool a, .bool b => a == b
  | .string a, .string b => a.data.size == 0 && b.data.size == 0
  | .slice none a b, .slice none c d => Nat.beq a c && Nat.beq b d
  | _, _ => false

def eqL : List Value → List Value → Bool
  | [], [] => true
  | a :: l, b :: m => eqS a b && eqL l m
  | _, _ => false

def eqV : Value → Value → Bool
  | .agg a, .agg b => eqL a.toList b.toList
  | a, b => eqS a b

def fieldsOk (ck : TypeId → Ty → Bool) : List Field → Nat → Ty → Bool
  | [], _, .unit => true
  | f :: fs, off, .pair a b => Nat.beq f.offset off && Nat.ble 1 a.size && ck f.type a && f.name != "_" && fieldsOk ck fs (off + a.size) b
  | _, _, _ => false

def tyOk (P : Program) : Nat → TypeId → Ty → Bool
  | 0, _, _ => false
  | n + 1, T, t =>
    (match P.info? T with
    | some i => Nat.beq i.size t.size && (match i.zero with | some z => eqV z (toV t (zc t)) | none => false)
    | none => false) &&
    match P.underlying T, t with
    | some .bool, .bool => true
    | some (.int k), .int k' => decide (k = k')
    | some .string, .str => true
    | some (.struct fs), t => fieldsOk (tyOk P n) fs.toList 0 t
    | some (.array m e), .arr m' t => Nat.beq m m' && Nat.ble 1 t.size && tyOk P n e t
    | some (.slice e), .slc _ t => Nat.ble 1 t.size && tyOk P n e t
    | _, _ => false

def tiOk (P : Program) (x : TypeId × TI) : Bool := tyOk P 100 x.1 x.2.ty && Nat.beq (P.bytesOf x.1) x.2.by_

/-! ### abstract values -/
inductive AV where
  | any
  | raw (v : Value)
  | val (t : Ty) (x : t.den)
  | ptr (i : Nat) (p : List Step)
  | rptr (t : Ty) (x : t.den)
  | at_ (i : Nat) (p : List Step)
  | nil
  | cons (a b : AV)
  | tup (l : AV)
  | clo (f : FuncId) (l : AV)

inductive Ent where
  | var (t : Ty) (x : t.den)
  | own (t : Ty) (x : t.den)

structure St where
  fr : List (Nat × AV)
  hp : List (Nat × Ent)

def St.get (s : St) (t : Nat) : AV := (look t s.fr).getD .any
def St.obj (s : St) (i : Nat) : Option Ent := look i s.hp

def St.put (s : St) (d : Option Nat) (v : AV) : St :=
  match d with
  | some t => { s with fr := Ex.put t v s.fr }
  | none => s

def AV.ment (i : Nat) : AV → Bool
  | .ptr j _ | .at_ j _ => Nat.beq i j
  | .cons a b => a.ment i || b.ment i
  | .tup l | .clo _ l => l.ment i
  | _ => false

def AV.map (fp fa : Nat → List Step → AV) : AV → AV
  | .ptr j p => fp j p
  | .at_ j p => fa j p
  | .cons a b => .cons (a.map fp fa) (b.map fp fa)
  | .tup l => .tup (l.map fp fa)
  | .clo f l => .clo f (l.map fp fa)
  | v => v

def AV.drop (i : Nat) : AV → AV :=
  AV.map (fun j p => match Nat.beq i j with | true => .any | false => .ptr j p) (fun j p => match Nat.beq i j with | true => .any | false => .at_ j p)

def AV.kill (i : Nat) (q : List Step) : AV → AV :=
  AV.map (fun j p => match Nat.beq i j with | true => (match kp q p with | true => .ptr j p | false => .any) | false => .ptr j p)
    (fun j p => match Nat.beq i j with | true => .any | false => .at_ j p)

def mapA {α : Type _} (f : α → α) : List (Nat × α) → List (Nat × α)
  | [] => []
  | (n, x) :: l => (n, f x) :: mapA f l

def St.drop (i : Nat) (s : St) : St := { fr := mapA (AV.drop i) s.fr, hp := del i s.hp }
def St.kill (i : Nat) (q : List Step) (s : St) : St := { s with fr := mapA (AV.kill i q) s.fr }
def St.putE (s : St) (i : Nat) (e : Ent) : St := { s with hp := Ex.put i e s.hp }

def noMent (i : Nat) : List (Nat × AV) → Bool
  | [] => true
  | (_, v) :: l => !v.ment i && noMent i l

/-- may 'i' be laid anew? -/
def St.fresh (s : St) (i : Nat) : Bool := (look i s.hp).isNone && noMent i s.fr

/-! ### contracts -/
inductive PK where
  | v (t : Ty)
  | rd (t : Ty)
  | clo (f : FuncId) (ts : List Ty)

def DL : List Ty → Type
  | [] => Unit
  | t :: ts => t.den × DL ts

def PK.den : PK → Type
  | .v t => t.den
  | .rd t => t.den
  | .clo _ ts => DL ts

def DK : List PK → Type
  | [] => Unit
  | k :: ks => k.den × DK ks

structure Ctr where
  ps : List PK
  rs : List Ty
  pre : DK ps → Prop
  fn : DK ps → DL rs

structure Env where
  P : Program
  tt : List (TypeId × TI)
  ctr : List (FuncId × Ctr)
  res : List ResultVar
  rs : List Ty
  cuts : List (Nat × List Nat)
  nt : Nat

inductive Tree (rs : List Ty) where
  | need (p : Prop) (t : Tree rs)
  | cut (c : Code) (k : List Item) (s : St)
  | ret (y : DL rs)
  | stuck (why : String)

/-- what is to be shown of a tree: its needs, and what is said of its ends -/
def Tree.holds {rs : List Ty} (L : Code → List Item → St → Prop) (R : DL rs → Prop) : Tree rs → Prop
  | .need p t => p ∧ (p → t.holds L R)
  | .cut c k s => L c k s
  | .ret y => R y
  | .stuck _ => False

inductive OR where
  | fail (why : String)
  | ok (v : AV) (s : St)
  | okN (p : Prop) (v : AV) (s : St)

theorem den_sh : ∀ t : Ty, t.sh.den = t.den := by
  intro t
  induction t with
  | pair a b iha ihb => simp only [Ty.sh, Ty.den, iha, ihb]
  | arr n t ih => simp only [Ty.sh, Ty.den, ih]
  | slc o t ih => simp only [Ty.sh, Ty.den, ih]
  | _ => rfl

theorem den_er {u t : Ty} (h : u.sh = t.sh) : u.den = t.den := by rw [← den_sh u, h, den_sh]

/-- a value, as one of type t: of the very type, or nil, or (t shared) its shared reading -/
def AV.as (t : Ty) : AV → Option t.den
  | .val u x => if h : u = t then some (h ▸ x) else none
  | .raw (.slice none 0 0) => match t with
    | .slc _ _ => some []
    | _ => none
  | _ => none

/-- a part of an object, read as shared -/
def St.lend (s : St) (t : Ty) (i : Nat) (p : List Step) : Option t.den :=
  match s.obj i with
  | some (.var u x) => (match getP u x p with
    | some ⟨u', y⟩ => if h : u'.sh = t then some (cast ((den_sh u').symm.trans (congrArg Ty.den h)) y) else none
    | none => none)
  | some (.own u x) => (match getP u x p with
    | some ⟨u', y⟩ => if h : u'.sh = t then some (cast ((den_sh u').symm.trans (congrArg Ty.den h)) y) else none
    | none => none)
  | none => none

def AV.asV (s : St) (t : Ty) : AV → Option t.den
  | .at_ i p => s.lend t i p
  | v => v.as t

def AV.asR (s : St) (t : Ty) : AV → Option t.den
  | .ptr i p => s.lend t i p
  | .rptr u x => if h : u = t then some (h ▸ x) else none
  | _ => none

def AV.asRL (s : St) : (ts : List Ty) → AV → Option (DL ts)
  | [], .nil => some ()
  | t :: ts, .cons a b => match a.asR s t, AV.asRL s ts b with
    | some x, some y => some (x, y)
    | _, _ => none
  | _, _ => none

def AV.asK (s : St) (k : PK) (v : AV) : Option k.den :=
  match k with
  | .v t => v.asV s t
  | .rd t => v.asR s t
  | .clo f ts => match v with
    | .clo g l => match Nat.beq f g with
      | true => AV.asRL s ts l
      | false => none
    | _ => none

def AV.asKs (s : St) : (ks : List PK) → AV → Option (DK ks)
  | [], .nil => some ()
  | k :: ks, .cons a b => match a.asK s k, AV.asKs s ks b with
    | some x, some y => some (x, y)
    | _, _ => none
  | _, _ => none

/-- objects lent to a callee -/
def AV.lent : AV → Bool
  | .at_ _ _ | .ptr _ _ => true
  | .cons a b => a.lent || b.lent
  | .tup l | .clo _ l => l.lent
  | _ => false

def Ty.noSh : Ty → Bool
  | .pair a b => a.noSh && b.noSh
  | .arr _ t => t.noSh
  | .slc o t => o && t.noSh
  | _ => true

def AV.app : AV → AV → AV
  | .cons a b, l => .cons a (b.app l)
  | _, l => l

def rid (d j : Nat) : Nat := d + 1000 * (j + 1)

/-- a callee's results laid: what is not shared becomes an object of its own -/
def layRes : (ts : List Ty) → DL ts → Nat → Nat → List (Nat × Ent) → Option (AV × List (Nat × Ent))
  | [], _, _, _, hp => some (.nil, hp)
  | t :: ts, x, d, j, hp =>
    match t.shared with
    | true => match layRes ts x.2 d (j + 1) hp with
      | some (l, hp') => some (.cons (.val t x.1) l, hp')
      | none => none
    | false => match look (rid d j) hp with
      | some _ => none
      | none => match layRes ts x.2 d (j + 1) (Ex.put (rid d j) (.own t x.1) hp) with
        | some (l, hp') => some (.cons (.at_ (rid d j) []) l, hp')
        | none => none

def AV.one : AV → AV
  | .cons a .nil => a
  | l => .tup l

def noMents (d : Nat) : Nat → List (Nat × AV) → Bool
  | 0, _ => true
  | j + 1, fr => noMent (rid d j) fr && noMents d j fr

def callA (E : Env) (f : FuncId) (args : AV) (dst : Option Nat) (s : St) : OR :=
  match look f E.ctr with
  | none => .fail "call: no contract"
  | some c => match AV.asKs s c.ps args with
    | none => .fail "call: arguments"
    | some x => match c.rs.all Ty.noSh || !args.lent with
      | false => .fail "call: a lent object and a shared result"
      | true => match noMents (dst.getD 0) c.rs.length s.fr with
        | false => .fail "call: names"
        | true => match layRes c.rs (c.fn x) (dst.getD 0) 0 s.hp with
          | some (l, hp) => .okN (c.pre x) l.one { s with hp := hp }
          | none => .fail "call: results"

/-! ### operations -/
def ofConst : Value → AV
  | .int k n => if k.min ≤ n ∧ n ≤ k.max then .val (.int k) n else .raw (.int k n)
  | .bool b => .val .bool b
  | .string s => if s.data.size ≤ maxLen then .val .str s.data.toList else .raw (.string s)
  | v => .raw v

def St.ev (s : St) : Operand → AV
  | .tmp t => s.get t
  | .const v => ofConst v
  | .global _ => .any
  | .func f => .clo f .nil

def St.evs (s : St) : List Operand → AV
  | [] => .nil
  | x :: l => .cons (s.ev x) (s.evs l)

def bAnd (k : IntKind) (x y : Int) : Int := k.wrap (BitVec.ofInt k.bits x &&& BitVec.ofInt k.bits y).toNat
def bOr (k : IntKind) (x y : Int) : Int := k.wrap (BitVec.ofInt k.bits x ||| BitVec.ofInt k.bits y).toNat
def bXor (k : IntKind) (x y : Int) : Int := k.wrap (BitVec.ofInt k.bits x ^^^ BitVec.ofInt k.bits y).toNat
def bAndNot (k : IntKind) (x y : Int) : Int := k.wrap (BitVec.ofInt k.bits x &&& ~~~(BitVec.ofInt k.bits y)).toNat

def arith (k : IntKind) (r : Int) (s : St) : OR :=
  match k with
  | .i64 => .okN (inK .i64 r) (.val (.int .i64) r) s
  | k => .ok (.val (.int k) (k.wrap r)) s

def binI (op : BinOp) (k : IntKind) (a : Int) (k' : IntKind) (b : Int) (s : St) : OR :=
  match op with
  | .shl => .okN (0 ≤ b) (.val (.int k) (k.wrap (a * 2 ^ (min b.toNat k.bits)))) s
  | .shr => .okN (0 ≤ b) (.val (.int k) (a / 2 ^ (min b.toNat k.bits))) s
  | op =>
    if k = k' then
      match op with
      | .add => arith k (a + b) s
      | .sub => arith k (a - b) s
      | .mul => arith k (a * b) s
      | .quo => .okN (0 < b) (.val (.int k) (Int.tdiv a b)) s
      | .rem => .okN (0 < b) (.val (.int k) (Int.tmod a b)) s
      | .and => .ok (.val (.int k) (bAnd k a b)) s
      | .or => .ok (.val (.int k) (bOr k a b)) s
      | .xor => .ok (.val (.int k) (bXor k a b)) s
      | .andNot => .ok (.val (.int k) (bAndNot k a b)) s
      | .eql => .ok (.val .bool (decide (a = b))) s
      | .neq => .ok (.val .bool (decide (a ≠ b))) s
      | .lss => .ok (.val .bool (decide (a < b))) s
      | .leq => .ok (.val .bool (decide (a ≤ b))) s
      | .gtr => .ok (.val .bool (decide (b < a))) s
      | .geq => .ok (.val .bool (decide (b ≤ a))) s
      | _ => .fail "binop int"
    else .fail "binop kinds"

def binS (op : BinOp) (a b : List UInt8) (s : St) : OR :=
  match op with
  | .eql => .ok (.val .bool (decide (a = b))) s
  | .neq => .ok (.val .bool (decide (a ≠ b))) s
  | .add => .okN (a.length + b.length ≤ maxLen) (.val .str (a ++ b)) s
  | _ => .fail "binop string"

def chk (E : Env) (T : TypeId) (u : Ty) : Bool :=
  match look T E.tt with
  | some i => decide (i.ty.sh = u.sh)
  | none => false

/-- equality of structs and arrays of plain parts -/
def Ty.eqable : Ty → Bool
  | .int _ | .bool | .str | .unit => true
  | .pair a b => a.eqable && b.eqable
  | .arr _ t => t.eqable
  | _ => false

def eqD : (t : Ty) → t.den → t.den → Bool
  | .int _, x, y => decide ((x : Int) = y)
  | .bool, x, y => (x : Bool) == y
  | .str, x, y => decide ((x : List UInt8) = y)
  | .unit, _, _ => true
  | .pair a b, x, y => eqD a x.1 y.1 && eqD b x.2 y.2
  | .arr _ t, x, y => eqDL (eqD t) x y
  | .slc _ _, _, _ => false
where eqDL {α : Type} (f : α → α → Bool) : List α → List α → Bool
  | [], [] => true
  | x :: l, y :: m => f x y && eqDL f l m
  | _, _ => false

def binA (E : Env) (T : TypeId) (op : BinOp) (x y : AV) (s : St) : OR :=
  match x, y with
  | .val (.int k) a, .val (.int k') b => binI op k a k' b s
  | .val .bool a, .val .bool b =>
    match chk E T .bool, op with
    | true, .eql => .ok (.val .bool (a == b)) s
    | true, .neq => .ok (.val .bool (a != b)) s
    | _, _ => .fail "binop bool"
  | .val .str a, .val .str b => binS op a b s
  | _, _ => .fail "binop"

def Ty.ht : Ty → Nat
  | .pair a b => max (a.ht + 1) b.ht
  | .arr _ t => t.ht + 1
  | _ => 0

def eqFs (ck : TypeId → Ty → Bool) : List Field → Ty → Bool
  | [], .unit => true
  | f :: fs, .pair a b => ck f.type a && eqFs ck fs b
  | _, _ => false

def eqOk (P : Program) : Nat → TypeId → Ty → Bool
  | 0, _, _ => false
  | n + 1, T, t => match P.underlying T, t with
    | some (.struct fs), t => !P.stoodInHeld T && eqFs (eqOk P n) fs.toList t
    | some (.array _ e), .arr _ t => eqOk P n e t
    | some .bool, .bool => true
    | some (.int _), .int _ => true
    | some .string, .str => true
    | _, _ => false

/-- structs and arrays against each other -/
def eqA (E : Env) (T : TypeId) (op : BinOp) (t : Ty) (x : t.den) (u : Ty) (y : u.den) (s : St) : OR :=
  if h : u = t then
    (match t.agg && chk E T t && eqOk E.P 100 T t && !(E.P.eqGuardType E.P.depth T) && Nat.blt t.ht 100, op with
    | true, .eql => .ok (.val .bool (eqD t x (h ▸ y))) s
    | true, .neq => .ok (.val .bool (!(eqD t x (h ▸ y)))) s
    | _, _ => .fail "eq")
  else .fail "eq: types"

def binE (E : Env) (T : TypeId) (op : BinOp) (x y : AV) (s : St) : OR :=
  match x, y with
  | .val (.pair p q) a, .val u b => eqA E T op (.pair p q) a u b s
  | .val (.arr n q) a, .val u b => eqA E T op (.arr n q) a u b s
  | x, y => binA E T op x y s

def unA (op : UnOp) (x : AV) (s : St) : OR :=
  match op, x with
  | .not, .val .bool b => .ok (.val .bool (!b)) s
  | .neg, .val (.int k) a => arith k (0 - a) s
  | .xor, .val (.int k) a => .ok (.val (.int k) (bXor k (if k.signed then -1 else k.max) a)) s
  | _, _ => .fail "unop"

def partPath (t : Ty) (i : Nat) : List Step :=
  match t with
  | .arr _ _ => [.idx i]
  | _ => [.fld i]

/-- a struct or an array written out: parts by number, laid over the zero one after the other -/
def buildL (s : St) : Sigma Ty.den → List (Nat × Operand) → Option (Sigma Ty.den)
  | r, [] => some r
  | ⟨t, x⟩, (i, v) :: parts =>
    match getP t x (partPath t i) with
    | none => none
    | some ⟨u0, _⟩ => match s.ev v with
      | .val u z => (match setP t x (partPath t i) u z with
        | some r => buildL s r parts
        | none => none)
      | .raw (.slice none 0 0) => (match u0 with
        | .slc o u' => (match setP t x (partPath t i) (.slc o u') ([] : List u'.den) with
          | some r => buildL s r parts
          | none => none)
        | _ => none)
      | _ => none

def inArr (t : Ty) (i : Nat) : Bool :=
  match t with
  | .arr n _ => Nat.blt i n
  | _ => true

def loadA (E : Env) (T : TypeId) (a : AV) (s : St) : OR :=
  match a with
  | .rptr t x => match chk E T t with | true => .ok (.val t x) s | false => .fail "load: type"
  | .ptr i p => match s.obj i with
    | some (.var t x) => (match getP t x p with
      | some ⟨u, y⟩ => (match chk E T u with
        | true => (match u.shared with | true => .ok (.val u y) s | false => .ok (.at_ i p) s)
        | false => .fail "load: type")
      | none => .fail "load: path")
    | some (.own t x) => (match getP t x p with
      | some ⟨u, y⟩ => (match chk E T u with
        | true => (match u.shared with | true => .ok (.val u y) s | false => .ok (.at_ i p) s)
        | false => .fail "load: type")
      | none => .fail "load: path")
    | none => .fail "load: object"
  | _ => .fail "load"

/-- what is stored: a value of its own type, nil, or an object of the call's own that is moved -/
def storeA (E : Env) (T : TypeId) (i : Nat) (p : List Step) (x : AV) (s : St) : OR :=
  match s.obj i with
  | some (.var t y) => match getP t y p with
    | none => .fail "store: path"
    | some ⟨u, _⟩ => match chk E T u with
      | false => .fail "store: type"
      | true => match x with
        | .val u' z => (match setP t y p u' z with
          | some ⟨t', y'⟩ => .ok (.raw undef) ((s.kill i p).putE i (.var t' y'))
          | none => .fail "store: value")
        | .raw (.slice none 0 0) => (match u with
          | .slc o u' => (match setP t y p (.slc o u') ([] : List u'.den) with
            | some ⟨t', y'⟩ => .ok (.raw undef) ((s.kill i p).putE i (.var t' y'))
            | none => .fail "store: nil")
          | _ => .fail "store: nil of what")
        | _ => .fail "store: what"
  | some (.own t y) => match getP t y p with
    | none => .fail "store: path"
    | some ⟨u, _⟩ => match chk E T u with
      | false => .fail "store: type"
      | true => match x with
        | .val u' z => (match setP t y p u' z with
          | some ⟨t', y'⟩ => .ok (.raw undef) ((s.kill i p).putE i (.own t' y'))
          | none => .fail "store: value")
        | .raw (.slice none 0 0) => (match u with
          | .slc o u' => (match setP t y p (.slc o u') ([] : List u'.den) with
            | some ⟨t', y'⟩ => .ok (.raw undef) ((s.kill i p).putE i (.own t' y'))
            | none => .fail "store: nil")
          | _ => .fail "store: nil of what")
        | _ => .fail "store: what"
  | none => .fail "store: object"

def aop (E : Env) (o : Oper) (s : St) : OR :=
  match o.op with
  | .move x => .ok (s.ev x) s
  | .assign x => .ok (s.ev x) s
  | .alloc T => match look T E.tt, o.dst with
    | some t, some d => (match s.fresh d with
      | true => .ok (.ptr d []) (s.putE d (.var t.ty t.ty.dflt))
      | false => .fail "alloc: name")
    | _, _ => .fail "alloc"
  | .box T x => match look T E.tt, o.dst with
    | some t, some d => (match s.fresh d with
      | true => (match s.ev x with
        | .val u y => if u.sh = t.ty.sh then .ok (.ptr d []) (s.putE d (.var u y)) else .fail "box: value"
        | _ => .fail "box: what")
      | false => .fail "box: name")
    | _, _ => .fail "box"
  | .build T parts => match look T E.tt with
    | some t => (match t.ty.agg && parts.toList.all (fun q => inArr t.ty q.1) with
      | true => (match buildL s ⟨t.ty, t.ty.dflt⟩ parts.toList with
        | some ⟨u, y⟩ => .ok (.val u y) s
        | none => .fail "build: parts")
      | false => .fail "build: index")
    | none => .fail "build"
  | .buildSlice T n parts => match look T E.tt, o.dst with
    | some ⟨.slc true t, _⟩, some d => (match s.fresh d && parts.toList.all (fun q => Nat.blt q.1 n) && Nat.ble (n * t.size) 16777216 with
      | true => (match buildL s ⟨.arr n t, (Ty.arr n t).dflt⟩ parts.toList with
        | some ⟨.arr _ t', l⟩ => .ok (.at_ d []) (s.putE d (.own (.slc true t') l))
        | _ => .fail "buildSlice: parts")
      | false => .fail "buildSlice: name")
    | _, _ => .fail "buildSlice"
  | .load T a => loadA E T (s.ev a) s
  | .store T a x => match s.ev a with
    | .ptr i p => storeA E T i p (s.ev x) s
    | _ => .fail "store"
  | .nilCheck x => match s.ev x with
    | .ptr i p => .ok (.ptr i p) s
    | .rptr t y => .ok (.rptr t y) s
    | .clo f l => .ok (.clo f l) s
    | _ => .fail "nilCheck"
  | .fieldAddr T x n => match s.ev x with
    | .ptr i p => match s.obj i with
      | some (.var t y) => (match getP t y p with
        | some ⟨u, z⟩ => (match chk E T u, getP u z [.fld n] with
          | true, some _ => .ok (.ptr i (p ++ [.fld n])) s
          | _, _ => .fail "fieldAddr: type")
        | none => .fail "fieldAddr: path")
      | some (.own t y) => (match getP t y p with
        | some ⟨u, z⟩ => (match chk E T u, getP u z [.fld n] with
          | true, some _ => .ok (.ptr i (p ++ [.fld n])) s
          | _, _ => .fail "fieldAddr: type")
        | none => .fail "fieldAddr: path")
      | none => .fail "fieldAddr: object"
    | .rptr t y => match chk E T t, getP t y [.fld n] with
      | true, some ⟨u, z⟩ => .ok (.rptr u z) s
      | _, _ => .fail "fieldAddr"
    | _ => .fail "fieldAddr"
  | .indexAddr T x i => match s.ev x, s.ev i with
    | .ptr d p, .val (.int _) n => match s.obj d with
      | some (.var t y) => (match getP t y p with
        | some ⟨.arr m u, _⟩ => (match chk E T (.arr m u) with
          | true => .okN (0 ≤ n ∧ n < m) (.ptr d (p ++ [.idx n])) s
          | false => .fail "indexAddr: type")
        | _ => .fail "indexAddr: type")
      | some (.own t y) => (match getP t y p with
        | some ⟨.arr m u, _⟩ => (match chk E T (.arr m u) with
          | true => .okN (0 ≤ n ∧ n < m) (.ptr d (p ++ [.idx n])) s
          | false => .fail "indexAddr: type")
        | _ => .fail "indexAddr: type")
      | none => .fail "indexAddr: object"
    | .rptr (.arr m t) y, .val (.int _) n => (match chk E T (.arr m t) with
      | true => .okN (0 ≤ n ∧ n < m) (.rptr t (List.getD y (Int.toNat n) t.dflt)) s
      | false => .fail "indexAddr: type")
    | .val (.slc false t) y, .val (.int _) n => (match chk E T (.slc false t) with
      | true => .okN (0 ≤ n ∧ n < List.length y) (.rptr t (List.getD y (Int.toNat n) t.dflt)) s
      | false => .fail "indexAddr: type")
    | .at_ d p, .val (.int _) n => match s.obj d with
      | some (.var t y) => (match getP t y p with
        | some ⟨.slc true u, z⟩ => (match chk E T (.slc true u) with
          | true => .okN (0 ≤ n ∧ n < List.length z) (.ptr d (p ++ [.idx n])) s
          | false => .fail "indexAddr: type")
        | _ => .fail "indexAddr: type")
      | some (.own t y) => (match getP t y p with
        | some ⟨.slc true u, z⟩ => (match chk E T (.slc true u) with
          | true => .okN (0 ≤ n ∧ n < List.length z) (.ptr d (p ++ [.idx n])) s
          | false => .fail "indexAddr: type")
        | _ => .fail "indexAddr: type")
      | none => .fail "indexAddr: object"
    | _, _ => .fail "indexAddr"
  | .field T x n => match s.ev x with
    | .val t y => match chk E T t, getP t y [.fld n] with
      | true, some ⟨u, z⟩ => .ok (.val u z) s
      | _, _ => .fail "field"
    | _ => .fail "field"
  | .index T x i => match s.ev x, s.ev i with
    | .val .str y, .val (.int _) n => (match chk E T .str with
      | true => .okN (0 ≤ n ∧ n < List.length y) (.val (.int .u8) ((List.getD y (Int.toNat n) 0).toNat : Int)) s
      | false => .fail "index: type")
    | .val (.arr m t) y, .val (.int _) n => (match chk E T (.arr m t) with
      | true => .okN (0 ≤ n ∧ n < m) (.val t (List.getD y (Int.toNat n) t.dflt)) s
      | false => .fail "index: type")
    | _, _ => .fail "index"
  | .binOp op T x y _ => binE E T op (s.ev x) (s.ev y) s
  | .unOp op _ x => unA op (s.ev x) s
  | .convert T' T x => match s.ev x, look T' E.tt, look T E.tt with
    | .val (.int _) n, some ⟨.int _, _⟩, some ⟨.int k, _⟩ => .ok (.val (.int k) (k.wrap n)) s
    | _, _, _ => .fail "convert"
  | .extract x i => match s.ev x with
    | .tup l => match nth i l with
      | some v => .ok v s
      | none => .fail "extract"
    | _ => .fail "extract"
  | .makeFunc (.func f) first caps => match first.toList with
    | [] => .ok (.clo f (s.evs caps.toList)) s
    | _ => .fail "makeFunc"
  | .call c => match c.callee with
    | .value f => match s.ev f with
      | .clo f caps => callA E f ((s.evs c.args.toList).app caps) o.dst s
      | _ => .fail "call of what"
    | .builtin .len => match c.args.toList, c.argTypes.toList with
      | [x], [T] => (match s.ev x with
        | .val (.slc q u) y => (match chk E T (.slc q u) with | true => .ok (.val (.int .i64) (List.length y : Int)) s | false => .fail "len")
        | .val .str y => (match chk E T .str with | true => .ok (.val (.int .i64) (List.length y : Int)) s | false => .fail "len")
        | .val (.arr n u) _ => (match chk E T (.arr n u) with | true => (if (n : Int) ≤ 9223372036854775807 then .ok (.val (.int .i64) (n : Int)) s else .fail "len") | false => .fail "len")
        | .at_ d p => (match s.obj d with
          | some (.var t y) => (match getP t y p with
            | some ⟨.slc q u, z⟩ => (match chk E T (.slc q u) with | true => .ok (.val (.int .i64) (List.length z : Int)) s | false => .fail "len")
            | _ => .fail "len")
          | some (.own t y) => (match getP t y p with
            | some ⟨.slc q u, z⟩ => (match chk E T (.slc q u) with | true => .ok (.val (.int .i64) (List.length z : Int)) s | false => .fail "len")
            | _ => .fail "len")
          | none => .fail "len")
        | _ => .fail "len")
      | _, _ => .fail "len"
    | .builtin .max => match c.args.toList with
      | [x, y] => (match s.ev x, s.ev y with
        | .val (.int k) a, .val (.int k') b => if k = k' then .ok (.val (.int k) (if a < b then b else a)) s else .fail "max"
        | _, _ => .fail "max")
      | _ => .fail "max"
    | .builtin .min => match c.args.toList with
      | [x, y] => (match s.ev x, s.ev y with
        | .val (.int k) a, .val (.int k') b => if k = k' then .ok (.val (.int k) (if b < a then b else a)) s else .fail "min"
        | _, _ => .fail "min")
      | _ => .fail "min"
    | _ => .fail "builtin"
  | _ => .fail "op"
where nth : Nat → AV → Option AV
  | 0, .cons a _ => some a
  | n + 1, .cons _ b => nth n b
  | _, _ => none

def guardSlot (ops : Array Oper) (j : Nat) : Option Nat := (ops[j]?).bind (·.dst)

def dstOk (n : Nat) : Option Nat → Bool
  | some d => Nat.blt d n
  | none => true

def runOp (E : Env) (o : Oper) (s : St) (k : St → Tree E.rs) : Tree E.rs :=
  match dstOk E.nt o.dst with
  | false => .stuck "slot"
  | true =>
  match o.op with
  | .pick c a b => match s.ev c with
    | .val .bool g => cond g (k (s.put o.dst (s.ev a))) (k (s.put o.dst (s.ev b)))
    | _ => .stuck "pick"
  | _ => match aop E o s with
    | .fail why => .stuck why
    | .ok v s' => k (s'.put o.dst v)
    | .okN p v s' => .need p (k (s'.put o.dst v))

/-- one place of a region: an operation, wanted or not -/
def placeA (E : Env) (ops : Array Oper) (o : Oper) (s : St) (k : St → Tree E.rs) : Tree E.rs :=
  match o.guard with
  | none => runOp E o s k
  | some (j, want) => match guardSlot ops j with
    | none => .stuck "guard"
    | some g => match s.get g with
      | .raw (.tuple _) => match dstOk E.nt o.dst with
        | true => k (s.put o.dst (.raw undef))
        | false => .stuck "slot"
      | .val .bool b => match dstOk E.nt o.dst with
        | false => .stuck "slot"
        | true => cond b
          (match want with
            | true => runOp E o (s.put (some g) (.val .bool true)) k
            | false => k ((s.put (some g) (.val .bool true)).put o.dst (.raw undef)))
          (match want with
            | false => runOp E o (s.put (some g) (.val .bool false)) k
            | true => k ((s.put (some g) (.val .bool false)).put o.dst (.raw undef)))
      | _ => .stuck "guard value"

def regA (E : Env) (ops : Array Oper) : List Oper → St → (St → Tree E.rs) → Tree E.rs
  | [], s, k => k s
  | o :: rest, s, k => placeA E ops o s fun s' => regA E ops rest s' k

/-! ### regions whose order is drawn -/
def OR.get : OR → Option (Prop × AV × St)
  | .fail _ => none
  | .ok v s => some (True, v, s)
  | .okN p v s => some (p, v, s)

/-- an operation on a state, its branch taken -/
def runR (E : Env) (o : Oper) (s : St) : Option (Prop × St) :=
  match dstOk E.nt o.dst with
  | false => none
  | true =>
  match o.op with
  | .pick c a b => match s.ev c with
    | .val .bool g => some (True, s.put o.dst (match g with | true => s.ev a | false => s.ev b))
    | _ => none
  | _ => match (aop E o s).get with
    | none => none
    | some (p, v, s') => some (p, s'.put o.dst v)

def placeR (E : Env) (ops : Array Oper) (o : Oper) (s : St) : Option (Prop × St) :=
  match o.guard with
  | none => runR E o s
  | some (j, want) => match guardSlot ops j with
    | none => none
    | some g => match s.get g with
      | .raw (.tuple _) => match dstOk E.nt o.dst with
        | true => some (True, s.put o.dst (.raw undef))
        | false => none
      | .val .bool b => match dstOk E.nt o.dst with
        | false => none
        | true => match b == want with
          | true => runR E o (s.put (some g) (.val .bool b))
          | false => some (True, (s.put (some g) (.val .bool b)).put o.dst (.raw undef))
      | _ => none

/-- does it change objects that were there? -/
def writes (o : Oper) : Bool :=
  match o.op with
  | .move _ | .assign _ | .pick .. | .alloc _ | .box .. | .build .. | .buildSlice .. | .load .. | .nilCheck _ | .binOp .. | .unOp .. | .convert .. | .fieldAddr .. | .field .. | .indexAddr .. | .index .. | .extract .. | .makeFunc .. => false
  | .call c => (match c.callee with | .value _ => false | .builtin .len => false | .builtin .max => false | .builtin .min => false | _ => true)
  | _ => true

def looks (ops : Array Oper) (o : Oper) : List Nat :=
  (o.op.operands.toList.filterMap fun | .tmp t => some t | _ => none) ++
  (match o.guard with
   | some (g, _) => (guardSlot ops g).toList
   | none => [])

def apartB (ops : Array Oper) (x y : Oper) : Bool :=
  (match x.dst with
   | some d => !(looks ops y).contains d && (match y.dst with | some e => !(Nat.beq d e) | none => true)
   | none => true) &&
  (match y.dst with
   | some d => !(looks ops x).contains d
   | none => true)

def indep (ops : Array Oper) (x y : Oper) : Bool := !writes x && !writes y && apartB ops x y && !(Nat.beq ((x.dst.getD 0) % 1000) ((y.dst.getD 0) % 1000))

def known (o : Oper) : Bool := !writes o || (match o.op with | .store .. => true | _ => false)

def masksGo : List Oper → List Nat → List Nat
  | [], acc => acc
  | o :: l, acc => masksGo l (acc ++ [o.after.toList.foldl (fun m e => match Region.binds .any e with | true => Nat.lor (Nat.lor m (2 ^ e.on)) (acc.getD e.on 0) | false => m) 0])

def depOk (M : List Nat) (o : Oper) (m i : Nat) : Bool :=
  o.after.toList.all fun e => !Region.binds .any e || Nat.blt e.on i

def maskOk (M : List Nat) (o : Oper) (m n : Nat) : Bool :=
  (List.range n).all fun j => !(m.testBit j) || o.after.toList.any fun e => Region.binds .any e && (Nat.beq e.on j || (M.getD e.on 0).testBit j)

/-- unordered operations do not touch one another -/
def drawOk (ops : Array Oper) : Bool :=
  let M := masksGo ops.toList []
  let L := ops.toList
  let n := L.length
  (List.range n).all fun i => match L[i]? with
    | none => false
    | some o => known o && depOk M o (M.getD i 0) i && maskOk M o (M.getD i 0) n &&
      (List.range i).all fun j => match L[j]? with
        | none => false
        | some x => (M.getD i 0).testBit j || indep ops x o

def AV.clean : AV → Bool
  | .ptr _ _ | .at_ _ _ => false
  | .cons a b => a.clean && b.clean
  | .tup l | .clo _ l => l.clean
  | _ => true

def uniqB {α : Type _} : List (Nat × α) → Bool
  | [] => true
  | (n, _) :: l => (look n l).isNone && uniqB l

def distinctB : List Nat → Bool
  | [] => true
  | a :: l => !l.contains a && distinctB l

def dsts (ops : List Oper) : List Nat := ops.filterMap (·.dst)

def entryOk (ops : Array Oper) (s : St) : Bool :=
  uniqB s.fr && distinctB (dsts ops.toList) && (dsts ops.toList).all fun d => (s.get d).clean

def firstRegion : Code → Nat
  | .region id _ _ => id
  | .seq a _ => firstRegion a
  | .block _ c => firstRegion c
  | .loop c => firstRegion c
  | .cond _ a _ => firstRegion a
  | _ => 0

/-- is an object spoken of in one of the slots? -/
def usedIn (i : Nat) (s : St) : List Nat → Bool
  | [] => false
  | t :: l => (s.get t).ment i || usedIn i s l

/-- objects that go: those that no live slot speaks of -/
def dropAll (live : List Nat) (s0 : St) : List (Nat × Ent) → St → St
  | [], s => s
  | (i, _) :: l, s => match usedIn i s0 live with
    | true => dropAll live s0 l s
    | false => dropAll live s0 l (s.drop i)

/-- what is kept at a cut: the live slots and the objects that they speak of -/
def canon (live : List Nat) (s : St) : St :=
  let s := dropAll live s s.hp s
  { fr := live.map fun t => (t, s.get t), hp := s.hp }

def St.cutAt (E : Env) (c : Code) (s : St) : St := canon ((look (firstRegion c) E.cuts).getD []) s

def resA (E : Env) (s : St) : List ResultVar → Option AV
  | [] => some .nil
  | .tmp t :: l => match resA E s l with | some v => some (.cons (s.get t) v) | none => none
  | .cell a T :: l => match s.get a with
    | .ptr i p => match s.obj i with
      | some (.var t x) => (match getP t x p with
        | some ⟨u, y⟩ => (match chk E T u with
          | true => (match resA E s l with
            | some v => (match u.shared with | true => some (.cons (.val u y) v) | false => some (.cons (.at_ i p) v))
            | none => none)
          | false => none)
        | none => none)
      | _ => none
    | _ => none

/-- the results, of their types; an object goes out once at most -/
def retA (s : St) : (rs : List Ty) → List Nat → AV → Option (DL rs)
  | [], _, .nil => some ()
  | t :: ts, used, .cons a b =>
    match a with
    | .at_ i [] => (match used.contains i with
      | true => none
      | false => match s.obj i with
        | some (.var u x) => if h : u = t then (match retA s ts (i :: used) b with | some y => some (h ▸ x, y) | none => none) else none
        | some (.own u x) => if h : u = t then (match retA s ts (i :: used) b with | some y => some (h ▸ x, y) | none => none) else none
        | none => none)
    | a => match a.as t, retA s ts used b with
      | some x, some y => some (x, y)
      | _, _ => none
  | _, _, _ => none

def finish (E : Env) (s : St) : Tree E.rs :=
  match resA E s E.res with
  | none => .stuck "result"
  | some l => match retA s E.rs [] l with
    | some y => .ret y
    | none => .stuck "result: type"

def noDup : List Nat → Bool
  | [] => true
  | a :: l => !l.contains a && noDup l

def exec (E : Env) : Nat → List Item → St → Tree E.rs
  | 0, _, _ => .stuck "fuel"
  | n + 1, k, s =>
    match k with
    | [] => finish E s
    | .inBlock _ :: k => exec E n k s
    | .inLoop c :: k => .cut c k (s.cutAt E c)
    | .code c :: k =>
      match c with
      | .skip => exec E n k s
      | .seq a b => exec E n (.code a :: .code b :: k) s
      | .cond c a b => match s.ev c with
        | .val .bool g => cond g (exec E n (.code a :: k) s) (exec E n (.code b :: k) s)
        | _ => .stuck "cond"
      | .block id c => exec E n (.code c :: .inBlock id :: k) s
      | .loop c => .cut c k (s.cutAt E c)
      | .exit id => match exitTo id k with
        | some k' => exec E n k' s
        | none => .stuck "exit"
      | .ret => finish E s
      | .region _ ops draw => match draw with
        | false => regA E ops ops.toList s fun s' => exec E n k s'
        | true => match drawOk ops && entryOk ops s && E.P.follows .mixedOrders with
          | true => regA E ops ops.toList s fun s' => exec E n k s'
          | false => .stuck "draw"
      | _ => .stuck "code"
    | _ :: _ => .stuck "item"

/-- the loops of a code, with what stands behind each -/
def cutsOf : Code → List Item → List (Nat × (Code × List Item))
  | .seq a b, k => cutsOf a (.code b :: k) ++ cutsOf b k
  | .cond _ a b, k => cutsOf a k ++ cutsOf b k
  | .block id c, k => cutsOf c (.inBlock id :: k)
  | .loop c, k => (firstRegion c, (c, k)) :: cutsOf c (.inLoop c :: k)
  | _, _ => []

def loopAt (c : Code) (r : Nat) : Code × List Item := (look r (cutsOf c [])).getD (.skip, [])

/-- where a function begins -/
def argsFr : (ks : List PK) → DK ks → Nat → List (Nat × AV)
  | [], _, _ => []
  | .v t :: ks, x, i => (i, .val t x.1) :: argsFr ks x.2 (i + 1)
  | .rd t :: ks, x, i => (i, .rptr t x.1) :: argsFr ks x.2 (i + 1)
  | .clo f ts :: ks, x, i => (i, .clo f (rdA ts x.1)) :: argsFr ks x.2 (i + 1)
where rdA : (ts : List Ty) → DL ts → AV
  | [], _ => .nil
  | t :: ts, x => .cons (.rptr t x.1) (rdA ts x.2)

def initSt (ks : List PK) (x : DK ks) : St := { fr := argsFr ks x 0, hp := [] }

end Go.Ex
