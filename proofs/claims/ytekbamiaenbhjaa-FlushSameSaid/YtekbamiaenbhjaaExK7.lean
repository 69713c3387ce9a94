import Derived.Test.YtekbamiaenbhjaaExK6
import Derived.Orders

namespace Go.Ex

def uniq {α:Type _}:List (Nat×α)→Prop
 | []=>True
 | (n,_)::l=>(∀ q∈l,n<q.1)∧uniq l

theorem a2y {α:Type _} {n:Nat}:∀ {l:List (Nat×α)},(∀ q∈l,n<q.1)→look n l=none
 | [],_=>rfl
 | (m,x)::l,h=>by
  have:=h (m,x) (by simp)
  simp only [look,a0U (Nat.ne_of_lt this)]
  exact a2y (fun q hq=>h q (by simp [hq]))

theorem b1Z {α:Type _} {n:Nat} {x:α} {q:Nat×α}:∀ {l:List (Nat×α)},q∈put n x l→q.1=n∨q∈l
 | [],h=>by simp [put] at h; exact .inl (by rw [h])
 | (m,y)::l,h=>by
  simp only [put] at h
  split at h
  ·rcases List.mem_cons.1 h with rfl|h
   ·exact .inl rfl
   ·exact .inr (by simp [h])
  ·split at h
   ·rcases List.mem_cons.1 h with rfl|h
    ·exact .inl rfl
    ·exact .inr h
   ·rcases List.mem_cons.1 h with rfl|h
    ·exact .inr (by simp)
    ·exact (b1Z h).imp id (fun h=>by simp [h])

theorem a9j {α:Type _} (n:Nat) (x:α):∀ {l:List (Nat×α)},uniq l→uniq (put n x l)
 | [],_=>⟨by simp,trivial⟩
 | (m,y)::l,⟨h1,h2⟩=>by
  simp only [put]
  cases hb:Nat.beq n m with
  | true=>have:=Nat.eq_of_beq_eq_true hb; subst this; exact ⟨h1,h2⟩
  | false =>
   have hne:n≠m:=by rintro rfl; simp at hb
   simp only
   cases hlt:Nat.blt n m with
   | true =>
    have hlt:n<m:=by simpa [Nat.blt_eq] using hlt
    exact ⟨fun q hq=>by
     rcases List.mem_cons.1 hq with rfl|hq
     ·exact hlt
     ·exact Nat.lt_trans hlt (h1 q hq),h1,h2⟩
   | false =>
    have hlt:¬ n<m:=by
     intro hl
     have h3:Nat.blt n m=true:=by simpa [Nat.blt_eq] using hl
     rw [h3] at hlt; cases hlt
    refine ⟨fun q hq=>?_,a9j n x h2⟩
    rcases b1Z hq with e|hq
    ·omega
    ·exact h1 q hq

theorem A3 {α:Type _}:∀ {l:List (Nat×α)},a5k l=true→uniq l
 | [],_=>trivial
 | (n,x)::l,h=>by
  simp only [a5k,Bool.and_eq_true] at h
  have ih:=A3 h.2
  refine ⟨?_,ih⟩
  cases l with
  | nil=>simp
  | cons q l =>
   obtain ⟨m,y⟩:=q
   have hlt:n<m:=by simpa [Nat.blt_eq] using h.1
   intro q hq
   rcases List.mem_cons.1 hq with rfl|hq
   ·exact hlt
   ·exact Nat.lt_trans hlt (ih.1 q hq)

theorem a2D {d:Nat}:∀ {l:List (Nat×AV)},uniq l→(∀ n v,look n l=some v→v.e8 d=false)→U1 d l=true
 | [],_,_=>rfl
 | (m,v)::l,⟨h0,h2⟩,h=>by
  have h1:=a2y h0
  simp only [U1,Bool.and_eq_true,Bool.not_eq_true']
  refine ⟨h m v (by simp [look]),a2D h2 (fun n w hw=>h n w ?_)⟩
  simp only [look]
  cases hb:Nat.beq n m with
  | true=>have:=Nat.eq_of_beq_eq_true hb; subst this; rw [h1] at hw; cases hw
  | false=>exact hw

theorem E7:∀ {v:AV} {i:Nat},i∈v.C2↔v.e8 i=true:=by
 intro v
 induction v with
 | cons a b iha ihb=>intro i; simp only [AV.C2,List.mem_append,AV.e8,Bool.or_eq_true,iha,ihb]
 | F0 l ih=>intro i; exact ih
 | y7 f l ih=>intro i; exact ih
 | bx l ih=>intro i; exact ih
 | rc f l ih=>intro i; exact ih
 | ptr j p=>intro i; simp [AV.C2,AV.e8]
 | at_ j p=>intro i; simp [AV.C2,AV.e8]
 | sub j p a b=>intro i; simp [AV.C2,AV.e8]
 | _=>intro i; simp [AV.C2,AV.e8]

def AV.plain:AV→Bool
 | .any|.raw _|.val _ _|.N1 _ _|.nil=>true
 | _=>false

structure Trim (T:List Nat) (f:AV→AV):Prop where
 cons:∀ a b,f (.cons a b)=.cons (f a) (f b)
 F0:∀ l,f (.F0 l)=.F0 (f l)
 y7:∀ g l,f (.y7 g l)=.y7 g (f l)
 bx:∀ l,f (.bx l)=.bx (f l)
 rc:∀ g l,f (.rc g l)=.rc g (f l)
 atom:∀ u,u.ref=true→f u=u∨f u=.any
 a4D:∀ u,u.ref=true→(∀ i∈T,u.e8 i=false)→f u=u
 plain:∀ u,u.plain=true→f u=u

theorem AV.shape (P:AV→Prop) (hp:∀ u,u.plain=true→P u) (ha:∀ u,u.ref=true→P u) (hc:∀ a b,P a→P b→P (.cons a b)) (ht:∀ l,P l→P (.F0 l)) (hf:∀ g l,P l→P (.y7 g l)) (hb:∀ l,P l→P (.bx l)) (hr:∀ g l,P l→P (.rc g l)):∀ u,P u:=by
 intro u
 induction u with
 | cons a b iha ihb=>exact hc a b iha ihb
 | F0 l ih=>exact ht l ih
 | y7 f l ih=>exact hf f l ih
 | bx l ih=>exact hb l ih
 | rc f l ih=>exact hr f l ih
 | ptr j p=>exact ha _ rfl
 | at_ j p=>exact ha _ rfl
 | sub j p a b=>exact ha _ rfl
 | _=>exact hp _ rfl

section
variable {T T':List Nat} {f g:AV→AV}

theorem Trim.id (T:List Nat):Trim T (fun u=>u):=⟨fun _ _=>rfl,fun _=>rfl,fun _ _=>rfl,fun _=>rfl,fun _ _=>rfl,fun _ _=>.inl rfl,fun _ _ _=>rfl,fun _ _=>rfl⟩

theorem Trim.map {g:AV→AV} (h1:∀ u,u.ref=true→g u=u∨g u=.any) (h2:∀ u,u.ref=true→(∀ i∈T,u.e8 i=false)→g u=u):Trim T (AV.map g):=by
 have e:∀ u:AV,u.ref=true→u.map g=g u:=by intro u hu; cases u<;>simp only [AV.ref] at hu<;>first|rfl|cases hu
 exact ⟨fun _ _=>rfl,fun _=>rfl,fun _ _=>rfl,fun _=>rfl,fun _ _=>rfl,fun u hu=>by rw [e u hu]; exact h1 u hu,fun u hu hm=>by rw [e u hu]; exact h2 u hu hm,fun u hu=>by cases u<;>simp only [AV.plain] at hu<;>first|rfl|cases hu⟩

theorem Trim.comp (hf:Trim T f) (hg:Trim T' g) {U:List Nat} (h1:∀ i∈T,i∈U) (h2:∀ i∈T',i∈U):Trim U (fun u=>g (f u)):=by
 refine ⟨fun a b=>by rw [hf.cons,hg.cons],fun l=>by rw [hf.F0,hg.F0],fun k l=>by rw [hf.y7,hg.y7],fun l=>by rw [hf.bx,hg.bx],fun k l=>by rw [hf.rc,hg.rc],?_,?_,fun u hu=>by rw [hf.plain u hu,hg.plain u hu]⟩
 ·intro u hu
  rcases hf.atom u hu with h|h
  ·rw [h]; exact hg.atom u hu
  ·rw [h]; exact .inr (hg.plain _ rfl)
 ·intro u hu hm
  rw [hf.a4D u hu (fun i hi=>hm i (h1 i hi)),hg.a4D u hu (fun i hi=>hm i (h2 i hi))]

theorem Trim.mono (hf:Trim T f) (h:∀ i∈T,i∈T'):Trim T' f:=⟨hf.cons,hf.F0,hf.y7,hf.bx,hf.rc,hf.atom,fun u hu hm=>hf.a4D u hu (fun i hi=>hm i (h i hi)),hf.plain⟩

theorem Trim.fix (hf:Trim T f):∀ u,(∀ i∈T,u.e8 i=false)→f u=u:=by
 refine AV.shape _ (fun u hu _=>hf.plain u hu) (fun u hu hm=>hf.a4D u hu hm) ?_ ?_ ?_ ?_ ?_
 ·intro a b ha hb hm
  simp only [AV.e8,Bool.or_eq_false_iff] at hm
  rw [hf.cons,ha (fun i hi=>(hm i hi).1),hb (fun i hi=>(hm i hi).2)]
 ·intro l hl hm; rw [hf.F0,hl hm]
 ·intro k l hl hm; rw [hf.y7,hl hm]
 ·intro l hl hm; rw [hf.bx,hl hm]
 ·intro k l hl hm; rw [hf.rc,hl hm]

theorem Trim.e8 (hf:Trim T f) {i:Nat}:∀ u,(f u).e8 i=true→u.e8 i=true:=by
 refine AV.shape _ (fun u hu h=>by rw [hf.plain u hu] at h; exact h) (fun u hu h=>?_) ?_ ?_ ?_ ?_ ?_
 ·rcases hf.atom u hu with e|e
  ·rw [e] at h; exact h
  ·rw [e] at h; cases h
 ·intro a b ha hb h
  rw [hf.cons] at h
  simp only [AV.e8,Bool.or_eq_true] at h ⊢
  exact h.imp ha hb
 ·intro l hl h; rw [hf.F0] at h; exact hl h
 ·intro k l hl h; rw [hf.y7] at h; exact hl h
 ·intro l hl h; rw [hf.bx] at h; exact hl h
 ·intro k l hl h; rw [hf.rc] at h; exact hl h

theorem Trim.comm (hf:Trim T f) (hg:Trim T' g):∀ u,f (g u)=g (f u):=by
 refine AV.shape _ (fun u hu=>by rw [hf.plain u hu,hg.plain u hu,hf.plain u hu]) (fun u hu=>?_) ?_ ?_ ?_ ?_ ?_
 ·have ha:f .any=.any:=hf.plain _ rfl
  have hb:g .any=.any:=hg.plain _ rfl
  rcases hf.atom u hu with e|e<;>rcases hg.atom u hu with e'|e'<;>simp only [e,e',ha,hb]
 ·intro a b ha hb; rw [hg.cons,hf.cons,hf.cons,hg.cons,ha,hb]
 ·intro l hl; rw [hg.F0,hf.F0,hf.F0,hg.F0,hl]
 ·intro k l hl; rw [hg.y7,hf.y7,hf.y7,hg.y7,hl]
 ·intro l hl; rw [hg.bx,hf.bx,hf.bx,hg.bx,hl]
 ·intro k l hl; rw [hg.rc,hf.rc,hf.rc,hg.rc,hl]

theorem Trim.drop (i:Nat):Trim [i] (AV.drop i):=by
 refine Trim.map (fun u _=>?_) (fun u _ hm=>?_)
 ·cases hm:u.e8 i with
  | true=>exact .inr (by simp only)
  | false=>exact .inl (by simp only)
 ·simp only [hm i (by simp)]

theorem Trim.kill (i:Nat) (ow:Bool×Ty) (q:List Step):Trim [i] (AV.kill i ow q):=by
 refine Trim.map (fun u hu=>?_) (fun u _ hm=>?_)
 ·unfold AV.a0b
  split
  ·exact .inl rfl
  ·split
   ·split<;>first|exact .inl rfl|exact .inr rfl
   ·split
    ·exact .inl rfl
    ·split<;>first|exact .inl rfl|exact .inr rfl
   ·split<;>first|exact .inl rfl|exact .inr rfl
   ·split<;>first|exact .inl rfl|exact .inr rfl
   ·exact .inr rfl
 ·unfold AV.a0b; rw [hm i (by simp)]

theorem Trim.N0 (i:Nat) (ow:Bool):Trim [i] (AV.map (AV.a0M i ow)):=by
 refine Trim.map (fun u hu=>?_) (fun u _ hm=>?_)
 ·unfold AV.a0M
  split
  ·exact .inl rfl
  ·split
   ·split<;>first|exact .inl rfl|exact .inr rfl
   ·split<;>first|exact .inl rfl|exact .inr rfl
   ·split<;>first|exact .inl rfl|exact .inr rfl
   ·exact .inr rfl
 ·unfold AV.a0M; rw [hm i (by simp)]

def a0Q:List Nat→AV→AV
 | [],u=>u
 | i::g,u=>a0Q g (u.drop i)

theorem Trim.p7:∀ g:List Nat,Trim g (a0Q g)
 | []=>Trim.id []
 | i::g=>Trim.comp (Trim.drop i) (Trim.p7 g) (by simp) (fun j hj=>List.mem_cons_of_mem _ hj)
end

structure b6E (s s1:St) (T ids:List Nat) (f:AV→AV) (h:Nat→Option f9):Prop where
 fr:∀ n,look n s1.fr=(look n s.fr).map f
 hp:∀ i,look i s1.hp=if i∈T∨i∈ids then h i else look i s.hp

def K4 (s:St) (ids:List Nat):Prop:=∀ n∈ids,look n s.hp=none∧∀ m v,look m s.fr=some v→v.e8 n=false

theorem a0K:∀ {g:List Nat} {s:St} {n:Nat},look n (St.p7 g s).fr=(look n s.fr).map (a0Q g)
 | [],s,n=>by simp [St.p7,a0Q]
 | i::g,s,n=>by
  simp only [St.p7]
  rw [a0K (g:=g) (s:=s.drop i)]
  simp only [St.drop,D3,Option.map_map]
  rfl

theorem a9J {f:AV→AV} {q:Nat×AV}:∀ {l:List (Nat×AV)},q∈mapA f l→∃ r∈l,r.1=q.1
 | (n,x)::l,h=>by
  rcases List.mem_cons.1 h with rfl|h
  ·exact ⟨_,List.mem_cons_self ..,rfl⟩
  ·obtain ⟨r,hr,e⟩:=a9J h; exact ⟨r,by simp [hr],e⟩

theorem a1p {f:AV→AV}:∀ {l:List (Nat×AV)},uniq l→uniq (mapA f l)
 | [],_=>trivial
 | (n,x)::l,⟨h1,h2⟩=>⟨fun q hq=>by obtain ⟨r,hr,e⟩:=a9J hq; rw [← e]; exact h1 r hr,a1p h2⟩

theorem a0D:∀ {g:List Nat} {s:St},uniq s.fr→uniq (St.p7 g s).fr
 | [],_,h=>h
 | i::g,s,h=>a0D (g:=g) (s:=s.drop i) (a1p h)

def R4 (s t:St) (xs:List Operand):Prop:=∀ x∈xs,t.ev x=s.ev x∧∀ i,(s.ev x).e8 i=true→t.obj i=s.obj i

theorem R4.refl (s:St) (xs:List Operand):R4 s s xs:=fun _ _=>⟨rfl,fun _ _=>rfl⟩

def OR.Y2 (t:St):OR→OR
 | .fail w=>.fail w
 | .ok v _=>.ok v t
 | .B1 p v _=>.B1 p v t

def OR.av:OR→AV
 | .ok v _=>v
 | .B1 _ v _=>v
 | .fail _=>.any

section
variable {E:Env} {s t:St}

theorem b0p (k:IntKind) (r:Int):arith k r t=(arith k r s).Y2 t:=by unfold arith; split<;>rfl
theorem b7e (op:BinOp) (k k':IntKind) (a b:Int):a6u op k a k' b t=(a6u op k a k' b s).Y2 t:=by
 unfold a6u
 split
 ·rfl
 ·rfl
 ·split
  ·split<;>first|rfl|exact b0p _ _
  ·rfl
theorem b7c (W:Bool) (op:BinOp) (k k':IntKind) (a b:Int):a6s W op k a k' b t=(a6s W op k a k' b s).Y2 t:=by
 unfold a6s
 split
 ·split<;>rfl
 ·exact b7e ..
theorem b7d (op:BinOp) (a b:List UInt8):a6t op a b t=(a6t op a b s).Y2 t:=by unfold a6t; split<;>rfl
theorem b7g (T:TypeId) (op:BinOp) (x y:AV):a6v E T op x y t=(a6v E T op x y s).Y2 t:=by
 unfold a6v
 split
 ·exact b7c ..
 ·split<;>rfl
 ·exact b7d ..
 ·rfl
theorem b4S (T:TypeId) (op:BinOp) (a:Ty) (x:a.den) (u:Ty) (y:u.den):eqA E T op a x u y t=(eqA E T op a x u y s).Y2 t:=by
 unfold eqA
 split
 ·split<;>rfl
 ·rfl
theorem b7f (T:TypeId) (op:BinOp) (x y:AV):a3Y E T op x y t=(a3Y E T op x y s).Y2 t:=by
 unfold a3Y
 split
 ·exact b4S ..
 ·exact b4S ..
 ·exact b7g ..
theorem b7s (op:UnOp) (x:AV):unA op x t=(unA op x s).Y2 t:=by
 unfold unA
 repeat' (first|rfl|exact b0p _ _|split)

theorem a3g:∀ {xs:List Operand},(∀ x∈xs,t.ev x=s.ev x)→t.C8 xs=s.C8 xs
 | [],_=>rfl
 | x::xs,h=>by simp only [St.C8,h x (by simp),a3g (xs:=xs) (fun y hy=>h y (by simp [hy]))]

theorem T3 {i:Nat}:∀ {xs:List Operand},(s.C8 xs).e8 i=true→∃ x∈xs,(s.ev x).e8 i=true
 | [],h=>by cases h
 | x::xs,h=>by
  simp only [St.C8,AV.e8,Bool.or_eq_true] at h
  rcases h with h|h
  ·exact ⟨x,by simp,h⟩
  ·obtain ⟨y,hy,h⟩:=T3 h; exact ⟨y,by simp [hy],h⟩

theorem a6c {i:Nat} {x:Operand}:∀ {xs:List Operand},x∈xs→(s.ev x).e8 i=true→(s.C8 xs).e8 i=true
 | y::xs,hx,h=>by
  simp only [St.C8,AV.e8,Bool.or_eq_true]
  rcases List.mem_cons.1 hx with rfl|hx
  ·exact .inl h
  ·exact .inr (a6c hx h)

theorem a31 {i:Nat}:∀ {a b:AV},(a.app b).e8 i=true→a.e8 i=true∨b.e8 i=true:=by
 intro a
 induction a with
 | cons x l _ ih =>
  intro b h
  simp only [AV.app,AV.e8,Bool.or_eq_true] at h ⊢
  rcases h with h|h
  ·exact .inl (.inl h)
  ·rcases ih h with h|h
   ·exact .inl (.inr h)
   ·exact .inr h
 | _=>intro b h; exact .inr h

def Alike (s t:St) (v:AV):Prop:=∀ i,v.e8 i=true→t.obj i=s.obj i

theorem F2 {i:Nat} {p:List Step} (h:t.obj i=s.obj i):t.part i p=s.part i p:=by simp only [St.part,h]
theorem a5i {i:Nat} {p:List Step} {a b:Int} (h:t.obj i=s.obj i):t.view i p a b=s.view i p a b:=by simp only [St.view,F2 h]
theorem a7G {u:Ty} {i:Nat} {p:List Step} (h:t.obj i=s.obj i):t.a1a u i p=s.a1a u i p:=by simp only [St.a1a,F2 h]
theorem b7Q {u:Ty} {v:AV} (h:Alike s t v):v.asV t u=v.asV s u:=by
 cases v<;>first|rfl|exact a7G (h _ (by simp [AV.e8]))|(simp only [AV.asV]; rw [a5i (h _ (by simp [AV.e8]))])
theorem b45 {u:Ty} {v:AV} (h:Alike s t v):v.asR t u=v.asR s u:=by
 unfold AV.asR
 split
 ·exact a7G (h _ (by simp [AV.e8]))
 ·rfl
 ·rename_i i p
  have e:∀ u,t.a1a u i p=s.a1a u i p:=fun u=>a7G (h i (show AV.e8 i (AV.bx (.ptr i p))=true by simp [AV.e8]))
  simp only [e]
 ·rfl
theorem b2w:∀ {ts:List Ty} {v:AV},Alike s t v→AV.a4W t ts v=AV.a4W s ts v
 | [],v,_=>by cases v<;>rfl
 | u::ts,v,h=>by
  cases v<;>try rfl
  rename_i a b
  simp only [AV.a4W,b45 (v:=a) (fun i hi=>h i (by simp [AV.e8,hi])),b2w (v:=b) (fun i hi=>h i (by simp [AV.e8,hi]))]
theorem a5u {v:AV} (h:Alike s t v):v.L6 t=v.L6 s:=by
 cases v<;>try rfl
 ·rename_i i p; cases p<;>simp only [AV.L6,h i (by simp [AV.e8])]
 ·rename_i i p a b; cases p<;>simp only [AV.L6,h i (by simp [AV.e8])]
theorem a9Y {v:AV} (h:Alike s t v):v.els t=v.els s:=by
 unfold AV.els
 split
 ·rfl
 ·rename_i i p; simp only [F2 (h i (by simp [AV.e8]))]
 ·rename_i i p a b; simp only [a5i (h i (by simp [AV.e8]))]
 ·rfl
theorem a2I {v:AV} {r:Sigma Ty.den} {g:List Nat} (h:v.L6 s=some (r,g)):∀ i∈g,v.e8 i=true:=by
 unfold AV.L6 at h
 split at h
 ·cases h; simp
 ·split at h
  ·cases h; simp [AV.e8]
  ·cases h
 ·split at h
  ·cases h; simp [AV.e8]
  ·cases h
 ·cases h
theorem a0r {v:AV} (h:Alike s t v):v.T8 t=v.T8 s:=by
 unfold AV.T8
 split
 ·rename_i i
  rw [h i (by simp [AV.e8]),a5u h]
 ·rfl
 ·exact a5u h
theorem a1P {v:AV} {r:Sigma Ty.den} {g:List Nat} (h:v.T8 s=some (r,g)):∀ i∈g,v.e8 i=true:=by
 unfold AV.T8 at h
 split at h
 ·split at h
  ·cases h; simp [AV.e8]
  ·exact a2I h
 ·cases h; simp
 ·exact a2I h
theorem a5z {u:Ty} {v:AV} (h:Alike s t v):v.T6 t u=v.T6 s u:=by
 unfold AV.T6
 split
 ·rfl
 ·rfl
 ·simp only [a9Y h,a5u h]
theorem a8A {u:Ty} {v:AV} {r:Sigma fun t:Ty=>List t.den} {g:List Nat} (h:v.T6 s u=some (r,g)):∀ i∈g,v.e8 i=true:=by
 unfold AV.T6 at h
 split at h
 ·cases h; simp
 ·cases h; simp
 ·split at h
  ·cases h
  ·split at h
   ·cases h; simp
   ·split at h
    ·rename_i hg; cases h; exact a2I hg
    ·cases h
theorem b0j {d:Int} {x:Option Operand} (h:∀ y,x=some y→t.ev y=s.ev y):S6 t d x=S6 s d x:=by
 cases x with
 | none=>rfl
 | some y=>simp only [S6,h y rfl]

theorem b7R {k:PK} {v:AV} (h:Alike s t v):v.G4 t k=v.G4 s k:=by
 cases k with
 | v u=>simp only [AV.G4,b7Q h]
 | rd u=>simp only [AV.G4,b45 h]
 | L5=>cases v<;>rfl
 | R8 f n=>rfl
 | el q=>rfl
 | y7 f ts =>
  cases v<;>try rfl
  simp only [AV.G4]; rw [b2w (fun i hi=>h i (by simpa [AV.e8] using hi))]
 | own u =>
  have hg:=a0r h
  unfold AV.G4
  dsimp only
  split
  ·rfl
  ·rw [hg]
 | rw u =>
  cases v<;>try rfl
  rename_i i p; cases p<;>simp only [AV.G4,h i (by simp [AV.e8])]
 | mu u =>
  cases v<;>try rfl
  rename_i i p; cases p<;>simp only [AV.G4,h i (by simp [AV.e8])]
theorem b2x:∀ {ks:List PK} {v:AV},Alike s t v→AV.T5 t ks v=AV.T5 s ks v
 | [],v,_=>by cases v<;>rfl
 | k::ks,v,h=>by
  cases v<;>try rfl
  rename_i a b
  simp only [AV.T5,b7R (v:=a) (fun i hi=>h i (by simp [AV.e8,hi])),b2x (v:=b) (fun i hi=>h i (by simp [AV.e8,hi]))]

theorem b50 {k:PK} {v:AV} {x:k.den} {g m:List Nat} (h:v.G4 s k=some (x,g,m)):(∀ i∈g++m,v.e8 i=true)∧(k.i7=false→g=[]∧m=[]):=by
 cases k with
 | v u=>simp only [AV.G4] at h; split at h<;>cases h; simp
 | rd u=>simp only [AV.G4] at h; split at h<;>cases h; simp
 | L5=>simp only [AV.G4] at h; split at h<;>cases h; simp
 | R8 f n=>simp only [AV.G4] at h; cases h
 | el q=>simp only [AV.G4] at h; cases h
 | y7 f ts =>
  simp only [AV.G4] at h
  split at h
  ·split at h
   ·split at h<;>cases h; simp
   ·cases h
  ·cases h
 | own u =>
  refine ⟨?_,fun h=>by cases h⟩
  simp only [AV.G4] at h
  split at h
  ·split at h<;>cases h; simp
  ·split at h
   ·rename_i hg
    split at h
    ·cases h
     intro i hi
     exact a1P hg i (by simpa using hi)
    ·cases h
   ·cases h
 | rw u =>
  refine ⟨?_,fun h=>by cases h⟩
  simp only [AV.G4] at h
  split at h
  ·split at h
   ·split at h
    ·cases h; simp [AV.e8]
    ·cases h
   ·cases h
  ·cases h
 | mu u =>
  refine ⟨?_,fun h=>by cases h⟩
  simp only [AV.G4] at h
  split at h
  ·split at h
   ·split at h
    ·cases h; simp [AV.e8]
    ·cases h
   ·cases h
  ·cases h

theorem a8w:∀ {ks:List PK} {v:AV} {x:DK ks} {g m:List Nat},AV.T5 s ks v=some (x,g,m)→(∀ i∈g++m,v.e8 i=true)∧(ks.any PK.i7=false→g=[]∧m=[])
 | [],v,x,g,m,h=>by
  cases v<;>simp only [AV.T5] at h<;>cases h
  simp
 | k::ks,v,x,g,m,h=>by
  cases v<;>simp only [AV.T5] at h<;>try (cases h; done)
  split at h
  ·rename_i h1 h2
   cases h
   obtain ⟨a1,a2⟩:=b50 h1
   obtain ⟨b1,b2⟩:=a8w h2
   refine ⟨?_,?_⟩
   ·intro i hi
    simp only [List.mem_append] at hi a1 b1
    simp only [AV.e8,Bool.or_eq_true]
    rcases hi with (hi|hi)|(hi|hi)
    ·exact .inl (a1 i (.inl hi))
    ·exact .inr (b1 i (.inl hi))
    ·exact .inl (a1 i (.inr hi))
    ·exact .inr (b1 i (.inr hi))
   ·intro ht
    simp only [List.any_cons,Bool.or_eq_false_iff] at ht
    obtain ⟨r1,r2⟩:=a2 ht.1
    obtain ⟨r3,r4⟩:=b2 ht.2
    simp [r1,r2,r3,r4]
  ·cases h

theorem a2N:∀ {parts:List (Nat×Operand)} {r:Sigma Ty.den},(∀ q∈parts,t.ev q.2=s.ev q.2∧Alike s t (s.ev q.2))→K2 t r parts=K2 s r parts
 | [],⟨_,_⟩,_=>rfl
 | (i,v)::parts,⟨u,x⟩,h=>by
  have ih:=fun r=>a2N (parts:=parts) (r:=r) (fun q hq=>h q (by simp [hq]))
  obtain ⟨h1,h2⟩:=h (i,v) (by simp)
  have h1:t.ev v=s.ev v:=h1
  have h2:=a0r h2
  have h2:(s.ev v).T8 t=(s.ev v).T8 s:=h2
  simp only [K2,h1,ih]
  split
  ·rfl
  ·split
   ·rfl
   ·rw [h2]

theorem a1k:∀ {parts:List (Nat×Operand)} {r r':Sigma Ty.den} {g:List Nat},K2 s r parts=some (r',g)→∀ i∈g,∃ q∈parts,(s.ev q.2).e8 i=true
 | [],⟨_,_⟩,r',g,h=>by simp only [K2] at h; cases h; simp
 | (j,v)::parts,⟨u,x⟩,r',g,h=>by
  simp only [K2] at h
  split at h
  ·cases h
  ·split at h
   ·split at h
    ·split at h
     ·intro i hi
      obtain ⟨q,hq,hm⟩:=a1k h i hi
      exact ⟨q,by simp [hq],hm⟩
     ·cases h
    ·cases h
   ·split at h
    ·rename_i hg
     split at h
     ·split at h
      ·rename_i hb
       cases h
       intro i hi
       rcases List.mem_append.1 hi with hi|hi
       ·exact ⟨(j,v),by simp,a1P hg i hi⟩
       ·obtain ⟨q,hq,hm⟩:=a1k hb i hi
        exact ⟨q,by simp [hq],hm⟩
      ·cases h
     ·cases h
    ·cases h

end
end Go.Ex

namespace Go.Ex

section
variable {E:Env} {s t:St}

theorem a3v {o:Oper} {i:Nat} (h:i∈i7 E o s):∃ x∈o.op.operands.toList,(s.ev x).e8 i=true:=by
 have parts:∀ {T:TypeId} {ps:Array (Nat×Operand)},i∈(s.C8 (ps.toList.map (·.2))).C2→∃ x∈ps.toList.map (·.2),(s.ev x).e8 i=true:=by
  intro T ps h
  obtain ⟨x,hx,hm⟩:=T3 (E7.1 h)
  exact ⟨x,by simpa using hx,hm⟩
 unfold i7 at h
 cases ho:o.op with
 | store T a x =>
  rw [ho] at h
  simp only [List.mem_append,E7] at h
  rcases h with h|h
  ·exact ⟨a,by simp [Op.operands],h⟩
  ·exact ⟨x,by simp [Op.operands],h⟩
 | box T x=>rw [ho] at h; exact ⟨x,by simp [Op.operands],E7.1 h⟩
 | mapUpdate T m x y=>rw [ho] at h; exact ⟨m,by simp [Op.operands],E7.1 h⟩
 | build T ps=>rw [ho] at h; simp only [Op.operands]; exact parts (T:=T) h
 | buildSlice T n ps=>rw [ho] at h; simp only [Op.operands]; exact parts (T:=T) h
 | call c =>
  rw [ho] at h
  have hop:∀ x∈c.args.toList,x∈(Op.call c).operands.toList:=fun x hx=>by simp only [Op.operands,Call.operands]; simp at hx ⊢; first|exact .inr hx|exact .inl hx
  simp only at h
  split at h
  ·rename_i f hc
   split at h
   ·rename_i g caps hg
    split at h
    ·split at h
     ·cases h
     ·rcases a31 (E7.1 h) with h|h
      ·obtain ⟨x,hx,hm⟩:=T3 h
       exact ⟨x,hop x hx,hm⟩
      ·exact ⟨f,by simp [Op.operands,Call.operands,hc],by rw [hg]; exact h⟩
    ·cases h
   ·split at h
    ·split at h
     ·cases h
     ·rcases a31 (E7.1 h) with h|h
      ·obtain ⟨x,hx,hm⟩:=T3 h
       exact ⟨x,hop x hx,hm⟩
      ·cases h
    ·cases h
   ·split at h
    ·split at h
     ·cases h
     ·rcases a31 (E7.1 h) with h|h
      ·obtain ⟨x,hx,hm⟩:=T3 h
       exact ⟨x,hop x hx,hm⟩
      ·cases h
    ·cases h
   ·cases h
  ·obtain ⟨x,hx,hm⟩:=T3 (E7.1 h)
   exact ⟨x,hop x hx,hm⟩
  ·obtain ⟨x,hx,hm⟩:=T3 (E7.1 h)
   exact ⟨x,hop x hx,hm⟩
  ·obtain ⟨x,hx,hm⟩:=T3 (E7.1 h)
   exact ⟨x,hop x hx,hm⟩
  ·cases h
 | _=>rw [ho] at h; cases h

theorem a54 {o:Oper} (h:∀ x∈o.op.operands.toList,t.ev x=s.ev x):i7 E o t=i7 E o s:=by
 unfold i7
 cases ho:o.op with
 | store T a x=>rw [ho] at h; simp only [h a (by simp [Op.operands]),h x (by simp [Op.operands])]
 | box T x=>rw [ho] at h; simp only [h x (by simp [Op.operands])]
 | mapUpdate T m x y=>rw [ho] at h; simp only [h m (by simp [Op.operands])]
 | build T ps =>
  rw [ho] at h
  simp only
  rw [a3g (s:=s) (t:=t) (fun x hx=>h x (by simp only [Op.operands]; simpa using hx))]
 | buildSlice T n ps =>
  rw [ho] at h
  simp only
  rw [a3g (s:=s) (t:=t) (fun x hx=>h x (by simp only [Op.operands]; simpa using hx))]
 | call c =>
  rw [ho] at h
  have hop:∀ x∈c.args.toList,x∈(Op.call c).operands.toList:=fun x hx=>by simp only [Op.operands,Call.operands]; simp at hx ⊢; first|exact .inr hx|exact .inl hx
  have he:=a3g (s:=s) (t:=t) (fun x hx=>h x (hop x hx))
  simp only [he]
  split
  ·rename_i f hc
   rw [h f (by simp [Op.operands,Call.operands,hc])]
  ·rfl
  ·rfl
  ·rfl
  ·rfl
 | _=>rfl

def y8 (E:Env) (o:Oper) (s:St) (p:Prop) (v:AV):Prop :=
 ∃ ids f h,Trim (i7 E o s) f∧K4 s ids∧(∀ n∈ids,n % 1000=(o.dst.getD 0) % 1000) ∧
  (∀ i,v.e8 i=true→(∃ x∈o.op.operands.toList,(s.ev x).e8 i=true)∨i∈ids) ∧
  ∀ t,uniq t.fr→R4 s t o.op.operands.toList→K4 t ids→∃ t1,(l4 E o t).get=some (p,v,t1)∧uniq t1.fr∧b6E t t1 (i7 E o s) ids f h

theorem a0t {o:Oper} (ha:R4 s t o.op.operands.toList) {i:Nat} (hi:i∈i7 E o s):look i t.hp=look i s.hp:=by
 obtain ⟨x,hx,hm⟩:=a3v hi
 exact (ha x hx).2 i hm

theorem y8.ro {o:Oper} {p:Prop} {v:AV} {s1:St} (h:(l4 E o s).get=some (p,v,s1)) (h1:∀ t,R4 s t o.op.operands.toList→l4 E o t=(l4 E o s).Y2 t) (h2:∀ i,(l4 E o s).av.e8 i=true→∃ x∈o.op.operands.toList,(s.ev x).e8 i=true):y8 E o s p v:=by
 refine ⟨[],fun u=>u,fun i=>look i s.hp,Trim.id _,by simp [K4],by simp,?_,?_⟩
 ·intro i hi
  refine .inl (h2 i ?_)
  cases hr:l4 E o s<;>rw [hr] at h<;>simp [OR.get] at h
  ·rw [← h.2.1] at hi; exact hi
  ·rw [← h.2.1] at hi; exact hi
 ·intro t hu ha _
  refine ⟨t,?_,hu,⟨fun n=>by simp,fun i=>?_⟩⟩
  ·rw [h1 t ha]
   cases hr:l4 E o s<;>rw [hr] at h<;>simp only [OR.get,Option.some.injEq,Prod.mk.injEq] at h
   ·cases h
   ·obtain ⟨rfl,rfl,_⟩:=h; rfl
   ·obtain ⟨rfl,rfl,_⟩:=h; rfl
  ·split
   ·rename_i hi; exact a0t ha (by simpa using hi)
   ·rfl

theorem a9Q {d:Nat} (hu:uniq t.fr) (h:K4 t [d]):t.fresh d=true:=by
 simp only [St.fresh,Bool.and_eq_true,Option.isNone_iff_eq_none]
 exact ⟨(h d (by simp)).1,a2D hu (h d (by simp)).2⟩

theorem a8l {d:Nat} (h:s.fresh d=true):K4 s [d]:=by
 obtain ⟨k1,k2⟩:=a2K h
 intro n hn
 simp only [List.mem_cons,List.not_mem_nil,or_false] at hn
 subst hn
 exact ⟨k1,k2⟩

theorem b4w {T g:List Nat} {d:Nat} {e:f9} (hg:∀ i∈g,i∈T) (ha:∀ i∈T,look i t.hp=look i s.hp):b6E t ((St.p7 g t).o7 d e) T [d] (a0Q g) (fun i=>if i=d then some e else if i∈g then none else look i s.hp):=by
 refine ⟨fun n=>a0K,fun i=>?_⟩
 show look i (Ex.put d e (St.p7 g t).hp)=_
 rw [l7,F6]
 by_cases h1:i=d
 ·simp [h1]
 ·by_cases h3:i∈g
  ·have:=hg i h3; simp [h1,h3,this]
  ·by_cases h2:i∈T
   ·simp [h1,h3,h2,ha i h2]
   ·simp [h1,h2,h3]

theorem y8.obj {o:Oper} {p:Prop} {d:Nat} (hd:o.dst=some d) {e:f9} {v:AV} {g:List Nat} (hv:∀ i,v.e8 i=true→i=d) (hf:s.fresh d=true) (hg:∀ i∈g,i∈i7 E o s)
  (h:∀ t,R4 s t o.op.operands.toList→uniq t.fr→t.fresh d=true→(l4 E o t).get=some (p,v,(St.p7 g t).o7 d e)):y8 E o s p v:=by
 refine ⟨[d],a0Q g,(fun i=>if i=d then some e else if i∈g then none else look i s.hp),(Trim.p7 g).mono hg,a8l hf,by simp [hd],fun i hi=>.inr (by simp [hv i hi]),?_⟩
 intro t hu ha hn
 exact ⟨_,h t ha hu (a9Q hu hn),a0D (g:=g) hu,b4w hg (fun i hi=>a0t ha hi)⟩

theorem a7H {d:Nat} {g:List Nat} {u:Ty} {x:u.den} {v:AV} {s':St} (hl:s.lay d g u x=.ok v s'):s.fresh d=true∧v=.at_ d []∧s'=(St.p7 g s).o7 d (.own u x)∧(a0o g && (g.all fun i=>!pinned i))=true:=by
 unfold St.lay at hl
 split at hl
 ·cases hl
 ·rename_i hc
  simp only [Bool.and_eq_true] at hc
  split at hl
  ·cases hl; exact ⟨hc.2,rfl,rfl,by simp only [Bool.and_eq_true]; exact hc.1⟩
  ·cases hl

theorem a9K {d:Nat} {g:List Nat} {u:Ty} {x:u.den} (hf:t.fresh d=true) (hg:(a0o g && (g.all fun i=>!pinned i))=true):t.lay d g u x=.ok (.at_ d []) ((St.p7 g t).o7 d (.own u x)):=by
 unfold St.lay
 have h2:(St.p7 g t).fresh d=true:=by
  simp only [St.fresh,Bool.and_eq_true,Option.isNone_iff_eq_none] at hf ⊢
  refine ⟨by rw [F6]; split<;>first|rfl|exact hf.1,a2m hf.2⟩
 simp only [hg,hf,h2,Bool.and_self]

theorem y8.lay {o:Oper} {p:Prop} {v:AV} {s1:St} {d:Nat} (hd:o.dst=some d) {g:List Nat} {u:Ty} {x:u.den} {W:OR→OR} (hW:∀ v s,(W (.ok v s)).get=some (p,v,s)) (hF:∀ y,(W (.fail y)).get=none) (hg:∀ i∈g,i∈i7 E o s)
  (h:(l4 E o s).get=some (p,v,s1)) (h1:∀ t,R4 s t o.op.operands.toList→l4 E o t=W (t.lay d g u x)):y8 E o s p v:=by
 rw [h1 s (.refl _ _)] at h
 cases hl:s.lay d g u x with
 | fail y=>rw [hl,hF] at h; cases h
 | B1 q v s'=>exact absurd hl M9
 | ok v' s' =>
  rw [hl,hW] at h
  cases h
  obtain ⟨k1,rfl,rfl,k4⟩:=a7H hl
  refine y8.obj hd (e:=.own u x) (g:=g) (fun i hi=>by simpa [AV.e8] using hi) k1 hg (fun t ha hu hf=>?_)
  rw [h1 t ha,a9K hf k4,hW]

theorem a2d {q p:Prop} {r:OR} {v:AV} {s1:St} (h:(r.n8 q).get=some (p,v,s1)) (hr:∀ q' v' s',r≠.B1 q' v' s'):p=q:=by
 cases r with
 | fail y=>cases h
 | ok v s=>simp only [OR.n8,OR.get,Option.some.injEq,Prod.mk.injEq] at h; exact h.1.symm
 | B1 q' v' s'=>exact absurd rfl (hr q' v' s')


theorem b5H {T:TypeId} {a:AV} (h:Alike s t a):K9 E T a t=(K9 E T a s).Y2 t:=by
 unfold K9
 cases a with
 | ptr i p =>
  simp only [F2 (h i (by simp [AV.e8]))]
  repeat' (first|rfl|split)
 | _=>first|rfl|(dsimp only; split<;>rfl)

theorem b29 {T:TypeId} {a:AV} {i:Nat} (h:(K9 E T a s).av.e8 i=true):a.e8 i=true:=by
 unfold K9 at h
 cases a with
 | ptr j p =>
  simp only at h
  repeat' (split at h)
  all_goals first|exact h|(cases h; done)
 | _ =>
  simp only at h
  repeat' (split at h)
  all_goals first|exact h|(cases h; done)

theorem a6b {i:Nat}:∀ {n:Nat} {l v:AV},l4.nth n l=some v→v.e8 i=true→l.e8 i=true
 | 0,l,v,h,hv=>by
  cases l<;>simp only [l4.nth] at h<;>first|cases h|skip
  simp [AV.e8,hv]
 | n+1,l,v,h,hv=>by
  cases l<;>simp only [l4.nth] at h<;>first|cases h|skip
  simp [AV.e8,a6b h hv]

theorem b6M (d k:Nat):I0 d k % 1000=d % 1000:=by unfold I0; omega
theorem b1X {d j k:Nat} (h:I0 d j=I0 d k):j=k:=by unfold I0 at h; omega

theorem a3P:∀ {ts:List Ty} {x:DL ts} {d j:Nat} {hp:List (Nat×f9)} {l:AV} {hp':List (Nat×f9)},Q9 ts x d j hp=some (l,hp') →
  (∀ i,l.e8 i=true→∃ k,j≤k∧k<j+ts.length∧i=I0 d k) ∧
  ∃ h:Nat→Option f9,∀ h2,(∀ k,j≤k→k<j+ts.length→look (I0 d k) h2=none)→∃ h2',Q9 ts x d j h2=some (l,h2')∧∀ i,look i h2'=(match h i with|some e=>some e|none=>look i h2)∧((h i).isSome→∃ k,j≤k∧k<j+ts.length∧i=I0 d k)
 | [],x,d,j,hp,l,hp',h=>by
  simp only [Q9,Option.some.injEq,Prod.mk.injEq] at h
  obtain ⟨rfl,rfl⟩:=h
  exact ⟨by simp [AV.e8],fun _=>none,fun h2 _=>⟨h2,rfl,fun i=>⟨rfl,by simp⟩⟩⟩
 | u::ts,x,d,j,hp,l,hp',h=>by
  simp only [Q9] at h
  split at h
  ·rename_i hs
   split at h
   ·rename_i l' hp2 hl'
    cases h
    obtain ⟨k1,h,k2⟩:=a3P hl'
    refine ⟨fun i hi=>?_,h,fun h2 hh=>?_⟩
    ·obtain ⟨k,m1,m2,m3⟩:=k1 i (by simpa [AV.e8] using hi)
     exact ⟨k,by omega,by simp only [List.length_cons]; omega,m3⟩
    ·obtain ⟨h2',e1,e2⟩:=k2 h2 (fun k hk1 hk2=>hh k (by omega) (by simp only [List.length_cons]; omega))
     refine ⟨h2',by simp only [Q9,hs,e1],fun i=>⟨(e2 i).1,fun hi=>?_⟩⟩
     obtain ⟨k,m1,m2,m3⟩:=(e2 i).2 hi
     exact ⟨k,by omega,by simp only [List.length_cons]; omega,m3⟩
   ·cases h
  ·rename_i hs
   split at h
   ·cases h
   ·rename_i hlk
    split at h
    ·rename_i l' hp2 hl'
     cases h
     obtain ⟨k1,h,k2⟩:=a3P hl'
     refine ⟨fun i hi=>?_,fun i=>if i=I0 d j then some (a0L u x.1 (I0 d j)).1 else h i,fun h2 hh=>?_⟩
     ·simp only [AV.e8,Bool.or_eq_true] at hi
      rcases hi with hi|hi
      ·refine ⟨j,Nat.le_refl _,by simp,?_⟩
       rcases a6g u x.1 (I0 d j) with e|⟨g,_,_,_,e⟩
       ·rw [e] at hi; exact Nat.eq_of_beq_eq_true hi
       ·rw [e] at hi
        cases g with
        | none=>exact Nat.eq_of_beq_eq_true hi
        | some f =>
         have hi:(Nat.beq i (I0 d j) || false)=true:=hi
         rw [Bool.or_false] at hi
         exact Nat.eq_of_beq_eq_true hi
      ·obtain ⟨k,m1,m2,m3⟩:=k1 i hi
       exact ⟨k,by omega,by simp only [List.length_cons]; omega,m3⟩
     ·have e0:look (I0 d j) h2=none:=hh j (Nat.le_refl _) (by simp)
      obtain ⟨h2',e1,e2⟩:=k2 (put (I0 d j) (a0L u x.1 (I0 d j)).1 h2) (fun k hk1 hk2=>by
       rw [l7,if_neg (fun e=>by have:=b1X e; omega)]
       exact hh k (by omega) (by simp only [List.length_cons]; omega))
      refine ⟨h2',by simp only [Q9,hs,e0,e1],fun i=>⟨?_,fun hi=>?_⟩⟩
      ·rw [(e2 i).1,l7]
       by_cases he:i=I0 d j
       ·simp only [he,if_true]
        cases hh2:h (I0 d j) with
        | none=>rfl
        | some e =>
         exfalso
         obtain ⟨k,m1,m2,m3⟩:=(e2 (I0 d j)).2 (by rw [hh2]; rfl)
         have:=b1X m3; omega
       ·simp only [if_neg he]
      ·by_cases he:i=I0 d j
       ·exact ⟨j,Nat.le_refl _,by simp,he⟩
       ·simp only [if_neg he] at hi
        obtain ⟨k,m1,m2,m3⟩:=(e2 i).2 hi
        exact ⟨k,by omega,by simp only [List.length_cons]; omega,m3⟩
    ·cases h

theorem a3K {d:Nat}:∀ {n:Nat} {fr:List (Nat×AV)},(∀ k,k<n→U1 (I0 d k) fr=true)→Z8 d n fr=true
 | 0,_,_=>rfl
 | n+1,fr,h=>by
  simp only [Z8,Bool.and_eq_true]
  exact ⟨h n (by omega),a3K (fun k hk=>h k (by omega))⟩

theorem a3J {d:Nat}:∀ {n:Nat} {hp:List (Nat×f9)},a29 d n hp=true↔∀ k,k<n→look (I0 d k) hp=none
 | 0,_=>by simp [a29]
 | n+1,hp=>by
  simp only [a29,Bool.and_eq_true,Option.isNone_iff_eq_none,a3J (n:=n)]
  constructor
  ·rintro ⟨h1,h2⟩ k hk
   by_cases e:k=n
   ·subst e; exact h1
   ·exact h2 k (by omega)
  ·intro h; exact ⟨h n (by omega),fun k hk=>h k (by omega)⟩

theorem b5C {i:Nat} {l:AV} (h:l.one.e8 i=true):l.e8 i=true:=by
 unfold AV.one at h
 split at h
 ·simp [AV.e8,h]
 ·exact h

theorem a1o:∀ {ks:List PK} {y:DL (u6 ks)} {m:List Nat} {s1:St},wr ks y m s=some s1 →
  (m=[]∧∀ t,wr ks y m t=some t)∨∃ i ow e,m=[i]∧∀ t,wr ks y m t=some ((t.N0 i ow).o7 i e)
 | [],y,m,s1,h=>by
  cases m with
  | nil=>exact .inl ⟨rfl,fun t=>rfl⟩
  | cons i m=>cases h
 | k::ks,y,m,s1,h=>by
  cases k with
  | rw u =>
   match m,h with
   | [],h=>cases h
   | [i],h =>
    simp only [wr] at h
    split at h
    ·rename_i hw
     exact .inr ⟨i,false,.var u y.1,rfl,fun t=>by simp only [wr,hw]⟩
    ·cases h
   | i::j::m,h=>cases h
  | mu u =>
   match m,h with
   | [],h=>cases h
   | [i],h =>
    simp only [wr] at h
    split at h
    ·rename_i hw
     exact .inr ⟨i,true,.own (.d0 true u) y.1,rfl,fun t=>by simp only [wr,hw]⟩
    ·cases h
   | i::j::m,h=>cases h
  | v u=>cases m<;>exact a1o (ks:=ks) h
  | L5=>cases m<;>exact a1o (ks:=ks) h
  | R8 f n=>cases m<;>exact a1o (ks:=ks) h
  | el q=>cases m<;>exact a1o (ks:=ks) h
  | rd u=>cases m<;>exact a1o (ks:=ks) h
  | y7 f ts=>cases m<;>exact a1o (ks:=ks) h
  | own u=>cases m<;>exact a1o (ks:=ks) h

end
end Go.Ex

namespace Go.Ex

section
variable {E:Env} {s t:St}

theorem Z7 {c:Call} {x:Operand} (hx:x∈c.args.toList):x∈(Op.call c).operands.toList:=by
 simp only [Op.operands,Call.operands]; simp at hx ⊢; first|exact .inr hx|exact .inl hx

def gq (m:Nat) (v:AV):AV:=match Nat.beq m D9 with|true=>.any|false=>v
theorem a1x {s:St} {m:Nat}:s.ev (.tmp m)=gq m (s.get m):=rfl
theorem a1j {s:St} {m i:Nat} (h:(s.ev (.tmp m)).e8 i=true):(s.get m).e8 i=true:=by
 rw [a1x] at h
 unfold gq at h
 split at h
 ·cases h
 ·exact h
theorem J1 {s t:St} {m:Nat} (h:t.get m=s.get m):t.ev (.tmp m)=s.ev (.tmp m):=congrArg (gq m) h
theorem b2m {s:St} {m:Nat} {v:AV} (hb:Nat.beq m D9=false) (h:s.get m=v):s.ev (.tmp m)=v:=by
 rw [a1x,h]; unfold gq; rw [hb]
theorem S4 {s:St} {m:Nat} {v:AV} (h:s.ev (.tmp m)=v) (hv:v≠.any):s.get m=v:=by
 rw [a1x] at h
 unfold gq at h
 split at h
 ·exact absurd h.symm hv
 ·exact h
theorem a7d {s:St} {m:Nat} {v:AV} (h:s.ev (.tmp m)=v) (hv:v≠.any):Nat.beq m D9=false:=by
 rw [a1x] at h
 unfold gq at h
 split at h
 ·exact absurd h.symm hv
 ·assumption

theorem a4T {o:Oper} {c:Call} (ho:o.op=.call c) {f:Operand} (hc:c.callee=.value f) {W:OR→OR} {π:Prop→Prop} (hW:∀ r,(W r).get=r.get.map (fun x=>(π x.1,x.2.1,x.2.2))) {g:FuncId} {caps fv:AV} (hg:s.ev f=fv) (hcm:∀ i,caps.e8 i=true→fv.e8 i=true)
  (he:∀ t,t.ev f=fv→l4 E o t=W (H7 E g ((t.C8 c.args.toList).app caps) o.dst t))
  (hT:i7 E o s=(match look g E.G8 with
    | some c'=>(match c'.ps.any PK.i7 with
     | false=>[]
     | true=>((s.C8 c.args.toList).app caps).C2)
    | none=>[])) {p:Prop} {v:AV} {s1:St} (h:(l4 E o s).get=some (p,v,s1)):y8 E o s p v:=by
 have hfo:f∈o.op.operands.toList:=by rw [ho]; simp [Op.operands,Call.operands,hc]
 have hxo:∀ x∈c.args.toList,x∈o.op.operands.toList:=fun x hx=>by rw [ho]; exact Z7 hx
 rw [he s hg,hW] at h
 obtain ⟨q,h,hq⟩:∃ q,(H7 E g ((s.C8 c.args.toList).app caps) o.dst s).get=some (q,v,s1)∧π q=p:=by
  cases hr:(H7 E g ((s.C8 c.args.toList).app caps) o.dst s).get with
  | none=>rw [hr] at h; cases h
  | some x =>
   rw [hr] at h
   simp only [Option.map_some,Option.some.injEq,Prod.mk.injEq] at h
   exact ⟨x.1,by rw [← h.2.1,← h.2.2],h.1⟩
 have hargs:∀ i,((s.C8 c.args.toList).app caps).e8 i=true→∃ x∈o.op.operands.toList,(s.ev x).e8 i=true:=by
  intro i hi
  rcases a31 hi with hi|hi
  ·obtain ⟨x,hx,hi⟩:=T3 hi; exact ⟨x,hxo x hx,hi⟩
  ·exact ⟨f,hfo,by rw [hg]; exact hcm i hi⟩
 generalize hav:(s.C8 c.args.toList).app caps=av at h hargs hT
 unfold H7 at h
 split at h
 ·cases h
 ·rename_i c' hlk
  rw [hlk] at hT
  simp only at hT
  split at h
  ·cases h
  ·rename_i x gs m hx
   obtain ⟨hm1,hm2⟩:=a8w hx
   have hgT:∀ i,i∈gs++m→i∈i7 E o s:=by
    intro i hi
    rw [hT]
    cases hp:c'.ps.any PK.i7 with
    | true=>exact E7.2 (hm1 i hi)
    | false=>obtain ⟨r1,r2⟩:=hm2 hp; rw [r1,r2] at hi; cases hi
   split at h
   ·cases h
   ·rename_i hcond
    obtain ⟨hcond1,hcond2⟩:=(Bool.and_eq_true_iff).1 hcond
    obtain ⟨hnm,hnr⟩:=(Bool.and_eq_true_iff).1 hcond2
    split at h
    ·cases h
    ·rename_i s2 hwr
     split at h
     ·cases h
     ·rename_i hm
      split at h
      ·rename_i l hp hlay
       simp only [OR.get,Option.some.injEq,Prod.mk.injEq] at h
       obtain ⟨rfl,rfl,_⟩:=h
       obtain ⟨k3,h3,k4⟩:=a3P hlay
       simp only [Nat.zero_add,Nat.zero_le,true_and] at k3 k4
       have hids:∀ {t:St},K4 t ((List.range c'.rs.length).map (I0 (o.dst.getD 0)))→∀ k,k<c'.rs.length→look (I0 (o.dst.getD 0) k) t.hp=none:=fun hn k hk=>(hn _ (List.mem_map.2 ⟨k,by simpa using hk,rfl⟩)).1
       -- what is written, and by what the slots turn
       have hw:∃ (f:AV→AV) (h:Nat→Option f9),Trim (i7 E o s) f∧(∀ i,i∉i7 E o s→h i=none)∧∀ t,uniq t.fr→(∀ i∈i7 E o s,look i t.hp=look i s.hp)→∃ t2,wr c'.ps (c'.out x) m (St.p7 gs t)=some t2∧uniq t2.fr∧(∀ n,look n t2.fr=(look n t.fr).map f)∧∀ i,look i t2.hp=if i∈i7 E o s then h i else look i t.hp:=by
        rcases a1o hwr with ⟨rfl,hw⟩|⟨i0,ow,e,rfl,hw⟩
        ·refine ⟨a0Q gs,fun i=>if i∈i7 E o s then (if i∈gs then none else look i s.hp) else none,(Trim.p7 gs).mono (fun i hi=>hgT i (by simp [hi])),fun i hi=>by simp [hi],fun t hu ha=>⟨_,hw _,a0D hu,fun n=>a0K,fun i=>?_⟩⟩
         rw [F6]
         by_cases h1:i∈gs
         ·simp [h1,hgT i (by simp [h1])]
         ·by_cases h2:i∈i7 E o s
          ·simp [h1,h2,ha i h2]
          ·simp [h1,h2]
        ·have hi0:i0∈i7 E o s:=hgT i0 (by simp)
         refine ⟨fun u=>AV.map (AV.a0M i0 ow) (a0Q gs u),fun i=>if i∈i7 E o s then (if i=i0 then some e else if i∈gs then none else look i s.hp) else none,
          Trim.comp (Trim.p7 gs) (Trim.N0 i0 ow) (fun i hi=>hgT i (by simp [hi])) (by simpa using hi0),fun i hi=>by simp [hi],fun t hu ha=>⟨_,hw _,a1p (a0D hu),fun n=>?_,fun i=>?_⟩⟩
         ·show look n (mapA _ (St.p7 gs t).fr)=_
          rw [D3,a0K,Option.map_map]; rfl
         ·show look i (Ex.put i0 e (St.p7 gs t).hp)=_
          rw [l7,F6]
          by_cases h0:i=i0
          ·subst h0; simp [hi0]
          ·by_cases h1:i∈gs
           ·simp [h0,h1,hgT i (by simp [h1])]
           ·by_cases h2:i∈i7 E o s
            ·simp [h0,h1,h2,ha i h2]
            ·simp [h0,h1,h2]
       obtain ⟨f0,h0,w1,w2,w3⟩:=hw
       refine ⟨(List.range c'.rs.length).map (I0 (o.dst.getD 0)),f0,fun i=>match h3 i with|some e=>some e|none=>h0 i,w1,?_,?_,?_,?_⟩
       ·intro n hn
        obtain ⟨k,hk,rfl⟩:=List.mem_map.1 hn
        exact ⟨a3J.1 hnr k (by simpa using hk),fun m w hw=>a0k (a1h hnm k (by simpa using hk)) hw⟩
       ·intro n hn
        obtain ⟨k,_,rfl⟩:=List.mem_map.1 hn
        exact b6M _ _
       ·intro i hi
        obtain ⟨k,m2,rfl⟩:=k3 i (b5C hi)
        exact .inr (List.mem_map.2 ⟨k,by simpa using m2,rfl⟩)
       ·intro t hu ha hn
        have hal:Alike s t av:=fun i hi=>by obtain ⟨x,hx,hm⟩:=hargs i hi; exact (ha x hx).2 i hm
        obtain ⟨t2,e1,e2,e3,e4⟩:=w3 t hu (fun i hi=>a0t ha hi)
        have hT0:∀ k,k<c'.rs.length→I0 (o.dst.getD 0) k∉i7 E o s:=by
         intro k hk hmem
         obtain ⟨x,hx,hm⟩:=a3v hmem
         obtain ⟨m',rfl,hm'⟩:∃ m',x=.tmp m'∧(s.get m').e8 (I0 (o.dst.getD 0) k)=true:=by
          cases x with
          | tmp m'=>exact ⟨m',rfl,a1j hm⟩
          | const v =>
           exfalso
           simp only [St.ev] at hm
           unfold ofConst at hm
           split at hm
           ·split at hm<;>cases hm
           ·cases hm
           ·split at hm<;>cases hm
           ·cases hm
          | global g=>cases hm
          | func f=>cases hm
         simp only [St.get] at hm'
         cases hl:look m' s.fr with
         | none=>rw [hl] at hm'; cases hm'
         | some w =>
          rw [hl] at hm'
          have:=a0k (a1h hnm k hk) hl
          simp only [Option.getD_some] at hm'
          rw [hm'] at this; cases this
        have hnone:∀ k,k<c'.rs.length→look (I0 (o.dst.getD 0) k) t2.hp=none:=by
         intro k hk
         rw [e4,if_neg (hT0 k hk)]
         exact hids hn k hk
        obtain ⟨h2',r1,r2⟩:=k4 t2.hp (fun k _ hk=>hnone k hk)
        have hm':Z8 (o.dst.getD 0) c'.rs.length t2.fr=true:=a3K (fun k hk=>a2D e2 (fun n w hw=>by
         rw [e3] at hw
         cases hl:look n t.fr with
         | none=>rw [hl] at hw; cases hw
         | some u =>
          rw [hl] at hw
          cases hw
          cases hmm:(f0 u).e8 (I0 (o.dst.getD 0) k) with
          | false=>rfl
          | true =>
           have:=(hn (I0 (o.dst.getD 0) k) (List.mem_map.2 ⟨k,by simpa using hk,rfl⟩)).2 n u hl
           rw [w1.e8 u hmm] at this; cases this))
        have hnm':Z8 (o.dst.getD 0) c'.rs.length t.fr=true:=a3K (fun k hk=>a2D hu (hn _ (List.mem_map.2 ⟨k,by simpa using hk,rfl⟩)).2)
        have hnr':a29 (o.dst.getD 0) c'.rs.length t.hp=true:=a3J.2 (fun k hk=>hids hn k hk)
        have hev:(t.C8 c.args.toList).app caps=av:=by
         rw [a3g (s:=s) (t:=t) (fun x hx=>(ha x (hxo x hx)).1)]; exact hav
        have hca:H7 E g av o.dst t=.B1 (c'.pre x) l.one { t2 with hp:=h2' }:=by
         unfold H7
         simp only [hlk,b2x (s:=s) (t:=t) hal,hx,hcond1,hnm',hnr',Bool.and_self,e1,hm',r1]
        refine ⟨{ t2 with hp:=h2' },?_,e2,⟨e3,fun i=>?_⟩⟩
        ·rw [he t ((ha f hfo).1.trans hg),hW,hev,hca]; simp only [OR.get,Option.map_some,hq]
        ·show look i h2'=_
         rw [(r2 i).1,e4]
         cases hh:h3 i with
         | some e =>
          obtain ⟨k,hk,hik⟩:=(r2 i).2 (by rw [hh]; rfl)
          simp only
          rw [if_pos (.inr (List.mem_map.2 ⟨k,by simpa using hk,hik.symm⟩))]
         | none =>
          simp only
          by_cases h1:i∈i7 E o s
          ·rw [if_pos h1,if_pos (.inl h1)]
          ·rw [if_neg h1]
           split
           ·rename_i hi
            rcases hi with hi|hi
            ·exact absurd hi h1
            ·obtain ⟨k,hk,rfl⟩:=List.mem_map.1 hi
             rw [hids hn k (by simpa using hk),w2 _ h1]
           ·rfl
      ·cases h

theorem b5Y {o:Oper} {c:Call} (ho:o.op=.call c) {f:Operand} (hc:c.callee=.value f) {p:Prop} {v:AV} {s1:St} (h:(l4 E o s).get=some (p,v,s1)):y8 E o s p v:=by
 have key:(∃ g caps,s.ev f=.y7 g caps)∨(∃ g b,s.ev f=.val (.fn g) b)∨∃ g t y,s.ev f=.val (.box false (some g) t) y:=by
  unfold l4 at h
  rw [ho] at h
  simp only [hc] at h
  split at h
  ·exact .inl ⟨_,_,by assumption⟩
  ·exact .inr (.inl ⟨_,_,by assumption⟩)
  ·exact .inr (.inr ⟨_,_,_,by assumption⟩)
  ·cases h
 rcases key with ⟨g,caps,hg⟩|⟨g,b,hg⟩|⟨g,t0,y0,hg⟩
 ·refine a4T ho hc (W:=fun r=>r) (π:=fun q=>q) (g:=g) (caps:=caps) (fun r=>by cases r<;>rfl) hg (fun i hi=>hi) (fun t ht=>?_) ?_ h
  ·unfold l4
   rw [ho]
   simp only [hc,ht]
  ·unfold i7; rw [ho]; simp only [hc,hg]; rfl
 ·refine a4T ho hc (W:=fun r=>r.a42 ((b:Bool)=true)) (π:=fun q=>(b:Bool)=true∧q) (g:=g) (caps:=.nil) (fun r=>by cases r<;>rfl) hg (fun i hi=>by cases hi) (fun t ht=>?_) ?_ h
  ·unfold l4
   rw [ho]
   simp only [hc,ht]
  ·unfold i7; rw [ho]; simp only [hc,hg]; rfl
 ·refine a4T ho hc (W:=fun r=>r.a42 ((y0:Option t0.den).isSome=true)) (π:=fun q=>(y0:Option t0.den).isSome=true∧q) (g:=g) (caps:=.cons (.N1 t0 (Option.getD (y0:Option t0.den) t0.n6)) .nil) (fun r=>by cases r<;>rfl) hg (fun i hi=>by cases hi) (fun t ht=>?_) ?_ h
  ·unfold l4
   rw [ho]
   simp only [hc,ht]
  ·unfold i7; rw [ho]; simp only [hc,hg]; rfl

end
end Go.Ex

namespace Go.Ex

section
variable {E:Env} {s t:St}

theorem b2J {T:TypeId} {i:Nat} {p:List Step} {x:AV} {q:Prop} {v:AV} {s1:St} (h:(D5 E T i p x s).get=some (q,v,s1)) :
  v=.raw undef∧∃ g ow e,(∀ j∈g,x.e8 j=true)∧∀ t:St,t.obj i=s.obj i→Alike s t x→(D5 E T i p x t).get=some (q,.raw undef,((St.p7 g t).kill i ow p).o7 i e):=by
 unfold D5 at h
 split at h
 ·cases h
 ·rename_i e hob
  split at h
  ·cases h
  ·rename_i u y hg
   split at h
   ·cases h
   ·rename_i hck
    have base:∀ t:St,t.obj i=s.obj i→t.obj i=some e:=fun t ht=>ht.trans hob
    split at h
    ·split at h
     ·split at h
      ·rename_i r hset
       cases h
       refine ⟨rfl,[],e.kd,e.w4 r,by simp,fun t ht _=>?_⟩
       unfold D5
       simp only [base t ht,hg,hck,hset]
       rfl
      ·cases h
     ·split at h
      ·rename_i r hset
       cases h
       refine ⟨rfl,[],e.kd,e.w4 r,by simp,fun t ht _=>?_⟩
       unfold D5
       simp only [base t ht,hg,hck,hset]
       rfl
      ·cases h
     ·cases h
    ·rename_i j q' lo hi
     split at h
     ·split at h
      ·rename_i r hset
       split at h
       ·rename_i hij
        cases h
        refine ⟨rfl,[],e.kd,e.w4 r,by simp,fun t ht _=>?_⟩
        unfold D5
        simp only [base t ht,hg,hck,hset,hij]
        rfl
       ·cases h
      ·cases h
     ·cases h
    ·rename_i x' hx1 hx2
     split at h
     ·rename_i z g hgv
      split at h
      ·rename_i r hset
       split at h
       ·rename_i hij
        cases h
        refine ⟨rfl,g,e.kd,e.w4 r,a1P hgv,fun t ht hal=>?_⟩
        have hgt:=(a0r hal).trans hgv
        unfold D5
        simp only [base t ht,hg,hck]
        simp only [hgt,hset,hij]
        rfl
       ·cases h
      ·cases h
     ·rename_i hgv
      split at h
      ·rename_i j q'
       split at h
       ·rename_i u' y' hpt
        split at h
        ·rename_i r hset
         split at h
         ·rename_i hij
          cases h
          refine ⟨rfl,[],e.kd,e.w4 r,by simp,fun t ht hal=>?_⟩
          have hgt:=(a0r hal).trans hgv
          have hpt2:=(F2 (p:=q') (hal j (by simp [AV.e8]))).trans hpt
          unfold D5
          simp only [base t ht,hg,hck]
          simp only [hgt,hpt2,hset,hij]
          rfl
         ·cases h
        ·cases h
       ·cases h
      ·cases h

theorem b4h {o:Oper} {T:TypeId} {a x:Operand} (ho:o.op=.store T a x) {p:Prop} {v:AV} {s1:St} (h:(l4 E o s).get=some (p,v,s1)):y8 E o s p v:=by
 have hptr:∃ i q,s.ev a=.ptr i q:=by
  unfold l4 at h
  rw [ho] at h
  simp only at h
  split at h
  ·exact ⟨_,_,by assumption⟩
  ·cases h
 obtain ⟨i,q,hp⟩:=hptr
 have ha:∀ t,t.ev a=.ptr i q→l4 E o t=D5 E T i q (t.ev x) t:=by
  intro t ht
  unfold l4
  rw [ho]
  simp only [ht]
 rw [ha s hp] at h
 obtain ⟨rfl,g,ow,e,hg,k⟩:=b2J h
 have hT:i7 E o s=(s.ev a).C2++(s.ev x).C2:=by unfold i7; rw [ho]
 have hiT:i∈i7 E o s:=by rw [hT,hp]; simp [AV.C2]
 have hgT:∀ j∈g,j∈i7 E o s:=fun j hj=>by rw [hT]; exact List.mem_append_right _ (E7.2 (hg j hj))
 have hao:a∈o.op.operands.toList:=by rw [ho]; simp [Op.operands]
 have hxo:x∈o.op.operands.toList:=by rw [ho]; simp [Op.operands]
 refine ⟨[],fun u=>AV.kill i ow q (a0Q g u),fun j=>if j=i then some e else if j∈g then none else look j s.hp,Trim.comp (Trim.p7 g) (Trim.kill i ow q) hgT (by simpa using hiT),by simp [K4],by simp,by simp [AV.e8],?_⟩
 intro t hu hag _
 have hev:=(hag x hxo).1
 have hobj:t.obj i=s.obj i:=(hag a hao).2 i (by rw [hp]; simp [AV.e8])
 refine ⟨((St.p7 g t).kill i ow q).o7 i e,?_,a1p (a0D hu),⟨fun n=>?_,fun j=>?_⟩⟩
 ·rw [ha t ((hag a hao).1.trans hp),hev]
  exact k t hobj (fun j hj=>(hag x hxo).2 j hj)
 ·show look n (mapA _ (St.p7 g t).fr)=_
  rw [D3,a0K,Option.map_map]; rfl
 ·show look j (Ex.put i e (St.p7 g t).hp)=_
  rw [l7,F6]
  by_cases h0:j=i
  ·subst h0; simp [hiT]
  ·by_cases h1:j∈g
   ·simp [h0,h1,hgT j h1]
   ·by_cases h2:j∈i7 E o s
    ·simp [h0,h1,h2,a0t hag h2]
    ·simp [h0,h1,h2]

theorem a5X {T:TypeId} {x y:AV} {dst:Option Nat} {p:Prop} {v:AV} {s1:St} (h:(U6 E T x y dst s).get=some (p,v,s1)) :
  ∃ d g u l,dst=some d∧(∀ j∈g,x.e8 j=true∨y.e8 j=true)∧∀ t,Alike s t x→Alike s t y→U6 E T x y dst t=(St.lay t d g u l).n8 p:=by
 unfold U6 at h
 split at h
 ·rename_i q t0 bts d hT
  split at h
  ·cases h
  ·rename_i tt m g happ
   have hgm:=a8A happ
   have ha:∀ t,Alike s t y→y.T6 t t0=some (⟨tt,m⟩,g):=fun t ht=>(a5z ht).trans happ
   simp only at h
   split at h
   ·split at h
    ·rename_i hty
     obtain rfl:=a2d h (fun _ _ _=>M9)
     refine ⟨d,[]++g,.d0 true t0,(([]:List t0.den)++O6 hty m),rfl,by simpa using fun j hj=>.inr (hgm j hj),fun t _ hy=>?_⟩
     unfold U6
     simp only [hT,ha t hy,hty,dif_pos]
    ·cases h
   ·split at h
    ·rename_i hck
     split at h
     ·rename_i hty
      obtain rfl:=a2d h (fun _ _ _=>M9)
      refine ⟨d,[]++g,.d0 true t0,(([]:List t0.den)++O6 hty m),rfl,by simpa using fun j hj=>.inr (hgm j hj),fun t _ hy=>?_⟩
      unfold U6
      simp only [hT,ha t hy,hty,dif_pos,hck]
     ·cases h
    ·cases h
   ·rename_i hx1 hx2
    split at h
    ·rename_i u l f hgv
     split at h
     ·rename_i hu
      split at h
      ·rename_i hty
       obtain rfl:=a2d h (fun _ _ _=>M9)
       refine ⟨d,f++g,.d0 true t0,(O6 hu l++O6 hty m),rfl,?_,fun t hx hy=>?_⟩
       ·intro j hj
        rcases List.mem_append.1 hj with hj|hj
        ·exact .inl (a2I hgv j hj)
        ·exact .inr (hgm j hj)
       ·have hgt:=(a5u hx).trans hgv
        unfold U6
        simp only [hT,ha t hy]
        simp only [hgt,hu,hty,dif_pos]
      ·cases h
     ·cases h
    ·cases h
 ·cases h

theorem b5b {T:TypeId} {x y:AV} {dst:Option Nat} {p:Prop} {v:AV} {s1:St} (h:(a34 E T x y dst s).get=some (p,v,s1)) :
  ∃ d g u l,dst=some d∧(∀ j∈g,x.e8 j=true∨y.e8 j=true)∧∀ t,Alike s t x→Alike s t y→a34 E T x y dst t=(St.lay t d g u l).n8 p:=by
 unfold a34 at h
 split at h
 ·rename_i q t0 bts d i hT
  split at h
  ·rename_i u z tt m hob happ
   split at h
   ·rename_i hu
    split at h
    ·rename_i ht
     split at h
     ·rename_i hsh
      obtain rfl:=a2d h (fun _ _ _=>M9)
      refine ⟨d,[i],.r7 t0,(2,O6 hu z.2.1++O6 ht m,(O6 hu z.2.2).drop m.length),rfl,by simp [AV.e8],fun t hx hy=>?_⟩
      have ho:t.obj i=some (.own (.r7 u) z):=(hx i (by simp [AV.e8])).trans hob
      have ha:y.T6 t t0=some (⟨tt,m⟩,[]):=(a5z hy).trans happ
      unfold a34
      simp only [hT,ho,ha,hu,ht,hsh,dif_pos]
     ·cases h
    ·cases h
   ·cases h
  ·cases h
 ·cases h
theorem b52 {T:TypeId} {x y:AV} {dst:Option Nat} {p:Prop} {v:AV} {s1:St} (h:(a33 E T x y dst s).get=some (p,v,s1)) :
  ∃ d g u l,dst=some d∧(∀ j∈g,x.e8 j=true∨y.e8 j=true)∧∀ t,Alike s t x→Alike s t y→a33 E T x y dst t=(St.lay t d g u l).n8 p:=by
 have hs:∀ t,Alike s t x→a9a t x=a9a s x:=fun t ht=>by
  unfold a9a
  split
  ·rw [ht _ (by simp [AV.e8])]
  ·rfl
 unfold a33 at h
 split at h
 ·rename_i hc
  obtain ⟨d,g,u,l,h1,h2,h3⟩:=b5b h
  exact ⟨d,g,u,l,h1,h2,fun t hx hy=>by unfold a33; rw [hs t hx,hc]; exact h3 t hx hy⟩
 ·rename_i hc
  obtain ⟨d,g,u,l,h1,h2,h3⟩:=a5X h
  exact ⟨d,g,u,l,h1,h2,fun t hx hy=>by unfold a33; rw [hs t hx,hc]; exact h3 t hx hy⟩

theorem a4L {i:Nat} {p:List Step} {lo:Nat} {u:Ty} {m:List u.den} {s1:St} (h:X9 s i p lo u m=some s1):∃ ow e',∀ t:St,t.obj i=s.obj i→X9 t i p lo u m=some ((t.N0 i ow).o7 i e'):=by
 unfold X9 at h
 split at h
 ·rename_i e he
  split at h
  ·rename_i u' l hg
   split at h
   ·rename_i hu
    split at h
    ·rename_i r hset
     split at h
     ·rename_i hc
      refine ⟨e.O5,e.w4 r,fun t ht=>?_⟩
      unfold X9
      rw [ht,he]
      simp only [hg,hu,dif_pos]
      subst hu
      simp only [hset,hc]
     ·cases h
    ·cases h
   ·cases h
  ·cases h
 ·cases h
theorem y8.b6A {o:Oper} {p:Prop} {v:AV} {i:Nat} {ow:Bool} {e':f9} (hi:i∈i7 E o s) (hv:∀ j,v.e8 j=true→∃ x∈o.op.operands.toList,(s.ev x).e8 j=true) (hr:∀ t,R4 s t o.op.operands.toList→(l4 E o t).get=some (p,v,(t.N0 i ow).o7 i e')):y8 E o s p v:=by
 refine ⟨[],AV.map (AV.a0M i ow),fun j=>if j=i then some e' else look j s.hp,(Trim.N0 i ow).mono (by simpa using hi),by simp [K4],by simp,fun j hj=>.inl (hv j hj),fun t hu ha _=>⟨_,hr t ha,a1p hu,fun n=>?_,fun j=>?_⟩⟩
 ·show look n (mapA _ t.fr)=_
  rw [D3]
 ·show look j (Ex.put i e' t.hp)=_
  rw [l7]
  by_cases h1:j=i
  ·subst h1; simp [hi]
  ·rw [if_neg h1]
   by_cases h2:j∈i7 E o s
   ·rw [if_pos (.inl h2),if_neg h1]; exact a0t ha h2
   ·rw [if_neg (by simp [h2])]
theorem y8.fill {o:Oper} {p:Prop} {v:AV} {i:Nat} {ow:Bool} {e':f9} (hi:i∈i7 E o s) (hv:∀ j,v.e8 j=false) (hr:∀ t,R4 s t o.op.operands.toList→(l4 E o t).get=some (p,v,(t.N0 i ow).o7 i e')):y8 E o s p v :=
 .b6A hi (fun j hj=>by rw [hv j] at hj; cases hj) hr

theorem b3L {o:Oper} {c:Call} (ho:o.op=.call c) (hc:c.callee=.builtin .append) {p:Prop} {v:AV} {s1:St} (h:(l4 E o s).get=some (p,v,s1)):y8 E o s p v:=by
 have hxo:∀ x∈c.args.toList,x∈o.op.operands.toList:=fun x hx=>by rw [ho]; exact Z7 hx
 have hT:i7 E o s=(s.C8 c.args.toList).C2:=by unfold i7; rw [ho]; simp only [hc]
 have key:(∃ x y T F,(F=U6 E T∨F=a33 E T)∧c.args.toList=[x,y]∧(∀ t,t.ev x=s.ev x→t.ev y=s.ev y→l4 E o t=F (t.ev x) (t.ev y) o.dst t))∨(∃ x y T,c.args.toList=[x,y]∧(∀ t,t.ev x=s.ev x→t.ev y=s.ev y→l4 E o t=U5 E T (t.ev x) (t.ev y) t))∨(∃ x y T,c.args.toList=[x,y]∧∀ t,l4 E o t=a14 E T (t.ev x) (t.ev y) o.dst t):=by
  unfold l4 at h
  rw [ho] at h
  simp only [hc] at h
  split at h
  ·rename_i x y T U hargs htys
   split at h
   ·rename_i hU
    cases hs2:(s.ev x).b6m (s.ev y) with
    | true=>exact .inr (.inl ⟨x,y,T,hargs,fun t e1 e2=>by unfold l4; rw [ho]; simp only [hc,hargs,htys,hU]; rw [e1,e2,hs2]⟩)
    | false=>exact .inl ⟨x,y,T,_,.inr rfl,hargs,fun t e1 e2=>by unfold l4; rw [ho]; simp only [hc,hargs,htys,hU]; rw [e1,e2,hs2]⟩
   ·rename_i hU
    exact .inl ⟨x,y,T,_,.inl rfl,hargs,fun t _ _=>by unfold l4; rw [ho]; simp only [hc,hargs,htys,hU]⟩
   ·rename_i hU
    exact .inr (.inr ⟨x,y,T,hargs,fun t=>by unfold l4; rw [ho]; simp only [hc,hargs,htys,hU]⟩)
   ·cases h
  ·cases h
 rcases key with key|⟨x,y,T,hargs,he⟩|⟨x,y,T,hargs,he⟩
 rotate_left
 ·have hxm:x∈o.op.operands.toList:=hxo x (by rw [hargs]; simp)
  have hym:y∈o.op.operands.toList:=hxo y (by rw [hargs]; simp)
  rw [he s rfl rfl] at h
  have hI:=b1F h
  simp only at hI
  obtain ⟨i,lo,hi,q,t0,bts,u,m,l,hx,hT1,happ,hob,hf,hck,rfl,rfl⟩:=a5W hI
  obtain ⟨ow,e',hfl⟩:=a4L hf
  have hm:(s.ev x).e8 i=true:=by rw [hx]; simp [AV.e8]
  refine y8.b6A (i:=i) (ow:=ow) (e':=e') (by rw [hT,E7,hargs]; simp [St.C8,AV.e8,hm]) (fun j hj=>⟨x,hxm,by rw [hx]; exact hj⟩) (fun t ha=>?_)
  rw [he t (ha x hxm).1 (ha y hym).1,(ha x hxm).1,(ha y hym).1,hx]
  have hobt:t.obj i=some (.own (.d0 true u) l):=((ha x hxm).2 i hm).trans hob
  unfold U5
  simp only [hT1,(a5z (u:=t0) (ha y hym).2).trans happ,hobt,hfl t ((ha x hxm).2 i hm),hck,decide_true]
  rfl
 ·have h0:=h
  rw [he] at h
  have hxm:x∈o.op.operands.toList:=hxo x (by rw [hargs]; simp)
  have hym:y∈o.op.operands.toList:=hxo y (by rw [hargs]; simp)
  unfold a14 at h
  split at h
  ·rename_i t0 bts d k n hT1 hd1 hx1 hy1
   obtain rfl:=a2d h (fun _ _ _=>M9)
   refine y8.lay hd1 (g:=[]) (u:=.d0 true t0) (x:=List.replicate n.toNat t0.n6) (W:=OR.n8 (0≤n∧n≤140737488355328∧n*(t0.wb:Nat)≤140737488355328)) (fun _ _=>rfl) (fun _=>rfl) (by simp) h0 (fun t ha=>?_)
   rw [he,(ha x hxm).1,(ha y hym).1]
   unfold a14
   simp only [hT1,hd1,hx1,hy1]
  ·cases h
 obtain ⟨x,y,T,F,hF,hargs,he⟩:=key
 have h0:=h
 rw [he s rfl rfl] at h
 have hloc:∃ d g u l,o.dst=some d∧(∀ j∈g,(s.ev x).e8 j=true∨(s.ev y).e8 j=true)∧∀ t,Alike s t (s.ev x)→Alike s t (s.ev y)→F (s.ev x) (s.ev y) o.dst t=(St.lay t d g u l).n8 p:=by
  rcases hF with rfl|rfl
  ·exact a5X h
  ·exact b52 h
 obtain ⟨d,g,u,l,hd,hg,k⟩:=hloc
 have hxm:x∈o.op.operands.toList:=hxo x (by rw [hargs]; simp)
 have hym:y∈o.op.operands.toList:=hxo y (by rw [hargs]; simp)
 refine y8.lay hd (g:=g) (u:=u) (x:=l) (W:=OR.n8 p) (fun _ _=>rfl) (fun _=>rfl) ?_ h0 (fun t ha=>?_)
 ·intro j hj
  rw [hT,E7,hargs]
  rcases hg j hj with h|h<;>simp [St.C8,AV.e8,h]
 ·rw [he t (ha x hxm).1 (ha y hym).1,(ha x hxm).1,(ha y hym).1]
  exact k t (ha x hxm).2 (ha y hym).2

end
end Go.Ex

namespace Go.Ex

section
variable {E:Env} {s t:St}

theorem ag {o:Oper} {x:Operand} (h:R4 s t o.op.operands.toList) (hx:x∈o.op.operands.toList):t.ev x=s.ev x∧Alike s t (s.ev x):=⟨(h x hx).1,(h x hx).2⟩

theorem ob1 {i:Nat} {p:List Step} (h:Alike s t (.ptr i p)):t.obj i=s.obj i:=h i (by simp [AV.e8])
theorem ob2 {i:Nat} {p:List Step} (h:Alike s t (.at_ i p)):t.obj i=s.obj i:=h i (by simp [AV.e8])
theorem ob3 {i:Nat} {p:List Step} {a b:Int} (h:Alike s t (.sub i p a b)):t.obj i=s.obj i:=h i (by simp [AV.e8])

theorem a8X {o:Oper} {T:TypeId} {x:Operand} {n:Nat} (ho:o.op=.fieldAddr T x n) {p:Prop} {v:AV} {s1:St} (h:(l4 E o s).get=some (p,v,s1)):y8 E o s p v:=by
 have hx:x∈o.op.operands.toList:=by rw [ho]; simp [Op.operands]
 refine .ro h (fun t ha=>?_) (fun i hi=>⟨x,hx,?_⟩)
 ·obtain ⟨e1,e2⟩:=ag ha hx
  unfold l4
  rw [ho]
  simp only [e1]
  cases hx:s.ev x with
  | ptr i q =>
   rw [hx] at e2
   simp only [F2 (e2 i (by simp [AV.e8]))]
   repeat' (first|rfl|split)
  | val u z =>
   cases u with
   | box o0 g0 u0=>cases o0<;>cases g0<;>first|rfl|(dsimp only; repeat' (first|rfl|split))
   | _=>first|rfl|(dsimp only; repeat' (first|rfl|split))
  | _=>first|rfl|(dsimp only; split<;>rfl)
 ·unfold l4 at hi
  rw [ho] at hi
  simp only at hi
  cases hx:s.ev x with
  | ptr j q =>
   rw [hx] at hi
   simp only at hi
   repeat' (split at hi)
   all_goals first|exact hi|(cases hi; done)
  | val u z =>
   rw [hx] at hi
   exfalso
   cases u with
   | box o0 g0 u0=>cases o0<;>cases g0<;>first|(cases hi; done)|(simp only at hi; repeat' (split at hi))<;>(cases hi)
   | _=>first|(cases hi; done)|(simp only at hi; repeat' (split at hi))<;>(cases hi)
  | _ =>
   rw [hx] at hi
   simp only at hi
   repeat' (split at hi)
   all_goals first|exact hi|(cases hi; done)

theorem a8W {o:Oper} {T:TypeId} {x y:Operand} (ho:o.op=.indexAddr T x y) {p:Prop} {v:AV} {s1:St} (h:(l4 E o s).get=some (p,v,s1)):y8 E o s p v:=by
 have hxo:x∈o.op.operands.toList:=by rw [ho]; simp [Op.operands]
 have hyo:y∈o.op.operands.toList:=by rw [ho]; simp [Op.operands]
 refine .ro h (fun t ha=>?_) (fun i hi=>⟨x,hxo,?_⟩)
 ·obtain ⟨e1,e2⟩:=ag ha hxo
  have e3:=(ag ha hyo).1
  unfold l4
  rw [ho]
  simp only [e1,e3]
  split
  ·rename_i hx _; rw [hx] at e2; (first|simp only [F2 (ob1 e2)]|simp only [F2 (ob2 e2)]) ; (generalize s.part _ _=pt; cases pt with|none=>rfl|some q=>(obtain ⟨u,z⟩:=q; cases u<;>first|rfl|(dsimp only; repeat' (first|rfl|split))|(rename_i o0 _; cases o0<;>first|rfl|(dsimp only; repeat' (first|rfl|split)))))
  ·repeat' (first|rfl|split)
  ·repeat' (first|rfl|split)
  ·rename_i hx _; rw [hx] at e2; (first|simp only [F2 (ob1 e2)]|simp only [F2 (ob2 e2)]) ; (generalize s.part _ _=pt; cases pt with|none=>rfl|some q=>(obtain ⟨u,z⟩:=q; cases u<;>first|rfl|(dsimp only; repeat' (first|rfl|split))|(rename_i o0 _; cases o0<;>first|rfl|(dsimp only; repeat' (first|rfl|split)))))
  ·rename_i hx _; rw [hx] at e2; simp only [a5i (ob3 e2)] ; (generalize s.view _ _ _ _=pt; cases pt with|none=>rfl|some q=>(obtain ⟨u,z⟩:=q; dsimp only; repeat' (first|rfl|split)))
  ·rfl
 ·unfold l4 at hi
  rw [ho] at hi
  simp only at hi
  split at hi
  ·rename_i hx _; rw [hx]; repeat' (split at hi)
   all_goals first|exact hi|(cases hi; done)
  ·repeat' (split at hi)
   all_goals (cases hi; done)
  ·repeat' (split at hi)
   all_goals (cases hi; done)
  ·rename_i hx _; rw [hx]; repeat' (split at hi)
   all_goals first|exact hi|(cases hi; done)
  ·rename_i hx _; rw [hx]; repeat' (split at hi)
   all_goals first|exact hi|(cases hi; done)
  ·cases hi

theorem b4I {o:Oper} {T:TypeId} {x y:Operand} (ho:o.op=.index T x y) {p:Prop} {v:AV} {s1:St} (h:(l4 E o s).get=some (p,v,s1)):y8 E o s p v:=by
 have hxo:x∈o.op.operands.toList:=by rw [ho]; simp [Op.operands]
 have hyo:y∈o.op.operands.toList:=by rw [ho]; simp [Op.operands]
 refine .ro h (fun t ha=>?_) (fun i hi=>⟨x,hxo,?_⟩)
 ·obtain ⟨e1,e2⟩:=ag ha hxo
  have e3:=(ag ha hyo).1
  unfold l4
  rw [ho]
  simp only [e1,e3]
  split
  ·split<;>rfl
  ·split<;>rfl
  ·rename_i hx _; rw [hx] at e2; (first|simp only [F2 (ob1 e2)]|simp only [F2 (ob2 e2)]) ; (generalize s.part _ _=pt; cases pt with|none=>rfl|some q=>(obtain ⟨u,z⟩:=q; cases u<;>first|rfl|(dsimp only; repeat' (first|rfl|split))|(rename_i o0 _; cases o0<;>first|rfl|(dsimp only; repeat' (first|rfl|split)))))
  ·rfl
 ·unfold l4 at hi
  rw [ho] at hi
  simp only at hi
  split at hi
  ·repeat' (split at hi)
   all_goals (cases hi; done)
  ·repeat' (split at hi)
   all_goals (cases hi; done)
  ·rename_i hx _; rw [hx]; repeat' (split at hi)
   all_goals first|exact hi|(cases hi; done)
  ·cases hi

theorem b4P {o:Oper} {T:TypeId} {x:Operand} {n:Nat} (ho:o.op=.field T x n) {p:Prop} {v:AV} {s1:St} (h:(l4 E o s).get=some (p,v,s1)):y8 E o s p v:=by
 have hxo:x∈o.op.operands.toList:=by rw [ho]; simp [Op.operands]
 refine .ro h (fun t ha=>?_) (fun i hi=>⟨x,hxo,?_⟩)
 ·obtain ⟨e1,e2⟩:=ag ha hxo
  unfold l4
  rw [ho]
  simp only [e1]
  split
  ·split<;>rfl
  ·rename_i hx; rw [hx] at e2; (first|simp only [F2 (ob1 e2)]|simp only [F2 (ob2 e2)]) ; (generalize s.part _ _=pt; cases pt with|none=>rfl|some q=>(obtain ⟨u,z⟩:=q; cases u<;>first|rfl|(dsimp only; repeat' (first|rfl|split))|(rename_i o0 _; cases o0<;>first|rfl|(dsimp only; repeat' (first|rfl|split)))))
  ·rfl
 ·unfold l4 at hi
  rw [ho] at hi
  simp only at hi
  split at hi
  ·repeat' (split at hi)
   all_goals (cases hi; done)
  ·rename_i hx; rw [hx]; repeat' (split at hi)
   all_goals first|exact hi|(cases hi; done)
  ·cases hi

theorem b68 {o:Oper} {c:Call} (ho:o.op=.call c) (hc:c.callee=.builtin .cap) {p:Prop} {v:AV} {s1:St} (h:(l4 E o s).get=some (p,v,s1)):y8 E o s p v:=by
 obtain ⟨x,T,ha,hT⟩:∃ x T,c.args.toList=[x]∧c.argTypes.toList=[T]:=by
  unfold l4 at h
  rw [ho] at h
  simp only [hc] at h
  split at h
  ·exact ⟨_,_,by assumption,by assumption⟩
  ·cases h
 have hx0:x∈o.op.operands.toList:=by rw [ho]; exact Z7 (by rw [ha]; simp)
 refine .ro h (fun t hag=>?_) (fun i hi=>?_)
 ·obtain ⟨e1,e2⟩:=ag hag hx0
  unfold l4
  rw [ho]
  simp only [hc,ha,hT,e1]
  repeat' (first|rfl|split)
 ·exfalso
  unfold l4 at hi
  rw [ho] at hi
  simp only [hc,ha,hT] at hi
  repeat' (split at hi)
  all_goals (cases hi)

theorem b79 {v:AV} (h:Alike s t v):v.mp t=v.mp s:=by
 unfold AV.mp
 split
 ·rfl
 ·rename_i i p; simp only [F2 (h i (by simp [AV.e8]))]
 ·rfl

theorem b27 {o:Oper} {T:TypeId} {x y:Operand} {ok:Bool} (ho:o.op=.lookup T x y ok) {p:Prop} {v:AV} {s1:St} (h:(l4 E o s).get=some (p,v,s1)):y8 E o s p v:=by
 have hx:x∈o.op.operands.toList:=by rw [ho]; simp [Op.operands]
 have hy:y∈o.op.operands.toList:=by rw [ho]; simp [Op.operands]
 have hl:∀ t,l4 E o t=a09 E T (t.ev x) (t.ev y) ok t:=fun t=>by unfold l4; rw [ho]
 refine .ro h (fun t ha=>?_) (fun i hi=>?_)
 ·rw [hl,hl,(ag ha hx).1,(ag ha hy).1]
  unfold a09
  rw [b79 (ag ha hx).2]
  repeat' (first|rfl|split)
 ·exfalso
  rw [hl] at hi
  unfold a09 at hi
  repeat' (split at hi)
  all_goals (simp [OR.av,AV.e8] at hi)

theorem b06 {o:Oper} {T:TypeId} {r:Option Operand} (ho:o.op=.makeMap T r) {p:Prop} {v:AV} {s1:St} (h:(l4 E o s).get=some (p,v,s1)):y8 E o s p v:=by
 have key:∃ k u b d,r=none∧look T E.tt=some ⟨.map true k u,b⟩∧o.dst=some d:=by
  unfold l4 at h; rw [ho] at h
  simp only at h
  split at h
  ·exact ⟨_,_,_,_,rfl,by assumption,by assumption⟩
  ·cases h
 obtain ⟨k,u,b,d,rfl,h1,h2⟩:=key
 have he:∀ t,l4 E o t=t.lay d [] (.map true k u) (some ([]:List (k.den×u.den))):=fun t=>by unfold l4; rw [ho]; simp only [h1,h2]
 rw [he] at h
 cases hl:s.lay d [] (.map true k u) (some ([]:List (k.den×u.den))) with
 | fail y=>rw [hl] at h; cases h
 | B1 q v s'=>exact absurd hl M9
 | ok v' s' =>
  rw [hl] at h
  cases h
  obtain ⟨k1,rfl,rfl,k4⟩:=a7H hl
  exact y8.obj h2 (e:=.own (.map true k u) (some [])) (g:=[]) (fun i hi=>by simpa [AV.e8] using hi) k1 (by simp) (fun t ha hu hf=>by rw [he t,a9K hf k4]; rfl)

theorem b4k {o:Oper} {T:TypeId} {x:Operand} {lo hi mx:Option Operand} (ho:o.op=.slice T x lo hi mx) {p:Prop} {v:AV} {s1:St} (h:(l4 E o s).get=some (p,v,s1)):y8 E o s p v:=by
 have hops:∀ y,y=x∨lo=some y∨hi=some y∨mx=some y→y∈o.op.operands.toList:=by
  rw [ho]
  rintro y (rfl|rfl|rfl|rfl)<;>simp [Op.operands]
 have hxo:x∈o.op.operands.toList:=hops x (.inl rfl)
 have he:∀ t,l4 E o t=a1r E T (t.ev x) lo hi mx t:=fun t=>by unfold l4; rw [ho]
 refine .ro h (fun t ha=>?_) (fun i hi'=>⟨x,hxo,?_⟩)
 ·obtain ⟨e1,e2⟩:=ag ha hxo
  rw [he,he,e1]
  have b1:∀ d,S6 t d lo=S6 s d lo:=fun d=>b0j (fun y hy=>(ag ha (hops y (.inr (.inl hy)))).1)
  have b2:∀ d,S6 t d hi=S6 s d hi:=fun d=>b0j (fun y hy=>(ag ha (hops y (.inr (.inr (.inl hy))))).1)
  have b3:∀ d,S6 t d mx=S6 s d mx:=fun d=>b0j (fun y hy=>(ag ha (hops y (.inr (.inr (.inr hy))))).1)
  unfold a1r
  simp only [b1,b2,b3]
  split
  ·rfl
  ·split
   ·repeat' (first|rfl|split)
   ·repeat' (first|rfl|split)
   ·repeat' (first|rfl|split)
   ·repeat' (first|rfl|split)
   ·rename_i hx; rw [hx] at e2; (first|simp only [F2 (ob1 e2)]|simp only [F2 (ob2 e2)]) ; (generalize s.part _ _=pt; cases pt with|none=>rfl|some q=>(obtain ⟨u,z⟩:=q; cases u<;>first|rfl|(dsimp only; repeat' (first|rfl|split))|(rename_i o0 _; cases o0<;>first|rfl|(dsimp only; repeat' (first|rfl|split)))))
   ·rename_i hx; rw [hx] at e2; simp only [F2 (ob3 e2)] ; (generalize s.part _ _=pt; cases pt with|none=>rfl|some q=>(obtain ⟨u,z⟩:=q; cases u<;>first|rfl|(dsimp only; repeat' (first|rfl|split))|(rename_i o0 _; cases o0<;>first|rfl|(dsimp only; repeat' (first|rfl|split)))))
   ·rename_i hx; rw [hx] at e2; (first|simp only [F2 (ob1 e2)]|simp only [F2 (ob2 e2)]) ; (generalize s.part _ _=pt; cases pt with|none=>rfl|some q=>(obtain ⟨u,z⟩:=q; cases u<;>first|rfl|(dsimp only; repeat' (first|rfl|split))|(rename_i o0 _; cases o0<;>first|rfl|(dsimp only; repeat' (first|rfl|split)))))
   ·rfl
 ·rw [he] at hi'
  unfold a1r at hi'
  split at hi'
  ·cases hi'
  ·split at hi'
   ·repeat' (split at hi')
    all_goals (cases hi'; done)
   ·repeat' (split at hi')
    all_goals (cases hi'; done)
   ·repeat' (split at hi')
    all_goals (cases hi'; done)
   ·repeat' (split at hi')
    all_goals (cases hi'; done)
   ·rename_i hx; rw [hx]; repeat' (split at hi')
    all_goals first|exact hi'|(cases hi'; done)
   ·rename_i hx; rw [hx]; repeat' (split at hi')
    all_goals first|exact hi'|(cases hi'; done)
   ·rename_i hx; rw [hx]; repeat' (split at hi')
    all_goals first|exact hi'|(cases hi'; done)
   ·cases hi'

theorem b63 {o:Oper} {c:Call} (ho:o.op=.call c) (hc:c.callee=.builtin .len) {p:Prop} {v:AV} {s1:St} (h:(l4 E o s).get=some (p,v,s1)):y8 E o s p v:=by
 obtain ⟨x,T,ha,hT⟩:∃ x T,c.args.toList=[x]∧c.argTypes.toList=[T]:=by
  unfold l4 at h
  rw [ho] at h
  simp only [hc] at h
  split at h
  ·exact ⟨_,_,by assumption,by assumption⟩
  ·cases h
 have hx0:x∈o.op.operands.toList:=by rw [ho]; exact Z7 (by rw [ha]; simp)
 refine .ro h (fun t hag=>?_) (fun i hi=>?_)
 ·obtain ⟨e1,e2⟩:=ag hag hx0
  unfold l4
  rw [ho]
  simp only [hc,ha,hT,e1]
  split
  ·repeat' (first|rfl|split)
  ·repeat' (first|rfl|split)
  ·repeat' (first|rfl|split)
  ·repeat' (first|rfl|split)
  ·rename_i hx; rw [hx] at e2; (first|simp only [F2 (ob1 e2)]|simp only [F2 (ob2 e2)]) ; (generalize s.part _ _=pt; cases pt with|none=>rfl|some q=>(obtain ⟨u,z⟩:=q; cases u<;>first|rfl|(dsimp only; repeat' (first|rfl|split))|(rename_i o0 _; cases o0<;>first|rfl|(dsimp only; repeat' (first|rfl|split)))))
  ·rename_i hx; rw [hx] at e2; simp only [a5i (ob3 e2)] ; (generalize s.view _ _ _ _=pt; cases pt with|none=>rfl|some q=>(obtain ⟨u,z⟩:=q; dsimp only; repeat' (first|rfl|split)))
  ·repeat' (first|rfl|split)
  ·rfl
 ·exfalso
  unfold l4 at hi
  rw [ho] at hi
  simp only [hc,ha,hT] at hi
  repeat' (split at hi)
  all_goals (cases hi)

theorem a9R {k:IntKind} {f:Int→Int→Int}:∀ {l:List Operand} {n:Int},(∀ x∈l,t.ev x=s.ev x)→foldI t k f n l=(foldI s k f n l).Y2 t
 | [],n,_=>rfl
 | x::l,n,h=>by
  simp only [foldI,h x (by simp)]
  split
  ·split
   ·exact a9R (fun y hy=>h y (by simp [hy]))
   ·rfl
  ·rfl

theorem a3T {k:IntKind} {f:Int→Int→Int} {i:Nat}:∀ {l:List Operand} {n:Int},(foldI s k f n l).av.e8 i=true→False
 | [],n,h=>by cases h
 | x::l,n,h=>by
  simp only [foldI] at h
  split at h
  ·split at h
   ·exact a3T h
   ·cases h
  ·cases h

theorem a6Z {o:Oper} {c:Call} (ho:o.op=.call c) (hc:c.callee=.builtin .max∨c.callee=.builtin .min) {p:Prop} {v:AV} {s1:St} (h:(l4 E o s).get=some (p,v,s1)):y8 E o s p v:=by
 have hxo:∀ x∈c.args.toList,x∈o.op.operands.toList:=fun x hx=>by rw [ho]; exact Z7 hx
 refine .ro h (fun t hag=>?_) (fun i hi=>?_)
 ·unfold l4
  rw [ho]
  rcases hc with hc|hc <;>
  ·simp only [hc]
   split
   ·rename_i x l ha
    rw [(hag x (hxo x (by rw [ha]; simp))).1]
    split
    ·exact a9R (fun y hy=>(hag y (hxo y (by rw [ha]; simp [hy]))).1)
    ·rfl
   ·rfl
 ·exfalso
  unfold l4 at hi
  rw [ho] at hi
  rcases hc with hc|hc
  ·simp only [hc] at hi
   split at hi
   ·split at hi
    ·exact a3T hi
    ·cases hi
   ·cases hi
  ·simp only [hc] at hi
   split at hi
   ·split at hi
    ·exact a3T hi
    ·cases hi
   ·cases hi

theorem b41 {o:Oper} {T:TypeId} {parts:Array (Nat×Operand)} (ho:o.op=.build T parts) {p:Prop} {v:AV} {s1:St} (h:(l4 E o s).get=some (p,v,s1)):y8 E o s p v:=by
 have hps:∀ t,R4 s t o.op.operands.toList→∀ q∈parts.toList,t.ev q.2=s.ev q.2∧Alike s t (s.ev q.2):=fun t ha q hq=>ag ha (by rw [ho]; simp only [Op.operands]; simpa using ⟨q.1,by simpa using hq⟩)
 have key:∃ t0 r g,look T E.tt=some t0∧(t0.ty.agg && parts.toList.all (fun q=>a0P t0.ty q.1))=true∧K2 s ⟨t0.ty,t0.ty.n6⟩ parts.toList=some (r,g):=by
  unfold l4 at h; rw [ho] at h
  simp only at h
  split at h
  ·split at h
   ·split at h
    ·exact ⟨_,_,_,by assumption,by assumption,by assumption⟩
    ·exact ⟨_,_,_,by assumption,by assumption,by assumption⟩
    ·cases h
   ·cases h
  ·cases h
 obtain ⟨t0,⟨u,y⟩,g,h1,h2,h3⟩:=key
 have hb:∀ t,R4 s t o.op.operands.toList→K2 t ⟨t0.ty,t0.ty.n6⟩ parts.toList=some (⟨u,y⟩,g):=fun t ha=>(a2N (s:=s) (t:=t) (hps t ha)).trans h3
 cases g with
 | nil =>
  have he:∀ t,R4 s t o.op.operands.toList→l4 E o t=.ok (.val u y) t:=fun t ha=>by unfold l4; rw [ho]; simp only [h1,h2,hb t ha]
  refine .ro h (fun t ha=>?_) (fun i hi=>?_)
  ·rw [he t ha,he s (.refl _ _)]; rfl
  ·rw [he s (.refl _ _)] at hi; cases hi
 | cons g0 g =>
  cases hd:o.dst with
  | none =>
   exfalso
   unfold l4 at h; rw [ho] at h
   simp only [h1,h2,h3,hd] at h
   cases h
  | some d =>
   refine y8.lay hd (g:=g0::g) (u:=u) (x:=y) (W:=fun r=>r) (p:=p) (v:=v) (s1:=s1) ?_ (fun _=>rfl) ?_ h (fun t ha=>by unfold l4; rw [ho]; simp only [h1,h2,hb t ha,hd])
   ·have hp:p=True:=by
     unfold l4 at h; rw [ho] at h
     simp only [h1,h2,h3,hd] at h
     cases hl:s.lay d (g0::g) u y<;>rw [hl] at h
     ·cases h
     ·cases h; rfl
     ·exact absurd hl M9
    intro v s; rw [hp]; rfl
   ·intro i hi
    obtain ⟨q,hq,hm⟩:=a1k h3 i hi
    unfold i7
    rw [ho]
    exact E7.2 (a6c (List.mem_map.2 ⟨q,hq,rfl⟩) hm)

theorem a7V {o:Oper} {T:TypeId} {n:Nat} {parts:Array (Nat×Operand)} (ho:o.op=.buildSlice T n parts) {p:Prop} {v:AV} {s1:St} (h:(l4 E o s).get=some (p,v,s1)):y8 E o s p v:=by
 have hps:∀ t,R4 s t o.op.operands.toList→∀ q∈parts.toList,t.ev q.2=s.ev q.2∧Alike s t (s.ev q.2):=fun t ha q hq=>ag ha (by rw [ho]; simp only [Op.operands]; simpa using ⟨q.1,by simpa using hq⟩)
 have key:∃ t0 b d m t' l g,look T E.tt=some ⟨.d0 true t0,b⟩∧o.dst=some d∧(s.fresh d && parts.toList.all (fun q=>Nat.blt q.1 n) && Nat.ble (n*t0.size) 16777216)=true∧a7W s n t0 parts.toList=some (⟨.arr m t',l⟩,g):=by
  unfold l4 at h; rw [ho] at h
  simp only at h
  split at h
  ·split at h
   ·split at h
    ·exact ⟨_,_,_,_,_,_,_,by assumption,by assumption,by assumption,by assumption⟩
    ·cases h
   ·cases h
  ·cases h
 obtain ⟨t0,b,d,m,t',l,g,h1,h2,h4,h5⟩:=key
 have hb:∀ t,R4 s t o.op.operands.toList→a7W t n t0 parts.toList=some (⟨.arr m t',l⟩,g):=fun t ha=>by
  rw [← h5]; unfold a7W; rw [a2N (s:=s) (t:=t) (hps t ha),a2N (s:=s) (t:=t) (hps t ha)]
 obtain ⟨t9,_,h9⟩:=b0i h5
 have he:∀ t,R4 s t o.op.operands.toList→t.fresh d=true→l4 E o t=t.lay d g (.d0 true t') l:=fun t ha hf=>by
  simp only [Bool.and_eq_true] at h4
  unfold l4; rw [ho]; simp only [h1,h2,hf,h4.1.2,h4.2,hb t ha,Bool.and_self]
 have hf:s.fresh d=true:=by simp only [Bool.and_eq_true] at h4; exact h4.1.1
 have hgT:∀ i∈g,i∈i7 E o s:=by
  intro i hi
  obtain ⟨q,hq,hm⟩:=a1k h9 i hi
  unfold i7
  rw [ho]
  exact E7.2 (a6c (List.mem_map.2 ⟨q,hq,rfl⟩) hm)
 rw [he s (.refl _ _) hf] at h
 cases hl:s.lay d g (.d0 true t') l with
 | fail y=>rw [hl] at h; cases h
 | B1 q v s'=>exact absurd hl M9
 | ok v' s' =>
  rw [hl] at h
  cases h
  obtain ⟨k1,rfl,rfl,k4⟩:=a7H hl
  exact y8.obj h2 (e:=.own (.d0 true t') l) (g:=g) (fun i hi=>by simpa [AV.e8] using hi) k1 hgT (fun t ha hu hf=>by rw [he t ha hf,a9K hf k4]; rfl)

theorem b7b {o:Oper} {T:TypeId} {x:Operand} (ho:o.op=.box T x) {p:Prop} {v:AV} {s1:St} (h:(l4 E o s).get=some (p,v,s1)):y8 E o s p v:=by
 have hxo:x∈o.op.operands.toList:=by rw [ho]; simp [Op.operands]
 have hT:i7 E o s=(s.ev x).C2:=by unfold i7; rw [ho]
 have key:∃ t0 d,look T E.tt=some t0∧o.dst=some d∧s.fresh d=true:=by
  unfold l4 at h; rw [ho] at h
  simp only at h
  split at h
  ·split at h
   ·exact ⟨_,_,by assumption,by assumption,by assumption⟩
   ·cases h
  ·cases h
 obtain ⟨t0,d,h1,h2,h3⟩:=key
 have he:∀ t,t.fresh d=true→l4 E o t=(match (t.ev x).T8 t with
    | some (⟨u,y⟩,g)=>if u.J9.sh=t0.ty.J9.sh then (match a0o g && !g.contains d && g.all fun i=>!pinned i with
     | true=>.ok (.ptr d []) ((St.p7 g t).o7 d (.var u y))
     | false=>.fail "box: objects") else .fail "box: value"
    | none=>(match t.ev x,t0.ty with
     | .raw (.slice none 0 0),.d0 o u=>.ok (.ptr d []) (t.o7 d (.var (.d0 o u) ([]:List u.den)))
     | .ptr i p,.box _ none _=>.ok (.bx (.ptr i p)) t
     | _,_=>.fail "box: what")):=fun t ht=>by unfold l4; rw [ho]; simp only [h1,h2,ht]; rfl
 rw [he s h3] at h
 split at h
 ·rename_i u y g hgv
  split at h
  ·rename_i hsh
   split at h
   ·rename_i hc
    cases h
    refine y8.obj h2 (e:=.var u y) (g:=g) (fun i hi=>by simpa [AV.e8] using hi) h3 (fun i hi=>by rw [hT]; exact E7.2 (a1P hgv i hi)) (fun t ha hu hf=>?_)
    obtain ⟨e1,e2⟩:=ag ha hxo
    rw [he t hf,e1]
    simp only [(a0r e2).trans hgv,hsh,if_true,hc]
    rfl
   ·cases h
  ·cases h
 ·rename_i hgv
  split at h
  ·rename_i o' u hx ht0
   cases h
   refine y8.obj h2 (e:=.var (.d0 o' u) ([]:List u.den)) (g:=[]) (fun i hi=>by simpa [AV.e8] using hi) h3 (by simp) (fun t ha hu hf=>?_)
   obtain ⟨e1,e2⟩:=ag ha hxo
   have hgt:=(a0r e2).trans hgv
   rw [hx] at e1 hgt
   rw [he t hf,e1]
   simp only [hgt,ht0]
   rfl
  ·rename_i i q o0 u0 hx ht0
   cases h
   refine ⟨[d],fun u=>u,fun j=>if j=d then none else look j s.hp,Trim.id _,a8l h3,by simp [h2],fun j hj=>.inl ⟨x,hxo,by rw [hx]; exact hj⟩,fun t hu ha hn=>?_⟩
   have hf:=a9Q hu hn
   obtain ⟨e1,e2⟩:=ag ha hxo
   have hgt:=(a0r e2).trans hgv
   rw [hx] at e1 hgt
   refine ⟨t,?_,hu,⟨fun n=>by simp,fun j=>?_⟩⟩
   ·rw [he t hf,e1]; simp only [hgt,ht0]; rfl
   ·by_cases hj:j=d
    ·subst hj
     rw [if_pos (.inr (by simp)),if_pos rfl]
     exact (hn j (by simp)).1
    ·by_cases hj2:j∈i7 E o s
     ·rw [if_pos (.inl hj2),if_neg hj]; exact a0t ha hj2
     ·rw [if_neg (by simp [hj2,hj])]
  ·cases h

theorem b1r {o:Oper} {T' T:TypeId} {x:Operand} (ho:o.op=.convert T' T x) {p:Prop} {v:AV} {s1:St} (h:(l4 E o s).get=some (p,v,s1)):y8 E o s p v:=by
 have hxo:x∈o.op.operands.toList:=by rw [ho]; simp [Op.operands]
 by_cases hs:(∃ y,s.ev x=.val .str y)∧(∃ b,look T' E.tt=some ⟨.str,b⟩)∧(∃ b,look T E.tt=some ⟨.d0 true (.int .u8),b⟩)
 ·obtain ⟨⟨y,hy⟩,⟨b,hb⟩,⟨b',hb'⟩⟩:=hs
  cases hd:o.dst with
  | none =>
   exfalso
   unfold l4 at h; rw [ho] at h
   simp only [hy,hb,hb',hd] at h
   cases h
  | some d =>
   have he:∀ t,t.ev x=s.ev x→l4 E o t=t.lay d [] (.d0 true (.int .u8)) (List.map (fun b:UInt8=>(b.toNat:Int)) y:List Int):=fun t ht=>by
    unfold l4; rw [ho]; simp only [ht,hy,hb,hb',hd]
   have hp:p=True:=by
    rw [he s rfl] at h
    cases hl:s.lay d [] (.d0 true (.int .u8)) (List.map (fun b:UInt8=>(b.toNat:Int)) y:List Int)<;>rw [hl] at h
    ·cases h
    ·cases h; rfl
    ·exact absurd hl M9
   exact y8.lay hd (g:=[]) (W:=fun r=>r) (fun v s=>by rw [hp]; rfl) (fun _=>rfl) (by simp) h (fun t ha=>he t (ag ha hxo).1)
 ·refine .ro h (fun t ha=>?_) (fun i hi=>?_)
  ·obtain ⟨e1,e2⟩:=ag ha hxo
   unfold l4; rw [ho]; simp only [e1]
   split
   ·rfl
   ·rename_i hx ht1 ht2
    exact absurd ⟨⟨_,hx⟩,⟨_,ht1⟩,⟨_,ht2⟩⟩ hs
   ·rw [a9Y e2]
    repeat' (first|rfl|split)
   ·rfl
  ·exfalso
   unfold l4 at hi; rw [ho] at hi
   simp only at hi
   split at hi
   ·cases hi
   ·rename_i hx ht1 ht2
    exact absurd ⟨⟨_,hx⟩,⟨_,ht1⟩,⟨_,ht2⟩⟩ hs
   ·repeat' (split at hi)
    all_goals (cases hi)
   ·cases hi

theorem a8T {o:Oper} {T:TypeId} {x y:Operand} (ho:o.op=.makeSlice T x y) {p:Prop} {v:AV} {s1:St} (h:(l4 E o s).get=some (p,v,s1)):y8 E o s p v:=by
 have hxo:x∈o.op.operands.toList:=by rw [ho]; simp [Op.operands]
 have hyo:y∈o.op.operands.toList:=by rw [ho]; simp [Op.operands]
 have key:∃ t0 b d k n k' m,look T E.tt=some ⟨.d0 true t0,b⟩∧o.dst=some d∧s.ev x=.val (.int k) n∧s.ev y=.val (.int k') m:=by
  unfold l4 at h; rw [ho] at h
  simp only at h
  split at h
  ·unfold a7l at h
   split at h
   ·exact ⟨_,_,_,_,_,_,_,by assumption,by assumption,by assumption,by assumption⟩
   ·cases h
  ·split at h
   ·exact ⟨_,_,_,_,_,_,_,by assumption,by assumption,by assumption,by assumption⟩
   ·cases h
 obtain ⟨t0,b,d,k,n,k',m,h1,h2,h3,h4⟩:=key
 cases hmsl:E.rs.any Ty.a5t with
 | true =>
  have he:∀ t,t.ev x=s.ev x→t.ev y=s.ev y→l4 E o t=(t.lay d [] (.r7 t0) (2,List.replicate (Int.toNat n) t0.n6,List.replicate (Int.toNat m - Int.toNat n) t0.n6)).n8 (@LE.le Int Int.instLEInt 1 m∧@LE.le Int Int.instLEInt 0 n∧@LE.le Int Int.instLEInt n m∧@LE.le Int Int.instLEInt m 140737488355328∧@LE.le Int Int.instLEInt (@HMul.hMul Int Int Int _ m (t0.wb:Nat)) 140737488355328):=fun t e1 e2=>by
   unfold l4; rw [ho]; simp only [e1,e2,hmsl]; unfold a7l; simp only [h1,h2,h3,h4]
  have h0:=h
  rw [he s rfl rfl] at h
  obtain rfl:=a2d h (fun _ _ _=>M9)
  exact y8.lay h2 (g:=[]) (W:=OR.n8 _) (fun _ _=>rfl) (fun _=>rfl) (by simp) h0 (fun t ha=>he t (ag ha hxo).1 (ag ha hyo).1)
 | false =>
  have he:∀ t,t.ev x=s.ev x→t.ev y=s.ev y→l4 E o t=(t.lay d [] (.d0 true t0) (List.replicate (Int.toNat n) t0.n6)).n8 (@LE.le Int Int.instLEInt 0 n∧@LE.le Int Int.instLEInt n m∧@LE.le Int Int.instLEInt m 140737488355328∧@LE.le Int Int.instLEInt (@HMul.hMul Int Int Int _ m (t0.wb:Nat)) 140737488355328):=fun t e1 e2=>by
   unfold l4; rw [ho]; simp only [e1,e2,hmsl,h1,h2,h3,h4]
  have h0:=h
  rw [he s rfl rfl] at h
  obtain rfl:=a2d h (fun _ _ _=>M9)
  exact y8.lay h2 (g:=[]) (W:=OR.n8 _) (fun _ _=>rfl) (fun _=>rfl) (by simp) h0 (fun t ha=>he t (ag ha hxo).1 (ag ha hyo).1)

theorem b2q {v:AV} (h:Alike s t v):v.a1D t=v.a1D s:=by
 unfold AV.a1D
 split
 ·rw [F2 (ob2 h)]
 ·rw [F2 (ob3 h)]
 ·rfl
theorem a8s {v:AV} {i:Nat} {p:List Step} {lo hi:Int} (h:v.a1D s=some (i,p,lo,hi)):v.e8 i=true:=by
 unfold AV.a1D at h
 split at h
 ·split at h
  ·cases h; simp [AV.e8]
  ·cases h
 ·split at h
  ·cases h; simp [AV.e8]
  ·cases h
 ·cases h
theorem b5V {o:Oper} {c:Call} (ho:o.op=.call c) (hc:c.callee=.builtin .copy) {p:Prop} {v:AV} {s1:St} (h:(l4 E o s).get=some (p,v,s1)):y8 E o s p v:=by
 have hxo:∀ x∈c.args.toList,x∈o.op.operands.toList:=fun x hx=>by rw [ho]; exact Z7 hx
 have hT:i7 E o s=(s.C8 c.args.toList).C2:=by unfold i7; rw [ho]; simp only [hc]
 have key:∃ x y T,c.args.toList=[x,y]∧∀ t,l4 E o t=a5y E T (t.ev x) (t.ev y) t:=by
  unfold l4 at h
  rw [ho] at h
  simp only [hc] at h
  split at h
  ·rename_i x y T U hargs htys
   exact ⟨x,y,T,hargs,fun t=>by unfold l4; rw [ho]; simp only [hc,hargs,htys]⟩
  ·cases h
 obtain ⟨x,y,T,hargs,he⟩:=key
 rw [he] at h
 have hxm:x∈o.op.operands.toList:=hxo x (by rw [hargs]; simp)
 have hym:y∈o.op.operands.toList:=hxo y (by rw [hargs]; simp)
 unfold a5y at h
 split at h
 ·rename_i i q lo hi u m hd hels
  split at h
  ·rename_i s' hf hck
   simp only [OR.get,Option.some.injEq,Prod.mk.injEq] at h
   obtain ⟨rfl,rfl,_⟩:=h
   obtain ⟨ow,e',hfl⟩:=a4L hf
   have hm:=a8s hd
   refine y8.fill (i:=i) (ow:=ow) (e':=e') (by rw [hT,E7,hargs]; simp [St.C8,AV.e8,hm]) (fun _=>rfl) (fun t ha=>?_)
   rw [he,(ha x hxm).1,(ha y hym).1]
   unfold a5y
   rw [b2q (ha x hxm).2,a9Y (ha y hym).2,hd,hels]
   simp only [hfl t ((ha x hxm).2 i hm),hck]
   rfl
  ·cases h
 ·cases h
theorem b4Y {o:Oper} {c:Call} (ho:o.op=.call c) (hc:c.callee=.builtin .clear) {p:Prop} {v:AV} {s1:St} (h:(l4 E o s).get=some (p,v,s1)):y8 E o s p v:=by
 have hxo:∀ x∈c.args.toList,x∈o.op.operands.toList:=fun x hx=>by rw [ho]; exact Z7 hx
 have hT:i7 E o s=(s.C8 c.args.toList).C2:=by unfold i7; rw [ho]; simp only [hc]
 have key:∃ x T,c.args.toList=[x]∧∀ t,l4 E o t=a3l E T (t.ev x) t:=by
  unfold l4 at h
  rw [ho] at h
  simp only [hc] at h
  split at h
  ·rename_i x T hargs htys
   exact ⟨x,T,hargs,fun t=>by unfold l4; rw [ho]; simp only [hc,hargs,htys]⟩
  ·cases h
 obtain ⟨x,T,hargs,he⟩:=key
 rw [he] at h
 have hxm:x∈o.op.operands.toList:=hxo x (by rw [hargs]; simp)
 unfold a3l at h
 split at h
 ·rename_i i q lo hi b u bts hd hlk
  split at h
  ·rename_i s' hf
   simp only [OR.get,Option.some.injEq,Prod.mk.injEq] at h
   obtain ⟨rfl,rfl,_⟩:=h
   obtain ⟨ow,e',hfl⟩:=a4L hf
   have hm:=a8s hd
   refine y8.fill (i:=i) (ow:=ow) (e':=e') (by rw [hT,E7,hargs]; simp [St.C8,AV.e8,hm]) (fun _=>rfl) (fun t ha=>?_)
   rw [he,(ha x hxm).1]
   unfold a3l
   rw [b2q (ha x hxm).2,hd,hlk]
   simp only [hfl t ((ha x hxm).2 i hm)]
   rfl
  ·cases h
 ·cases h

theorem b2F {o:Oper} {T:TypeId} {m x y:Operand} (ho:o.op=.mapUpdate T m x y) {p:Prop} {v:AV} {s1:St} (h:(l4 E o s).get=some (p,v,s1)):y8 E o s p v:=by
 have hm:m∈o.op.operands.toList:=by rw [ho]; simp [Op.operands]
 have hx:x∈o.op.operands.toList:=by rw [ho]; simp [Op.operands]
 have hy:y∈o.op.operands.toList:=by rw [ho]; simp [Op.operands]
 have hl:∀ t,l4 E o t=a4l E T (t.ev m) (t.ev x) (t.ev y) t:=fun t=>by unfold l4; rw [ho]
 have hT:i7 E o s=(s.ev m).C2:=by unfold i7; rw [ho]
 rw [hl] at h
 have key:∃ j e',s.ev m=.at_ j []∧p=True∧v=.raw undef∧∀ t:St,t.obj j=s.obj j→a4l E T (s.ev m) (s.ev x) (s.ev y) t=.ok (.raw undef) ((t.N0 j true).o7 j e'):=by
  unfold a4l at h
  split at h
  ·rename_i j u a u' z e1 e2 e3
   split at h
   ·rename_i k w l hob
    split at h
    ·rename_i hu
     split at h
     ·rename_i hu'
      split at h
      ·rename_i hmt
       simp only [OR.get,Option.some.injEq,Prod.mk.injEq] at h
       obtain ⟨rfl,rfl,_⟩:=h
       refine ⟨j,.own (.map true k w) (some (a4B (G0 k) (D8 hu a) (D8 hu' z) l)),e1,rfl,rfl,fun t ht=>?_⟩
       unfold a4l
       rw [e1,e2,e3]
       subst hu hu'
       simp only [ht,hob,hmt,dif_pos]
      ·cases h
     ·cases h
    ·cases h
   ·cases h
  ·cases h
 obtain ⟨j,e',e1,rfl,rfl,hk⟩:=key
 refine y8.fill (i:=j) (ow:=true) (e':=e') (by rw [hT,e1]; simp [AV.C2]) (fun _=>rfl) (fun t ha=>?_)
 rw [hl,(ag ha hm).1,(ag ha hx).1,(ag ha hy).1,hk t ((ag ha hm).2 j (by rw [e1]; simp [AV.e8]))]
 rfl

theorem b7h {o:Oper} (hpick:∀ a b c,o.op≠.pick a b c) {p:Prop} {v:AV} {s1:St} (h:(l4 E o s).get=some (p,v,s1)):y8 E o s p v:=by
 have hin:∀ x,x∈o.op.operands.toList↔x∈o.op.operands.toList:=fun _=>Iff.rfl
 cases ho:o.op with
 | move x =>
  have hx:x∈o.op.operands.toList:=by rw [ho]; simp [Op.operands]
  refine .ro h (fun t ha=>?_) (fun i hi=>⟨x,hx,?_⟩)
  ·unfold l4; rw [ho]; simp only [(ag ha hx).1]; rfl
  ·unfold l4 at hi; rw [ho] at hi; exact hi
 | assign x =>
  have hx:x∈o.op.operands.toList:=by rw [ho]; simp [Op.operands]
  refine .ro h (fun t ha=>?_) (fun i hi=>⟨x,hx,?_⟩)
  ·unfold l4; rw [ho]; simp only [(ag ha hx).1]; rfl
  ·unfold l4 at hi; rw [ho] at hi; exact hi
 | load T x =>
  have hx:x∈o.op.operands.toList:=by rw [ho]; simp [Op.operands]
  have hl:∀ t,l4 E o t=K9 E T (t.ev x) t:=fun t=>by unfold l4; rw [ho]
  refine .ro h (fun t ha=>?_) (fun i hi=>⟨x,hx,?_⟩)
  ·obtain ⟨e1,e2⟩:=ag ha hx
   rw [hl,hl,e1]; exact b5H e2
  ·rw [hl] at hi; exact b29 hi
 | nilCheck x =>
  have hx:x∈o.op.operands.toList:=by rw [ho]; simp [Op.operands]
  refine .ro h (fun t ha=>?_) (fun i hi=>⟨x,hx,?_⟩)
  ·unfold l4; rw [ho]; simp only [(ag ha hx).1]; split<;>rfl
  ·unfold l4 at hi; rw [ho] at hi
   simp only at hi
   split at hi<;>first|(cases hi; done)|(rename_i e; rw [e]; exact hi)
 | binOp op T x y T' =>
  have hx:x∈o.op.operands.toList:=by rw [ho]; simp [Op.operands]
  have hy:y∈o.op.operands.toList:=by rw [ho]; simp [Op.operands]
  have hl:∀ t,l4 E o t=a3Y E T op (t.ev x) (t.ev y) t:=fun t=>by unfold l4; rw [ho]
  refine .ro h (fun t ha=>?_) (fun i hi=>?_)
  ·rw [hl,hl,(ag ha hx).1,(ag ha hy).1]; exact b7f ..
  ·exfalso
   rw [hl] at hi
   unfold a3Y a6v eqA a6s a6u a6t arith at hi
   repeat' (split at hi)
   all_goals (cases hi)
 | unOp op T x =>
  have hx:x∈o.op.operands.toList:=by rw [ho]; simp [Op.operands]
  have hl:∀ t,l4 E o t=unA op (t.ev x) t:=fun t=>by unfold l4; rw [ho]
  refine .ro h (fun t ha=>?_) (fun i hi=>?_)
  ·rw [hl,hl,(ag ha hx).1]; exact b7s ..
  ·exfalso
   rw [hl] at hi
   unfold unA arith at hi
   repeat' (split at hi)
   all_goals (cases hi)
 | convert T' T x=>exact b1r ho h
 | fieldAddr T x n=>exact a8X ho h
 | indexAddr T x y=>exact a8W ho h
 | index T x y=>exact b4I ho h
 | field T x n=>exact b4P ho h
 | slice T x lo hi mx=>exact b4k ho h
 | makeSlice T x y=>exact a8T ho h
 | build T parts=>exact b41 ho h
 | buildSlice T n parts=>exact a7V ho h
 | makeMap T r=>exact b06 ho h
 | lookup T x y ok=>exact b27 ho h
 | mapUpdate T m x y=>exact b2F ho h
 | box T x=>exact b7b ho h
 | store T a x=>exact b4h ho h
 | extract x n =>
  have hx:x∈o.op.operands.toList:=by rw [ho]; simp [Op.operands]
  refine .ro h (fun t ha=>?_) (fun i hi=>⟨x,hx,?_⟩)
  ·unfold l4; rw [ho]; simp only [(ag ha hx).1]
   split
   ·split<;>rfl
   ·rfl
  ·unfold l4 at hi; rw [ho] at hi
   simp only at hi
   split at hi
   ·rename_i l e
    split at hi
    ·rename_i v hv
     rw [e]; show l.e8 i=true; exact a6b hv hi
    ·cases hi
   ·cases hi
 | makeFunc fn first caps =>
  have hcm:∀ x∈caps.toList,x∈o.op.operands.toList:=fun x hx=>by rw [ho]; simp only [Op.operands]; simp at hx ⊢; exact .inr hx
  have hcs:∀ t,R4 s t o.op.operands.toList→t.C8 caps.toList=s.C8 caps.toList:=fun t ha=>a3g (fun x hx=>(ag ha (hcm x hx)).1)
  refine .ro h (fun t ha=>?_) (fun i hi=>?_)
  ·unfold l4; rw [ho]
   cases fn with
   | func f=>simp only [hcs t ha]; split<;>rfl
   | _=>rfl
  ·unfold l4 at hi; rw [ho] at hi
   cases fn with
   | func f =>
    simp only at hi
    split at hi
    ·obtain ⟨x,hx,hi⟩:=T3 (s:=s) (i:=i) (xs:=caps.toList) hi
     exact ⟨x,hcm x hx,hi⟩
    ·cases hi
   | _=>cases hi
 | alloc T =>
  have key:∃ t0 d,look T E.tt=some t0∧o.dst=some d∧s.fresh d=true:=by
   unfold l4 at h; rw [ho] at h
   simp only at h
   split at h
   ·split at h
    ·exact ⟨_,_,by assumption,by assumption,by assumption⟩
    ·cases h
   ·cases h
  obtain ⟨t0,d,h1,h2,h3⟩:=key
  have he:∀ t,t.fresh d=true→l4 E o t=.ok (.ptr d []) (t.o7 d (.var t0.ty t0.ty.n6)):=fun t ht=>by unfold l4; rw [ho]; simp only [h1,h2,ht]
  rw [he s h3] at h
  simp only [OR.get,Option.some.injEq,Prod.mk.injEq] at h
  obtain ⟨rfl,rfl,rfl⟩:=h
  exact .obj h2 (g:=[]) (fun i hi=>by simpa [AV.e8] using hi) h3 (by simp) (fun t _ _ ht=>by rw [he t ht]; rfl)
 | call c =>
  cases hc:c.callee with
  | value f=>exact b5Y ho hc h
  | builtin b =>
   cases b<;>first
    | (exact b63 ho hc h)
    | (exact b68 ho hc h)
    | (exact b3L ho hc h)
    | (exact b5V ho hc h)
    | (exact b4Y ho hc h)
    | (exact a6Z ho (.inl hc) h)
    | (exact a6Z ho (.inr hc) h)
    | (exfalso; unfold l4 at h; rw [ho] at h; simp only [hc] at h; cases h)
  | _=>exfalso; unfold l4 at h; rw [ho] at h; simp only [hc] at h; cases h
 | pick a b c=>exact absurd ho (hpick a b c)
 | _=>exfalso; unfold l4 at h; rw [ho] at h; cases h

end
end Go.Ex

namespace Go.Ex

def C1 (s t:St):Prop:=(∀ n,look n s.fr=look n t.fr)∧(∀ i,look i s.hp=look i t.hp)

theorem C1.refl (s:St):C1 s s:=⟨fun _=>rfl,fun _=>rfl⟩
theorem C1.symm {s t:St} (h:C1 s t):C1 t s:=⟨fun n=>(h.1 n).symm,fun n=>(h.2 n).symm⟩
theorem C1.trans {s t u:St} (h:C1 s t) (k:C1 t u):C1 s u:=⟨fun n=>(h.1 n).trans (k.1 n),fun n=>(h.2 n).trans (k.2 n)⟩

theorem B5 {m:Nat} {s:St} {d:Option Nat} {v:AV}:look m (s.put d v).fr=if d=some m then some v else look m s.fr:=by
 cases d with
 | none=>simp [St.put]
 | some d =>
  simp only [St.put,l7,Option.some.injEq]
  by_cases e:m=d
  ·subst e; simp
  ·rw [if_neg e,if_neg (fun h=>e h.symm)]

theorem E5 {s:St} {d:Option Nat} {v:AV}:(s.put d v).hp=s.hp:=by cases d<;>rfl

theorem Y3 {s:St} {d:Option Nat} {v:AV} (h:uniq s.fr):uniq (s.put d v).fr:=by
 cases d with
 | none=>exact h
 | some d=>exact a9j _ _ h

theorem C1.put {s t:St} (h:C1 s t) (d:Option Nat) (v:AV):C1 (s.put d v) (t.put d v) :=
 ⟨fun n=>by rw [B5,B5,h.1 n],fun i=>by rw [E5,E5,h.2 i]⟩

theorem C1.get {s t:St} (h:C1 s t) (m:Nat):s.get m=t.get m:=by simp only [St.get,h.1 m]
theorem C1.ev {s t:St} (h:C1 s t) (x:Operand):s.ev x=t.ev x:=by cases x<;>first|exact J1 (h.get _)|rfl

theorem K4.eqv {s t:St} (h:C1 s t) {ids:List Nat} (hf:K4 s ids):K4 t ids :=
 fun n hn=>⟨(h.2 n).symm.trans (hf n hn).1,fun m v hv=>(hf n hn).2 m v ((h.1 m).trans hv)⟩

def a5h (s t:St) (L:List Nat):Prop:=∀ m∈L,t.get m=s.get m∧∀ i,(s.get m).e8 i=true→t.obj i=s.obj i

theorem Y9 (v:Value) (i:Nat):(ofConst v).e8 i=false:=by
 unfold ofConst
 split
 ·split<;>rfl
 ·rfl
 ·split<;>rfl
 ·rfl

theorem a3h {s:St} {x:Operand} {i:Nat} (h:(s.ev x).e8 i=true):∃ m,x=.tmp m∧(s.get m).e8 i=true:=by
 cases x with
 | tmp m=>exact ⟨m,rfl,a1j h⟩
 | const v=>simp [St.ev,Y9] at h
 | global g=>cases h
 | func f=>cases h

theorem a5h.agree {s t:St} {L:List Nat} (h:a5h s t L) {xs:List Operand} (hL:∀ m,Operand.tmp m∈xs→m∈L):R4 s t xs:=by
 intro x hx
 refine ⟨?_,fun i hi=>?_⟩
 ·cases x with
  | tmp m=>exact J1 (h m (hL m hx)).1
  | _=>rfl
 ·obtain ⟨m,rfl,hm⟩:=a3h hi
  exact (h m (hL m hx)).2 i hm

structure Put (s s1:St) (d:Option Nat) (T ids:List Nat) (f:AV→AV) (h:Nat→Option f9) (v:AV):Prop where
 fr:∀ n,look n s1.fr=if d=some n then some v else (look n s.fr).map f
 hp:∀ i,look i s1.hp=if i∈T∨i∈ids then h i else look i s.hp

section
variable {s t s1 t1:St} {d:Option Nat} {T ids:List Nat} {f:AV→AV} {h:Nat→Option f9} {v:AV}
theorem Put.eqv (hp:Put s s1 d T ids f h v) (he:C1 s t):Put t s1 d T ids f h v :=
 ⟨fun n=>by rw [hp.fr,he.1 n],fun i=>by rw [hp.hp,he.2 i]⟩
theorem Put.det (hp:Put s s1 d T ids f h v) (hp':Put t t1 d T ids f h v) (he:C1 s t):C1 s1 t1 :=
 ⟨fun n=>by rw [hp.fr,hp'.fr,he.1 n],fun i=>by rw [hp.hp,hp'.hp,he.2 i]⟩
theorem Put.get (hp:Put s s1 d T ids f h v) (hf:Trim T f) {m:Nat} (hm:d≠some m):s1.get m=f (s.get m):=by
 simp only [St.get,hp.fr,if_neg hm]
 cases look m s.fr with
 | none=>exact (hf.plain _ rfl).symm
 | some u=>rfl
end

theorem b5o {T:List Nat} {f:AV→AV} (hf:Trim T f):∀ {j:Nat} {l:AV},l4.nth j (f l)=(l4.nth j l).map f:=by
 have nope:∀ {j:Nat} {l:AV},(∀ a b,l≠.cons a b)→l4.nth j l=none:=by
  intro j l h
  cases l with
  | cons a b=>exact absurd rfl (h a b)
  | _=>cases j<;>rfl
 have hn:∀ u:AV,(∀ a b,u≠.cons a b)→∀ a b,f u≠.cons a b:=by
  intro u hu a b e
  cases u with
  | cons a b=>exact absurd rfl (hu a b)
  | F0 l=>rw [hf.F0] at e; cases e
  | y7 g l=>rw [hf.y7] at e; cases e
  | bx l=>rw [hf.bx] at e; cases e
  | rc g l=>rw [hf.rc] at e; cases e
  | ptr i p=>rcases hf.atom _ (rfl:(AV.ptr i p).ref=true) with h|h<;>rw [h] at e<;>cases e
  | at_ i p=>rcases hf.atom _ (rfl:(AV.at_ i p).ref=true) with h|h<;>rw [h] at e<;>cases e
  | sub i p x y=>rcases hf.atom _ (rfl:(AV.sub i p x y).ref=true) with h|h<;>rw [h] at e<;>cases e
  | _=>rw [hf.plain _ rfl] at e; cases e
 intro j
 induction j with
 | zero =>
  intro l
  cases l with
  | cons a b=>rw [hf.cons]; rfl
  | _=>rw [nope (hn _ (by intro a b e; cases e)),nope (by intro a b e; cases e)]; rfl
 | succ j ih =>
  intro l
  cases l with
  | cons a b=>rw [hf.cons]; exact ih
  | _=>rw [nope (hn _ (by intro a b e; cases e)),nope (by intro a b e; cases e)]; rfl

theorem a0g (o:Oper):(∀ v,x7 o v=v)∨(o.guard=none∧∃ x j,o.op=.extract x j∧∀ v,x7 o v=(match v with
  | .F0 l=>(match l4.nth j l with
   | some v=>.F0 (.cons v .nil)
   | none=>.any)
  | _=>.any)):=by
 unfold x7
 split
 ·rename_i x j hg ho; exact .inr ⟨hg,x,j,ho,fun _=>rfl⟩
 ·exact .inl fun _=>rfl

theorem a3s {T:List Nat} {f:AV→AV} (hf:Trim T f) (o:Oper) (v:AV):x7 o (f v)=f (x7 o v):=by
 rcases a0g o with h|⟨_,x,j,_,h⟩
 ·rw [h,h]
 ·rw [h,h]
  have hany:f .any=.any:=hf.plain _ rfl
  cases v with
  | F0 l =>
   rw [hf.F0]
   simp only [b5o hf]
   cases hn:l4.nth j l with
   | none=>exact hany.symm
   | some u =>
    show AV.F0 (.cons (f u) .nil)=f (.F0 (.cons u .nil))
    rw [hf.F0,hf.cons,hf.plain .nil rfl]
  | cons a b=>rw [hf.cons]; exact hany.symm
  | y7 g l=>rw [hf.y7]; exact hany.symm
  | bx l=>rw [hf.bx]; exact hany.symm
  | rc g l=>rw [hf.rc]; exact hany.symm
  | ptr i p=>rcases hf.atom _ (rfl:(AV.ptr i p).ref=true) with e|e<;>rw [e]<;>exact hany.symm
  | at_ i p=>rcases hf.atom _ (rfl:(AV.at_ i p).ref=true) with e|e<;>rw [e]<;>exact hany.symm
  | sub i p x y=>rcases hf.atom _ (rfl:(AV.sub i p x y).ref=true) with e|e<;>rw [e]<;>exact hany.symm
  | _=>rw [hf.plain _ rfl]; try exact hany.symm

theorem a0p {o:Oper} {v:AV} {i:Nat} (h:(x7 o v).e8 i=true):v.e8 i=true:=by
 rcases a0g o with e|⟨_,x,j,_,e⟩
 ·rwa [e] at h
 ·rw [e] at h
  split at h
  ·rename_i l
   split at h
   ·rename_i u hu
    have:u.e8 i=true:=by simpa [AV.e8] using h
    show l.e8 i=true
    exact a6b hu this
   ·cases h
  ·cases h

def a1A (o:Oper) (s t:St) (L:List Nat):Prop:=∀ m∈L,x7 o (t.get m)=x7 o (s.get m)∧∀ i,(x7 o (s.get m)).e8 i=true→t.obj i=s.obj i

theorem a1A.plain {o:Oper} (h:∀ v,x7 o v=v) {s t:St} {L:List Nat} (ha:a1A o s t L):a5h s t L:=fun m hm=>by
 have:=ha m hm
 simpa only [h] using this
theorem C1.a0m {s t:St} (h:C1 s t) (o:Oper) (L:List Nat):a1A o s t L:=fun m _=>⟨by rw [h.get m],fun i _=>(h.2 i).symm⟩

def Eff (o:Oper) (run:St→Option (Prop×St)) (d:Option Nat) (L T:List Nat) (s:St) (p:Prop):Prop :=
 ∃ v ids f h,Trim T f∧K4 s ids∧(∀ n∈ids,n % 1000=(d.getD 0) % 1000) ∧
  (∀ i,v.e8 i=true→(∃ m∈L,(x7 o (s.get m)).e8 i=true)∨i∈ids) ∧
  ∀ t,uniq t.fr→a1A o s t L→K4 t ids→∃ t1,run t=some (p,t1)∧uniq t1.fr∧Put t t1 d T ids f h v

section
variable {E:Env} {ops:Array Oper} {s t:St}

theorem a9s {o:Oper} {p:Prop} {s1:St} (h:F7 E o s=some (p,s1)) {L:List Nat} (hL:∀ m,Operand.tmp m∈o.op.operands.toList→m∈L):Eff o (F7 E o) o.dst L (i7 E o s) s p:=by
 rcases a0g o with hvw|⟨hgn,x,j,hop,hvw⟩
 rotate_left
 ·have hd:x3 E.nt o.dst=true:=by
   unfold F7 at h
   split at h
   ·cases h
   ·assumption
  have hr:∀ t,F7 E o t=(match (match t.ev x with|.F0 l=>(match l4.nth j l with|some v=>OR.ok v t|none=>.fail "extract")|_=>.fail "extract").get with|none=>none|some (p,v,s')=>some (p,s'.put o.dst v)):=by
   intro t
   unfold F7 l4
   rw [hd,hop]
   rfl
  have hT:i7 E o s=[]:=by unfold i7; rw [hop]
  rw [hT]
  rw [hr] at h
  have key:∃ m l v,x=.tmp m∧Nat.beq m D9=false∧s.get m=.F0 l∧l4.nth j l=some v∧p=True:=by
   cases x with
   | tmp m =>
    cases hv:s.ev (.tmp m) with
    | F0 l =>
     rw [hv] at h
     cases hn:l4.nth j l with
     | some v =>
      simp only [hn,OR.get,Option.some.injEq,Prod.mk.injEq] at h
      exact ⟨m,l,v,rfl,a7d hv nofun,S4 hv nofun,hn,h.1.symm⟩
     | none=>simp only [hn,OR.get] at h; cases h
    | _ =>
     rw [hv] at h
     cases h
   | const c =>
    exfalso
    have:∀ l,s.ev (.const c)≠.F0 l:=by
     intro l e
     simp only [St.ev] at e
     unfold ofConst at e
     repeat' split at e
     all_goals cases e
    revert h
    cases hv:s.ev (.const c) with
    | F0 l=>exact absurd hv (this l)
    | _=>intro h; cases h
   | global g=>cases h
   | func f=>cases h
  obtain ⟨m,l,v,rfl,hmg,hm,hn,rfl⟩:=key
  have hmL:m∈L:=hL m (by rw [hop]; simp [Op.operands])
  have hvm:x7 o (s.get m)=.F0 (.cons v .nil):=by rw [hvw,hm]; simp only [hn]
  refine ⟨v,[],fun u=>u,fun _=>none,Trim.id _,by simp [K4],by simp,fun i hi=>.inl ⟨m,hmL,by rw [hvm]; simpa [AV.e8] using hi⟩,fun t hu ha _=>?_⟩
  have e1:=(ha m hmL).1
  rw [hvm,hvw] at e1
  have htv:∃ l',t.get m=.F0 l'∧l4.nth j l'=some v:=by
   split at e1
   ·rename_i l' hl'
    split at e1
    ·rename_i v' hv'
     cases e1
     exact ⟨l',hl',hv'⟩
    ·cases e1
   ·cases e1
  obtain ⟨l',f1,f2⟩:=htv
  have hte:t.ev (.tmp m)=.F0 l':=b2m hmg f1
  exact ⟨t.put o.dst v,by rw [hr,hte]; simp only [f2]; rfl,Y3 hu,⟨fun n=>by rw [B5]; simp,fun i=>by rw [E5]; simp⟩⟩
 have hvS:∀ {t:St},a1A o s t L→a5h s t L:=fun ha=>ha.plain hvw
 by_cases hp:∃ a b c,o.op=.pick a b c
 ·obtain ⟨c,a,b,ho⟩:=hp
  have hd:x3 E.nt o.dst=true:=by
   unfold F7 at h
   split at h
   ·cases h
   ·assumption
  have hr:∀ t,F7 E o t=(match t.ev c with|.val .bool g=>some (True,t.put o.dst (match g with|true=>t.ev a|false=>t.ev b))|_=>none):=by
   intro t
   unfold F7
   rw [hd,ho]
   rfl
  have hT:i7 E o s=[]:=by unfold i7; rw [ho]
  rw [hT]
  rw [hr] at h
  have hops:o.op.operands.toList=[c,a,b]:=by rw [ho]; rfl
  rw [hops] at hL
  have key:∃ g:Bool,s.ev c=.val .bool g:=by
   split at h
   ·exact ⟨_,by assumption⟩
   ·cases h
  obtain ⟨g,hg⟩:=key
  rw [hg] at h
  simp only [Option.some.injEq,Prod.mk.injEq] at h
  obtain ⟨rfl,rfl⟩:=h
  refine ⟨(if g=true then s.ev a else s.ev b),[],fun u=>u,fun _=>none,Trim.id _,by simp [K4],by simp,?_,?_⟩
  ·intro i hi
   cases g with
   | true=>obtain ⟨m,hm,hi⟩:=a3h hi; exact .inl ⟨m,hL m (by simp [← hm]),by rw [hvw]; exact hi⟩
   | false=>obtain ⟨m,hm,hi⟩:=a3h hi; exact .inl ⟨m,hL m (by simp [← hm]),by rw [hvw]; exact hi⟩
  ·intro t hu ha _
   have hag:=(hvS ha).agree hL
   have e1:=(hag c (by simp)).1
   have e2:=(hag a (by simp)).1
   have e3:=(hag b (by simp)).1
   refine ⟨_,by rw [hr,e1,hg,e2,e3],Y3 hu,⟨fun n=>by rw [B5]; cases g<;>simp,fun i=>by rw [E5]; simp⟩⟩
 ·have hp':∀ a b c,o.op≠.pick a b c:=fun a b c e=>hp ⟨a,b,c,e⟩
  have hd:x3 E.nt o.dst=true:=by
   unfold F7 at h
   split at h
   ·cases h
   ·assumption
  have hr:∀ t,F7 E o t=(match (l4 E o t).get with|none=>none|some (p,v,s')=>some (p,s'.put o.dst v)):=by
   intro t
   unfold F7
   rw [hd]
   cases ho:o.op<;>first|rfl|exact absurd ho (hp' _ _ _)
  rw [hr] at h
  split at h
  ·cases h
  ·rename_i p' v s' hg
   cases h
   obtain ⟨ids,f,h,k1,k2,k3,k4,k5⟩:=b7h hp' hg
   refine ⟨v,ids,f,h,k1,k2,k3,?_,?_⟩
   ·intro i hi
    rcases k4 i hi with ⟨x,hx,hm⟩|hm
    ·obtain ⟨m,rfl,hm⟩:=a3h hm
     exact .inl ⟨m,hL m hx,by rw [hvw]; exact a1j hm⟩
    ·exact .inr hm
   ·intro t hu ha hf
    obtain ⟨t1,e1,e2,e3⟩:=k5 t hu ((hvS ha).agree hL) hf
    exact ⟨t1.put o.dst v,by rw [hr,e1],Y3 e2,⟨fun n=>by rw [B5,e3.fr],fun i=>by rw [E5,e3.hp]⟩⟩

theorem a58 {g:Nat} {v:AV} (hv:s.get g=v) (hn:v≠.any):C1 s (s.put (some g) v):=by
 refine ⟨fun n=>?_,fun i=>rfl⟩
 rw [B5]
 split
 ·rename_i e
  cases e
  simp only [St.get] at hv
  cases hl:look g s.fr with
  | none=>rw [hl] at hv; exact absurd hv.symm hn
  | some w=>rw [hl] at hv; simp at hv; rw [hv]
 ·rfl

theorem G5 {o:Oper} {m:Nat} (hm:Operand.tmp m∈o.op.operands.toList):m∈looks ops o:=List.mem_append_left _ (List.mem_filterMap.2 ⟨_,hm,rfl⟩)

theorem a6E {o:Oper} {i:Nat} (hi:i∈i7 E o s):∃ m∈looks ops o,(s.get m).e8 i=true:=by
 obtain ⟨x,hx,hm⟩:=a3v hi
 obtain ⟨m,rfl,hm⟩:=a3h hm
 exact ⟨m,G5 hx,a1j hm⟩

theorem b4e {o:Oper} (h:∀ m∈looks ops o,t.get m=s.get m):i7 E o t=i7 E o s :=
 a54 (fun x hx=>by
  cases x with
  | tmp m=>exact J1 (h m (G5 hx))
  | _=>rfl)

theorem b0T {o:Oper} {i:Nat} (hi:i∈i7 E o s):∃ m∈looks ops o,(x7 o (s.get m)).e8 i=true:=by
 rcases a0g o with h|⟨_,x,j,hop,_⟩
 ·obtain ⟨m,hm,hmi⟩:=a6E (ops:=ops) hi
  exact ⟨m,hm,by rw [h]; exact hmi⟩
 ·unfold i7 at hi; rw [hop] at hi; cases hi

theorem a1J {o:Oper} (h:∀ m∈looks ops o,x7 o (t.get m)=x7 o (s.get m)):i7 E o t=i7 E o s:=by
 rcases a0g o with e|⟨_,x,j,hop,_⟩
 ·exact b4e (fun m hm=>by have:=h m hm; simpa only [e] using this)
 ·unfold i7; rw [hop]

theorem R9 {o:Oper} (_hu:uniq s.fr) {p:Prop} {s1:St} (h:q8 E ops o s=some (p,s1)):Eff o (q8 E ops o) o.dst (looks ops o) (i7 E o s) s p:=by
 have hL:∀ m,Operand.tmp m∈o.op.operands.toList→m∈looks ops o:=fun m hm=>G5 hm
 cases hg:o.guard with
 | none =>
  have hr:∀ t,q8 E ops o t=F7 E o t:=fun t=>by unfold q8; rw [hg]
  rw [hr] at h
  have:=a9s h hL
  rwa [← (funext hr:q8 E ops o=F7 E o)] at this
 | some jw =>
  obtain ⟨j,want⟩:=jw
  have hvw:∀ v,x7 o v=v:=by
   rcases a0g o with e|⟨hgn,_⟩
   ·exact e
   ·rw [hg] at hgn; cases hgn
  have hvS:∀ {t:St} {L:List Nat},a1A o s t L→a5h s t L:=fun ha=>ha.plain hvw
  cases hs:a0x ops j with
  | none=>unfold q8 at h; rw [hg] at h; simp [hs] at h
  | some g =>
   have hgL:g∈looks ops o:=by unfold looks; rw [hg]; simp [hs]
   have hr:∀ t,q8 E ops o t=(match t.ev (.tmp g) with
    | .raw (.tuple _)=>match x3 E.nt o.dst with
     | true=>some (True,t.put o.dst (.raw undef))
     | false=>none
    | .val .bool b=>match x3 E.nt o.dst with
     | false=>none
     | true=>match b == want with
      | true=>F7 E o (t.put (some g) (.val .bool b))
      | false=>some (True,(t.put (some g) (.val .bool b)).put o.dst (.raw undef))
    | _=>none):=fun t=>by unfold q8; rw [hg]; dsimp only; rw [hs]; rfl
   have skip:(∀ t,uniq t.fr→t.ev (.tmp g)=s.ev (.tmp g)→∃ t1,q8 E ops o t=some (True,t1)∧uniq t1.fr∧C1 t1 (t.put o.dst (.raw undef)))→Eff o (q8 E ops o) o.dst (looks ops o) (i7 E o s) s True:=by
    intro hrun
    refine ⟨.raw undef,[],fun u=>u,fun i=>look i s.hp,Trim.id _,by simp [K4],by simp,fun i hi=>by simp [AV.e8] at hi,fun t hut ha _=>?_⟩
    have ha:=hvS ha
    obtain ⟨t1,e1,e2,e3⟩:=hrun t hut (J1 (ha g hgL).1)
    refine ⟨t1,e1,e2,⟨fun n=>by rw [e3.1,B5]; simp,fun i=>?_⟩⟩
    rw [e3.2,E5]
    split
    ·rename_i hi
     obtain ⟨m,hm,hmi⟩:=a6E (ops:=ops) (by simpa using hi:i∈i7 E o s)
     exact (ha m hm).2 i hmi
    ·rfl
   rw [hr] at h
   cases hv:s.ev (.tmp g) with
   | raw w =>
    rw [hv] at h
    cases w with
    | tuple vs =>
     simp only at h
     cases hd:x3 E.nt o.dst with
     | false=>rw [hd] at h; cases h
     | true =>
      rw [hd] at h
      simp only [Option.some.injEq,Prod.mk.injEq] at h
      obtain ⟨rfl,rfl⟩:=h
      exact skip (fun t hut ht=>⟨_,by rw [hr,ht,hv]; simp only [hd],Y3 hut,C1.refl _⟩)
    | _=>cases h
   | val u b =>
    rw [hv] at h
    cases u with
    | bool =>
     simp only at h
     cases hd:x3 E.nt o.dst with
     | false=>rw [hd] at h; cases h
     | true =>
      rw [hd] at h
      simp only at h
      cases hb:(b == want) with
      | false =>
       rw [hb] at h
       simp only [Option.some.injEq,Prod.mk.injEq] at h
       obtain ⟨rfl,rfl⟩:=h
       exact skip (fun t hut ht=>⟨_,by rw [hr,ht,hv]; simp only [hd,hb],Y3 (Y3 hut),((a58 (S4 (ht.trans hv) (by simp)) (by simp)).symm.put _ _)⟩)
      | true =>
       rw [hb] at h
       simp only at h
       have hsame:=a58 (S4 hv (by simp)) (by simp)
       obtain ⟨v,ids,f,hh,k1,k2,k3,k4,k5⟩:=a9s h hL
       have hTe:i7 E o (s.put (some g) (.val .bool b))=i7 E o s:=a54 (fun x _=>(hsame.ev x).symm)
       rw [hTe] at k1 k5
       refine ⟨v,ids,f,hh,k1,k2.eqv hsame.symm,k3,?_,?_⟩
       ·intro i hi
        rcases k4 i hi with ⟨m,hm,hmi⟩|hm
        ·exact .inl ⟨m,hm,by rw [hsame.get]; exact hmi⟩
        ·exact .inr hm
       ·intro t hut ha hf
        have ha:=hvS ha
        have htg:t.ev (.tmp g)=.val .bool b:=(J1 (ha g hgL).1).trans hv
        have hst:=a58 (S4 htg (by simp)) (by simp)
        obtain ⟨t1,e1,e2,e3⟩:=k5 (t.put (some g) (.val .bool b)) (Y3 hut) (fun m hm=>by
         rw [← hst.get,← hsame.get,hvw,hvw]
         refine ⟨(ha m hm).1,fun i hi=>?_⟩
         have:=(ha m hm).2 i hi
         simpa [St.obj,E5] using this) (hf.eqv hst)
        refine ⟨t1,by rw [hr,htg]; simp only [hd,hb,e1],e2,e3.eqv hst.symm⟩
    | _=>cases h
   | _=>rw [hv] at h; cases h

theorem a4v {o:Oper} (hu:uniq s.fr) (he:C1 s t) (ht:uniq t.fr) {p:Prop} {s1:St} (h:q8 E ops o s=some (p,s1)):∃ t1,q8 E ops o t=some (p,t1)∧uniq t1.fr∧C1 s1 t1:=by
 obtain ⟨v,ids,f,hh,k1,k2,k3,k4,k5⟩:=R9 hu h
 obtain ⟨s1',e1,_,e3⟩:=k5 s hu ((C1.refl s).a0m _ _) k2
 rw [h] at e1; cases e1
 obtain ⟨t1,f1,f2,f3⟩:=k5 t ht (he.a0m _ _) (k2.eqv he)
 exact ⟨t1,f1,f2,e3.det f3 he⟩

theorem y6 {o:Oper} (hu:uniq s.fr) {p:Prop} {s1:St} (h:q8 E ops o s=some (p,s1)):uniq s1.fr:=by
 obtain ⟨t1,h1,h2,_⟩:=a4v hu (C1.refl s) hu h
 rw [h] at h1; cases h1; exact h2

theorem a7f:∀ {v:AV} {i:Nat},v.clean=true→v.e8 i=false:=by
 intro v
 induction v with
 | cons a b iha ihb =>
  intro i h
  simp only [AV.clean,Bool.and_eq_true] at h
  simp [AV.e8,iha h.1,ihb h.2]
 | F0 l ih=>intro i h; exact ih h
 | y7 f l ih=>intro i h; exact ih h
 | bx l ih=>intro i h; exact ih h
 | rc f l ih=>intro i h; exact ih h
 | ptr i p=>intro i h; cases h
 | at_ i p=>intro i h; cases h
 | sub i p a b=>intro i h; cases h
 | _=>intro i h; rfl

theorem b04 {o:Oper} (hu:uniq s.fr) {p:Prop} {s1:St} (h:q8 E ops o s=some (p,s1)) {m:Nat} (hm:o.dst≠some m) (hc:(s.get m).clean=true):(s1.get m).clean=true:=by
 obtain ⟨v,ids,f,hh,k1,k2,k3,k4,k5⟩:=R9 hu h
 obtain ⟨s1',e1,_,e3⟩:=k5 s hu ((C1.refl s).a0m _ _) k2
 rw [h] at e1; cases e1
 rw [e3.get k1 hm,k1.fix _ (fun i _=>a7f hc)]
 exact hc

end
end Go.Ex

namespace Go.Ex

section
variable {E:Env} {ops:Array Oper} {s t:St}

theorem get_some {m:Nat} {v:AV} (h:look m s.fr=some v):s.get m=v:=by simp [St.get,h]
theorem b5P {m i:Nat} (h:(s.get m).e8 i=true):∃ v,look m s.fr=some v∧v.e8 i=true:=by
 simp only [St.get] at h
 cases hl:look m s.fr with
 | none=>rw [hl] at h; cases h
 | some v=>rw [hl] at h; exact ⟨v,rfl,h⟩

theorem a0O {x y:Oper} (h:indep ops x y=true):(∀ d,x.dst=some d→d∉looks ops y)∧(∀ d,y.dst=some d→d∉looks ops x)∧(x.dst.getD 0) % 1000≠(y.dst.getD 0) % 1000:=by
 simp only [indep,Bool.and_eq_true,Bool.not_eq_true',b48] at h
 obtain ⟨⟨h3,h4⟩,h5⟩:=h
 refine ⟨?_,?_,fun e=>?_⟩
 ·intro d hd
  rw [hd] at h3
  simp only [Bool.and_eq_true,Bool.not_eq_true'] at h3
  intro hm
  have:=h3.1
  simp [hm] at this
 ·intro d hd
  rw [hd] at h4
  simp only [Bool.not_eq_true'] at h4
  intro hm
  simp [hm] at h4
 ·rw [e] at h5
  simp at h5

theorem a07 {ids:List Nat} (hn:K4 s ids) {n m:Nat} (h:n∈ids):(s.get m).e8 n=false:=by
 cases hm:(s.get m).e8 n with
 | false=>rfl
 | true =>
  obtain ⟨v,hv,hvi⟩:=b5P hm
  rw [(hn n h).2 m v hv] at hvi; cases hvi

theorem b6O {u:AV} (hr:u.ref=true) {i j:Nat} (h1:u.e8 i=true) (h2:u.e8 j=true):i=j:=by
 cases u<;>simp only [AV.ref] at hr<;>first|(cases hr; done)|(simp only [AV.e8] at h1 h2; exact (Nat.eq_of_beq_eq_true h1).trans (Nat.eq_of_beq_eq_true h2).symm)

theorem b23 {u:AV} (h:u.plain=true) {i:Nat}:u.e8 i=false:=by
 cases u<;>simp only [AV.plain] at h<;>first|rfl|(cases h; done)

theorem Trim.stay {T:List Nat} {f:AV→AV} (hf:Trim T f) {n:Nat} (hn:n∉T):∀ u:AV,u.e8 n=true→(f u).e8 n=true:=by
 refine AV.shape _ (fun u hu h=>?_) (fun u hu h=>?_) ?_ ?_ ?_ ?_ ?_
 ·rw [b23 hu] at h; cases h
 ·rw [hf.a4D u hu (fun i hi=>?_)]
  ·exact h
  ·cases hm:u.e8 i with
   | false=>rfl
   | true=>exact absurd (b6O hu hm h▸hi) hn
 ·intro a b ha hb h
  rw [hf.cons]
  simp only [AV.e8,Bool.or_eq_true] at h ⊢
  exact h.imp ha hb
 ·intro l hl h; rw [hf.F0]; exact hl h
 ·intro k l hl h; rw [hf.y7]; exact hl h
 ·intro l hl h; rw [hf.bx]; exact hl h
 ·intro k l hl h; rw [hf.rc]; exact hl h

theorem swap {x y:Oper} (hi:indep ops x y=true) (hu:uniq s.fr) (hx:∀ d,x.dst=some d→(s.get d).clean=true) {p q:Prop} {s1 s2:St} (h1:q8 E ops x s=some (p,s1)) (h2:q8 E ops y s1=some (q,s2))
  (hP:a1n ops x s (i7 E x s) y (i7 E y s1)) :
  ∃ s1' s2',q8 E ops y s=some (q,s1')∧q8 E ops x s1'=some (p,s2')∧uniq s1'.fr∧uniq s2'.fr∧C1 s2' s2∧i7 E y s=i7 E y s1∧i7 E x s1'=i7 E x s ∧
   (∀ m∈looks ops x,x7 x (s1'.get m)=x7 x (s.get m))∧∀ (z:Oper) m,∀ i∈i7 E x s,(x7 z (s1'.get m)).e8 i=true→(x7 z (s.get m)).e8 i=true:=by
 obtain ⟨ax,ay,hmod⟩:=a0O hi
 obtain ⟨P1,P2,P3⟩:=hP
 have hu1:=y6 hu h1
 obtain ⟨v,ids,f,g,k1,k2,k3,k4,k5⟩:=R9 hu h1
 obtain ⟨_,e1,_,hs1⟩:=k5 s hu ((C1.refl s).a0m _ _) k2
 rw [h1] at e1; cases e1
 obtain ⟨v',ids',f',g',m1,m2,m3,m4,m5⟩:=R9 hu1 h2
 obtain ⟨_,e2,_,hs2⟩:=m5 s1 hu1 ((C1.refl s1).a0m _ _) m2
 rw [h2] at e2; cases e2
 have hdd:∀ d,x.dst=some d→y.dst=some d→False:=fun d e1 e2=>hmod (by rw [e1,e2])
 -- what y looks at has not turned
 have hget:∀ m∈looks ops y,x7 y (s1.get m)=x7 y (s.get m):=by
  intro m hm
  rw [hs1.get k1 (fun e=>ax m e hm),a3s k1,k1.fix _ (fun i hi=>P1 m hm i hi)]
 have hTy:i7 E y s=i7 E y s1:=(a1J hget).symm
 have hTy2:∀ i∈i7 E y s1,∃ m∈looks ops y,(x7 y (s.get m)).e8 i=true:=by
  intro i hi
  obtain ⟨m,hm,hmi⟩:=b0T (ops:=ops) hi
  exact ⟨m,hm,by rw [← hget m hm]; exact hmi⟩
 have d1:∀ i∈i7 E x s,i∉i7 E y s1:=by
  intro i hi hj
  obtain ⟨m,hm,hmi⟩:=hTy2 i hj
  rw [P1 m hm i hi] at hmi; cases hmi
 have d2:∀ i∈ids,i∉i7 E y s1:=by
  intro i hi hj
  obtain ⟨m,hm,hmi⟩:=hTy2 i hj
  have hmi:=a0p hmi
  rw [a07 k2 hi] at hmi; cases hmi
 have d3:∀ i∈i7 E x s,i∉ids':=fun i hi hj=>P3 i hi (m3 i hj)
 have d4:∀ i∈ids,i∉ids':=fun i hi hj=>hmod ((k3 i hi).symm.trans (m3 i hj))
 have hlook:∀ i,i∉i7 E x s→i∉ids→look i s1.hp=look i s.hp:=fun i h1 h2=>by rw [hs1.hp,if_neg (by rintro (h|h); exact h1 h; exact h2 h)]
 have hag:a1A y s1 s (looks ops y):=by
  intro m hm
  refine ⟨(hget m hm).symm,fun i hi=>?_⟩
  rw [hget m hm] at hi
  refine (hlook i (fun h=>?_) (fun h=>?_)).symm
  ·rw [P1 m hm i h] at hi; cases hi
  ·have hi:=a0p hi
   rw [a07 k2 h] at hi; cases hi
 have hfr':K4 s ids':=by
  intro n hn
  refine ⟨?_,fun m w hw=>?_⟩
  ·rw [← hlook n (fun h=>d3 n h hn) (fun h=>d4 n h hn)]; exact (m2 n hn).1
  ·by_cases hd:x.dst=some m
   ·have:=hx m hd
    rw [get_some hw] at this
    exact a7f this
   ·cases hwn:w.e8 n with
    | false=>rfl
    | true =>
     have:=k1.stay (fun h=>d3 n h hn) w hwn
     have h3:=(m2 n hn).2 m (f w) (by rw [hs1.fr,if_neg hd,hw]; rfl)
     rw [this] at h3; cases h3
 obtain ⟨s1',f1,fu,hs1'⟩:=m5 s hu hag hfr'
 have hget2:∀ m∈looks ops x,x7 x (s1'.get m)=x7 x (s.get m):=by
  intro m hm
  rw [hs1'.get m1 (fun e=>ay m e hm),a3s m1,m1.fix _ (fun i hi=>P2 m hm i hi)]
 have hag2:a1A x s s1' (looks ops x):=by
  intro m hm
  refine ⟨hget2 m hm,fun i hi=>?_⟩
  show look i s1'.hp=look i s.hp
  rw [hs1'.hp,if_neg]
  rintro (h|h)
  ·rw [P2 m hm i h] at hi; cases hi
  ·have hi:=a0p hi
   rw [a07 hfr' h] at hi; cases hi
 -- what y yields speaks of nothing that x takes or lays
 have hv':∀ i,v'.e8 i=true→i∉i7 E x s∧i∉ids:=by
  intro i hi
  rcases m4 i hi with ⟨m,hm,hmi⟩|hmi
  ·rw [hget m hm] at hmi
   refine ⟨fun h=>?_,fun h=>?_⟩
   ·rw [P1 m hm i h] at hmi; cases hmi
   ·have hmi:=a0p hmi
    rw [a07 k2 h] at hmi; cases hmi
  ·exact ⟨fun h=>d3 i h hmi,fun h=>d4 i h hmi⟩
 have hv:∀ i,v.e8 i=true→i∉i7 E y s1:=by
  intro i hi
  rcases k4 i hi with ⟨m,hm,hmi⟩|hmi
  ·exact fun h=>by rw [P2 m hm i h] at hmi; cases hmi
  ·exact d2 i hmi
 have hfr2:K4 s1' ids:=by
  intro n hn
  refine ⟨?_,fun m w hw=>?_⟩
  ·rw [hs1'.hp,if_neg]
   ·exact (k2 n hn).1
   ·rintro (h|h)
    ·exact d2 n hn h
    ·exact d4 n hn h
  ·rw [hs1'.fr] at hw
   split at hw
   ·cases hw
    cases hm:v'.e8 n with
    | false=>rfl
    | true=>exact absurd hn (hv' n hm).2
   ·cases hl:look m s.fr with
    | none=>rw [hl] at hw; cases hw
    | some u =>
     rw [hl] at hw
     cases hw
     cases hm:(f' u).e8 n with
     | false=>rfl
     | true=>have:=m1.e8 u hm; rw [(k2 n hn).2 m u hl] at this; cases this
 obtain ⟨s2',g1,gu,hs2'⟩:=k5 s1' fu hag2 hfr2
 refine ⟨s1',s2',f1,g1,fu,gu,⟨fun n=>?_,fun i=>?_⟩,hTy,a1J hget2,hget2,?_⟩
 ·rw [hs2'.fr,hs2.fr,hs1'.fr,hs1.fr]
  by_cases a:x.dst=some n
  ·rw [if_pos a,if_neg (fun b=>hdd n a b),if_pos a,Option.map_some,m1.fix v]
   intro i hi
   cases hm:v.e8 i with
   | false=>rfl
   | true=>exact absurd hi (hv i hm)
  ·rw [if_neg a,if_neg a]
   by_cases b:y.dst=some n
   ·rw [if_pos b,if_pos b,Option.map_some,k1.fix v']
    intro i hi
    cases hm:v'.e8 i with
    | false=>rfl
    | true=>exact absurd hi (hv' i hm).1
   ·rw [if_neg b,if_neg b,Option.map_map,Option.map_map]
    congr 1
    funext u
    exact k1.comm m1 u
 ·rw [hs2'.hp,hs2.hp,hs1'.hp,hs1.hp]
  by_cases a:i∈i7 E x s∨i∈ids
  ·rw [if_pos a,if_neg,if_pos a]
   rintro (b|b)
   ·rcases a with a|a
    ·exact d1 i a b
    ·exact d2 i a b
   ·rcases a with a|a
    ·exact d3 i a b
    ·exact d4 i a b
  ·rw [if_neg a,if_neg a]
 ·intro z m i hi hm
  by_cases b:y.dst=some m
  ·have:s1'.get m=v':=get_some (by rw [hs1'.fr,if_pos b])
   rw [this] at hm
   exact absurd hi (hv' i (a0p hm)).1
  ·rw [hs1'.get m1 b,a3s m1] at hm
   exact m1.e8 _ hm

end
end Go.Ex

namespace Go.Ex

section
variable {E:Env} {ops:Array Oper} {M:Nat→Nat} {s t:St}

def rem (ops:Array Oper) (l:List Nat):List Oper:=l.filterMap fun i=>ops[i]?

theorem a03 {i:Nat} {o:Oper} {l:List Nat} (h:ops[i]?=some o):rem ops (i::l)=o::rem ops l:=by simp [rem,h]
theorem Z6 {l m:List Nat}:rem ops (l++m)=rem ops l++rem ops m:=by simp [rem,List.filterMap_append]

def B8 (s:St) (l:List Oper):Prop:=∀ o∈l,∀ d,o.dst=some d→(s.get d).clean=true

def A6:List Oper→Prop
 | []=>True
 | o::l=>(∀ d,o.dst=some d→∀ x∈l,x.dst≠some d)∧A6 l

theorem B8.sub {l l':List Oper} (h:B8 s l) (hs:∀ o∈l',o∈l):B8 s l':=fun o ho=>h o (hs o ho)

def nl (ops:Array Oper) (l:List Nat):List Nat:=l.filter (fun j=>!a1b ops j)
theorem a6X {l m:List Nat}:nl ops (l++m)=nl ops l++nl ops m:=by simp [nl]
theorem b4v {l:List Nat} {i:Nat} (hi:i<ops.size) (h:∀ j∈l,j<i) (hm:∀ j∈l,((s4 ops.toList []).getD i 0).testBit j=false):nl ops l=l :=
 List.filter_eq_self.2 (fun j hj=>by
  cases e:a1b ops j with
  | false=>rfl
  | true =>
   unfold a1b at e
   rw [List.all_eq_true] at e
   have:=e i (List.mem_range.2 hi)
   rw [hm j hj,show Nat.blt j i=true by rw [Nat.blt_eq]; exact h j hj] at this
   cases this)
theorem b1p {j:Nat} (h:a1b ops j=false):j+1<ops.size:=by
 rcases Nat.lt_or_ge (j+1) ops.size with h1|h1
 ·exact h1
 ·exfalso
  have:a1b ops j=true:=by
   unfold a1b
   rw [List.all_eq_true]
   intro i hi
   have:=List.mem_range.1 hi
   have:Nat.blt j i=false:=by
    cases e:Nat.blt j i with
    | false=>rfl
    | true=>rw [Nat.blt_eq] at e; omega
   rw [this]; rfl
  rw [this] at h; cases h
theorem b4u {l:List Nat}:∀ o∈rem ops (nl ops l),o∈rem ops l:=fun o ho=>by
 obtain ⟨j,h1,h2⟩:=List.mem_filterMap.1 ho
 exact List.mem_filterMap.2 ⟨j,(List.mem_filter.1 h1).1,h2⟩

theorem B8.step {o:Oper} {l:List Oper} (hu:uniq s.fr) (hc:B8 s l) (hd:∀ x∈l,∀ d,x.dst=some d→o.dst≠some d) {p:Prop} {s1:St} (h:q8 E ops o s=some (p,s1)):B8 s1 l :=
 fun x hx d hxd=>b04 hu h (hd x hx d hxd) (hc x hx d hxd)

def b71 (E:Env) (ops:Array Oper) (acc acc':List (Nat×St)):Prop :=
 ∀ e'∈acc',∃ e∈acc,e.1=e'.1∧∀ x,ops[e.1]?=some x→(∀ m∈looks ops x,x7 x (e'.2.get m)=x7 x (e.2.get m))∧i7 E x e'.2=i7 E x e.2∧∀ (z:Oper) m,∀ k∈i7 E x e.2,(x7 z (e'.2.get m)).e8 k=true→(x7 z (e.2.get m)).e8 k=true

theorem a1n.a9N {x:Oper} {sx sx':St} {y:Oper} {Ty Ty':List Nat} (h:a1n ops x sx (i7 E x sx) y Ty) (h1:∀ m∈looks ops x,x7 x (sx'.get m)=x7 x (sx.get m)) (h2:i7 E x sx'=i7 E x sx) (h3:∀ (z:Oper) m,∀ k∈i7 E x sx,(x7 z (sx'.get m)).e8 k=true→(x7 z (sx.get m)).e8 k=true) (hT:Ty'=Ty) :
  a1n ops x sx' (i7 E x sx') y Ty':=by
 subst hT
 obtain ⟨P1,P2,P3⟩:=h
 rw [h2]
 refine ⟨fun m hm i hi=>?_,fun m hm i hi=>by rw [h1 m hm]; exact P2 m hm i hi,P3⟩
 cases hh:(x7 y (sx'.get m)).e8 i with
 | false=>rfl
 | true=>have:=h3 y m i hi hh; rw [P1 m hm i hi] at this; cases this

theorem a2z {o:Oper} (h:C1 s t):i7 E o t=i7 E o s:=a54 (fun x _=>(h.ev x).symm)

theorem a3A:∀ {l:List Nat} {acc acc':List (Nat×St)} {s t s':St},b71 E ops acc acc'→uniq s.fr→C1 s t→uniq t.fr→O8 E ops M acc l s s'→∃ t',O8 E ops M acc' l t t'∧C1 s' t'
 | [],acc,acc',s,t,s',_,_,he,_,h=>⟨t,rfl,by rw [← show s=s' from h]; exact he⟩
 | i::l,acc,acc',s,t,s',hg,hu,he,ht,⟨o,ho,hc,p,s1,h1,h2,h3⟩=>by
  obtain ⟨t1,k1,k2,k3⟩:=a4v hu he ht h1
  obtain ⟨t',m1,m2⟩:=a3A (acc:=(i,s)::acc) (acc':=(i,t)::acc') (fun e' he'=>by
   rcases List.mem_cons.1 he' with rfl|he'
   ·exact ⟨(i,s),by simp,rfl,fun x _=>⟨fun m _=>by show x7 x (t.get m)=x7 x (s.get m); rw [he.get m],a2z he,fun z m k _ hm=>by have hm:(x7 z (t.get m)).e8 k=true:=hm; rw [← he.get m] at hm; exact hm⟩⟩
   ·obtain ⟨e,h4,h5,h6⟩:=hg e' he'; exact ⟨e,by simp [h4],h5,h6⟩) (y6 hu h1) k3 k2 h3
  refine ⟨t',⟨o,ho,fun e' he'=>?_,p,t1,k1,h2,m1⟩,m2⟩
  obtain ⟨e,h4,h5,h6⟩:=hg e' he'
  rw [← h5]
  rcases hc e h4 with h|⟨x,hx,hP⟩
  ·exact .inl h
  ·obtain ⟨g1,g2,g3⟩:=h6 x hx
   exact .inr ⟨x,hx,hP.a9N g1 g2 g3 (a2z he)⟩

theorem a4V {i:Nat} {o:Oper} (ho:ops[i]?=some o) {post:List Nat}:∀ {pre:List Nat} {acc:List (Nat×St)} {s s':St},A6 (rem ops (pre++i::post))→(∀ j∈pre,(M i).testBit j=false∧∀ x,ops[j]?=some x→indep ops x o=true)→uniq s.fr→B8 s (rem ops pre) →
  O8 E ops M acc (pre++i::post) s s' →
  ∃ p s1 s2,q8 E ops o s=some (p,s1)∧p∧O8 E ops M acc (pre++post) s1 s2∧C1 s2 s'∧∀ e∈acc,(M i).testBit e.1=true∨∃ x,ops[e.1]?=some x∧a1n ops x e.2 (i7 E x e.2) o (i7 E o s)
 | [],acc,s,s',_,_,hu,_,⟨o',ho',hc,p,s1,h1,h2,h3⟩=>by
  rw [ho] at ho'; cases ho'
  obtain ⟨t',m1,m2⟩:=a3A (acc:=(i,s)::acc) (acc':=acc) (fun e he=>⟨e,by simp [he],rfl,fun x _=>⟨fun _ _=>rfl,rfl,fun _ _ _ _ h=>h⟩⟩) (y6 hu h1) (C1.refl s1) (y6 hu h1) h3
  exact ⟨p,s1,t',h1,h2,m1,m2.symm,hc⟩
 | j::pre,acc,s,s',hap,hin,hu,hcl,⟨x,hx,hc,p,s1,h1,h2,h3⟩=>by
  have hu1:=y6 hu h1
  have er:rem ops (j::pre++i::post)=x::rem ops (pre++i::post):=a03 hx
  rw [er] at hap
  rw [a03 hx] at hcl
  have hdj:∀ y∈rem ops pre,∀ d,y.dst=some d→x.dst≠some d:=fun y hy d hyd hxd=>hap.1 d hxd y (by rw [Z6]; exact List.mem_append_left _ hy) hyd
  have hcl1:B8 s1 (rem ops pre):=B8.step hu (fun y hy=>hcl y (by simp [hy])) hdj h1
  obtain ⟨q,sa,sb,k1,k2,k3,k4,k5⟩:=a4V ho (pre:=pre) (acc:=(j,s)::acc) hap.2 (fun y hy=>hin y (by simp [hy])) hu1 hcl1 h3
  obtain ⟨hnb,hind⟩:=hin j (by simp)
  have hP:a1n ops x s (i7 E x s) o (i7 E o s1):=by
   rcases k5 (j,s) (by simp) with h|⟨x',hx',hP⟩
   ·rw [hnb] at h; cases h
   ·have hx':ops[j]?=some x':=hx'
    rw [hx] at hx'; cases hx'; exact hP
  obtain ⟨s1',s2',m1,m2,m3,m4,m5,m6,m7,m8,m9⟩:=swap (hind x hx) hu (fun d hd=>hcl x (by simp) d hd) h1 k1 hP
  obtain ⟨t',n1,n2⟩:=a3A (acc:=(j,s)::acc) (acc':=(j,s1')::acc) (fun e' he'=>by
   rcases List.mem_cons.1 he' with rfl|he'
   ·refine ⟨(j,s),by simp,rfl,fun y hy=>?_⟩
    have hy:ops[j]?=some y:=hy
    rw [hx] at hy; cases hy
    exact ⟨m8,m7,m9⟩
   ·exact ⟨e',by simp [he'],rfl,fun y _=>⟨fun _ _=>rfl,rfl,fun _ _ _ _ h=>h⟩⟩) (y6 hu1 k1) m5.symm m4 k3
  refine ⟨q,s1',t',m1,k2,⟨x,hx,fun e he=>?_,p,s2',m2,h2,n1⟩,n2.symm.trans k4,fun e he=>?_⟩
  ·rcases hc e he with h|⟨y,hy,hP⟩
   ·exact .inl h
   ·exact .inr ⟨y,hy,by rw [m7]; exact hP⟩
  ·rcases k5 e (by simp [he]) with h|⟨y,hy,hP⟩
   ·exact .inl h
   ·exact .inr ⟨y,hy,by rw [m6]; exact hP⟩

end
end Go.Ex

namespace Go.Ex

section
variable {E:Env} {ops:Array Oper} {B:y9} {S:Nat→Prop} {ι:Ix} {s:St} {a:Act} {w:World}

def idxs (n:Nat) (listed:Array Bool):List Nat:=(List.range n).filter fun i=>!listed.getD i true

theorem o8 {n i:Nat} {listed:Array Bool}:i∈idxs n listed↔i<n∧listed.getD i true=false:=by
 simp [idxs]

theorem J8 (n:Nat) (listed:Array Bool):(idxs n listed).Pairwise (·<·):=List.Pairwise.filter _ List.pairwise_lt_range

theorem N3 {n i:Nat} {listed:Array Bool} (hs:listed.size=n) (hi:i<n):idxs n (listed.setIfInBounds i true)=(idxs n listed).filter (fun k=>!(k == i)):=by
 unfold idxs
 rw [List.filter_filter]
 refine List.filter_congr (fun k hk=>?_)
 by_cases e:k=i
 ·subst e
  have:k<listed.size:=by omega
  simp [this]
 ·have:(listed.setIfInBounds i true).getD k true=listed.getD k true:=getD_set_ne true (Ne.symm e)
  rw [this]
  simp [e]

theorem S3 {n i:Nat} {listed:Array Bool} (hi:i∈idxs n listed):∃ pre post,idxs n listed=pre++i::post∧(∀ j∈pre,j<i)∧(idxs n listed).filter (fun k=>!(k == i))=pre++post:=by
 obtain ⟨pre,post,e⟩:=List.append_of_mem hi
 have hp:=J8 n listed
 rw [e,List.pairwise_append] at hp
 obtain ⟨h1,h2,h3⟩:=hp
 have hlt:∀ j∈pre,j<i:=fun j hj=>h3 j hj i (by simp)
 have hgt:∀ j∈post,i<j:=fun j hj=>(List.pairwise_cons.1 h2).1 j hj
 refine ⟨pre,post,e,hlt,?_⟩
 rw [e,List.filter_append,List.filter_cons]
 simp only [beq_self_eq_true,Bool.not_true,Bool.false_eq_true,if_false]
 rw [List.filter_eq_self.2 (fun j hj=>by have:=hlt j hj; simp; omega),List.filter_eq_self.2 (fun j hj=>by have:=hgt j hj; simp; omega)]

theorem Z1 (h:M4 ops=true):∀ i o,ops[i]?=some o→(∀ e∈o.after,Region.binds .any e=true→e.on<i) ∧
  (∀ j,j<ops.size→((s4 ops.toList []).getD i 0).testBit j=true→∃ e∈o.after,Region.binds .any e=true∧(e.on=j∨((s4 ops.toList []).getD e.on 0).testBit j=true)) ∧
  (∀ j x,j<i→ops[j]?=some x→((s4 ops.toList []).getD i 0).testBit j=true∨indep ops x o=true):=by
 intro i o ho
 have hi:i<ops.toList.length:=by
  have:=(Array.getElem?_eq_some_iff.1 ho).1
  simpa using this
 simp only [M4,List.all_eq_true,List.mem_range] at h
 have h1:=h i hi
 have hl:ops.toList[i]?=some o:=by simpa using ho
 rw [hl] at h1
 simp only [Bool.and_eq_true,List.all_eq_true,List.mem_range] at h1
 obtain ⟨⟨k1,k2⟩,k3⟩:=h1
 refine ⟨?_,?_,?_⟩
 ·intro e he hb
  simp only [b6C,List.all_eq_true] at k1
  have:=k1 e (by simpa using he)
  rw [hb] at this
  simpa [Nat.blt_eq] using this
 ·intro j hj hm
  simp only [b4x,List.all_eq_true,List.mem_range] at k2
  have:=k2 j (by simpa using hj)
  rw [hm] at this
  simp only [Bool.not_true,Bool.false_or,List.any_eq_true,Bool.and_eq_true,Bool.or_eq_true] at this
  obtain ⟨e,he,hb,h3⟩:=this
  exact ⟨e,by simpa using he,hb,h3.imp Nat.eq_of_beq_eq_true id⟩
 ·intro j x hj hx
  have:=k3 j hj
  have hx':ops.toList[j]?=some x:=by simpa using hx
  rw [hx'] at this
  simpa using this

def V1 (ops:Array Oper) (listed:Array Bool):Prop:=∀ k o,ops[k]?=some o→listed.getD k true=true→∀ e∈o.after,Region.binds .any e=true→listed.getD e.on false=true

theorem G3 {listed:Array Bool} {k:Nat} (h:listed.getD k false=true):listed.getD k true=true:=by
 rcases Nat.lt_or_ge k listed.size with h'|h'
 ·simp [h'] at h ⊢; exact h
 ·simp [Array.getElem?_eq_none h'] at h

theorem W2 {M:Nat→Nat} (hM:∀ i o,ops[i]?=some o→(∀ e∈o.after,Region.binds .any e=true→e.on<i)∧(∀ j,j<ops.size→(M i).testBit j=true→∃ e∈o.after,Region.binds .any e=true∧(e.on=j∨(M e.on).testBit j=true)))
  {listed:Array Bool} (hc:V1 ops listed):∀ (i:Nat) (o:Oper),ops[i]?=some o→(∀ e∈o.after,Region.binds .any e=true→listed.getD e.on false=true)→∀ j,j<ops.size→(M i).testBit j=true→listed.getD j false=true:=by
 intro i
 induction i using Nat.strongRecOn with
 | _ i ih =>
  intro o ho hp j hj hm
  obtain ⟨e,he,hb,h3⟩:=(hM i o ho).2 j hj hm
  have hlt:=(hM i o ho).1 e he hb
  rcases h3 with rfl|h3
  ·exact hp e he hb
  ·have hi:i<ops.size:=(Array.getElem?_eq_some_iff.1 ho).1
   have hel:ops[e.on]?=some (ops[e.on]'(by omega)):=Array.getElem?_eq_getElem (by omega)
   exact ih e.on hlt _ hel (hc e.on _ hel (G3 (hp e he hb))) j hj h3

theorem a5Q (hE:t7 E B) (hn:B.n=E.nt) (hd:M4 ops=true) {Q:Exit→Act→World→Prop} {s0:St} (hQ:∀ S ι a w,RS B S ι s0 a w→Q .normal a w) :
  ∀ (fuel:Nat) (listed:Array Bool) (S:Nat→Prop) (ι:Ix) (s s':St) (a:Act) (w:World),listed.size=ops.size→(idxs ops.size listed).length=fuel→V1 ops listed→A6 (rem ops (idxs ops.size listed))→uniq s.fr→B8 s (rem ops (nl ops (idxs ops.size listed))) →
   O8 E ops (fun i=>(s4 ops.toList []).getD i 0) [] (idxs ops.size listed) s s'→C1 s' s0→RS B S ι s a w→wpAny E.P .any ops Q fuel listed a w:=by
 have hM:=Z1 hd
 have a1s:∀ {S:Nat→Prop} {ι:Ix} {s t:St} {a:Act} {w:World},C1 s t→RS B S ι s a w→RS B S ι t a w:=by
  intro S ι s t a w he h
  have hvx:∀ {v:AV} {vs:List Value},VX w.heap S ι s.hp v vs→VX w.heap S ι t.hp v vs:=by
   intro v vs hv
   exact VX.other (fun i _=>(he.2 i).symm) (fun i _=>w6.refl ι i) hv
  exact ⟨⟨h.hs.os,h.hs.tape,h.hs.out,h.hs.size,h.hs.frame,h.hs.slt,h.hs.s0,h.hs.s1,fun i e hi=>h.hs.ob i e ((he.2 i).trans hi),fun i e hi=>h.hs.bl i e ((he.2 i).trans hi),fun i j ei ej hi hj=>h.hs.dj i j ei ej ((he.2 i).trans hi) ((he.2 j).trans hj),fun q hq=>by obtain ⟨r1,⟨e,r2⟩,r3⟩:=h.hs.pin q hq; exact ⟨r1,⟨e,(he.2 q.1).symm.trans r2⟩,r3⟩⟩,h.W7,h.sz,
   fun m v hv=>hvx (h.fr m v ((he.1 m).trans hv))⟩
 intro fuel
 induction fuel with
 | zero =>
  intro listed S ι s s' a w hsz hlen hcl hap hu hcf hrun he hrs
  have hnil:idxs ops.size listed=[]:=List.length_eq_zero_iff.1 hlen
  rw [hnil] at hrun
  have hss:s=s':=hrun
  subst hss
  refine ⟨?_,hQ S ι a w (a1s he hrs)⟩
  rw [List.eq_nil_iff_forall_not_mem]
  intro i hi
  obtain ⟨h1,o,h2,_⟩:=mem_ready.1 hi
  have:i∈idxs ops.size listed:=o8.2 ⟨(Array.getElem?_eq_some_iff.1 h2).1,h1⟩
  rw [hnil] at this
  cases this
 | succ fuel ih =>
  intro listed S ι s s' a w hsz hlen hcl hap hu hcf hrun he hrs
  refine ⟨fun hr=>?_,fun i hi=>?_⟩
  ·exfalso
   cases hix:idxs ops.size listed with
   | nil=>rw [hix] at hlen; cases hlen
   | cons i l =>
    have hmem:i∈idxs ops.size listed:=by rw [hix]; simp
    obtain ⟨h1,h2⟩:=o8.1 hmem
    have ho:ops[i]?=some ops[i]:=Array.getElem?_eq_getElem h1
    have:i∈Region.ready .any ops listed:=by
     refine mem_ready.2 ⟨h2,ops[i],ho,fun e he hb=>?_⟩
     have hlt:=(hM i _ ho).1 e he hb
     cases hle:listed.getD e.on true with
     | true =>
      have:e.on<listed.size:=by omega
      simp [this] at hle ⊢; exact hle
     | false =>
      exfalso
      have hm2:e.on∈idxs ops.size listed:=o8.2 ⟨by omega,hle⟩
      have hs:=J8 ops.size listed
      rw [hix] at hs hm2
      rcases List.mem_cons.1 hm2 with e1|e1
      ·omega
      ·have:=(List.pairwise_cons.1 hs).1 _ e1; omega
    rw [hr] at this
    cases this
  ·obtain ⟨h1,o,ho,hpre⟩:=mem_ready.1 hi
   have hin:i<ops.size:=(Array.getElem?_eq_some_iff.1 ho).1
   have hmem:i∈idxs ops.size listed:=o8.2 ⟨hin,h1⟩
   obtain ⟨pre,post,e1,hlt,e2⟩:=S3 hmem
   have er:rem ops (pre++i::post)=rem ops pre++o::rem ops post:=by simp [rem,List.filterMap_append,ho]
   have er2:rem ops (pre++post)=rem ops pre++rem ops post:=by simp [rem,List.filterMap_append]
   rw [e1] at hap hcf hrun
   have hind:∀ j∈pre,((s4 ops.toList []).getD i 0).testBit j=false∧∀ x,ops[j]?=some x→indep ops x o=true:=by
    intro j hj
    have hnm:((s4 ops.toList []).getD i 0).testBit j=false:=by
     cases hm:((s4 ops.toList []).getD i 0).testBit j with
     | false=>rfl
     | true =>
      exfalso
      have hjl:=W2 (M:=fun i=>(s4 ops.toList []).getD i 0) (fun i o ho=>⟨(hM i o ho).1,(hM i o ho).2.1⟩) hcl i o ho hpre j (by have:=hlt j hj; omega) hm
      have:j∈idxs ops.size listed:=by rw [e1]; simp [hj]
      have:=(o8.1 this).2
      rw [G3 hjl] at this
      cases this
    refine ⟨hnm,fun x hx=>?_⟩
    rcases (hM i o ho).2.2 j x (hlt j hj) hx with hm|hm
    ·rw [hnm] at hm; cases hm
    ·exact hm
   have hcl0:B8 s (rem ops (nl ops (pre++post))):=hcf.sub (fun y hy=>by
    rw [a6X,Z6] at hy ⊢
    rcases List.mem_append.1 hy with hy|hy
    ·exact List.mem_append_left _ hy
    ·refine List.mem_append_right _ ?_
     obtain ⟨j,j1,j2⟩:=List.mem_filterMap.1 hy
     obtain ⟨j3,j4⟩:=List.mem_filter.1 j1
     exact List.mem_filterMap.2 ⟨j,List.mem_filter.2 ⟨List.mem_cons_of_mem _ j3,j4⟩,j2⟩)
   obtain ⟨p,s1,s2,k1,k2,k3,k4,_⟩:=a4V ho hap hind hu (hcf.sub (fun y hy=>by
    rw [a6X,Z6,b4v hin hlt (fun j hj=>(hind j hj).1)]; exact List.mem_append_left _ hy)) hrun
   rw [er] at hap
   have hset:=(N3 hsz hin).trans e2
   have hap2:A6 (rem ops pre++rem ops post)∧∀ x∈rem ops pre++rem ops post,∀ d,x.dst=some d→o.dst≠some d:=by
    have:∀ {A C:List Oper},A6 (A++o::C)→A6 (A++C)∧∀ x∈A++C,∀ d,x.dst=some d→o.dst≠some d:=by
     intro A
     induction A with
     | nil=>intro C h; exact ⟨h.2,fun x hx d hxd hod=>h.1 d hod x hx hxd⟩
     | cons y A ih =>
      intro C h
      obtain ⟨m1,m2⟩:=ih h.2
      refine ⟨⟨fun d hd x hx=>h.1 d hd x (by simp at hx ⊢; rcases hx with hx|hx<;>simp [hx]),m1⟩,fun x hx d hxd hod=>?_⟩
      rcases List.mem_cons.1 hx with rfl|hx
      ·exact h.1 d hxd o (by simp) hod
      ·exact m2 x hx d hxd hod
    exact this hap
   have hps:=X2 hE hn hrs (ops:=ops) o (k:=fun x=>Tree.cut .skip [] x) (L:=fun _ _ x=>x=s1) (Rt:=fun _=>True) (Q7.2 ⟨p,s1,k1,k2,rfl⟩)
    (next:=wpAny E.P .any ops Q fuel (listed.setIfInBounds i true)) (Q:=Q) (fun S' ι' x a' w' hx hxe=>by
     have hxe:x=s1:=hxe
     subst hxe
     refine ih (listed.setIfInBounds i true) S' ι' x s2 a' w' (by simp [hsz]) ?_ ?_ ?_ (y6 hu k1) ?_ ?_ (k4.trans he) hx
     ·rw [hset]; rw [e1] at hlen; simp at hlen ⊢; omega
     ·intro k y hy hk e' he' hb'
      by_cases hki:k=i
      ·subst hki
       rw [ho] at hy; cases hy
       exact getD_set_true (hpre e' he' hb')
      ·rw [getD_set_ne true (Ne.symm hki)] at hk
       exact getD_set_true (hcl k y hy hk e' he' hb')
     ·rw [hset,er2]; exact hap2.1
     ·rw [hset]
      exact B8.step hu hcl0 (fun y hy=>hap2.2 y (by rw [← er2]; exact b4u y hy)) k1
     ·rw [hset]; exact k3)
   unfold wpOp
   rw [ho]
   simp only
   split
   ·rename_i hw; rw [if_pos hw] at hps; exact .inl hps
   ·rename_i hw; rw [if_neg hw] at hps; exact hps

theorem filterMap_some {α β:Type _} {f:α→Option β} {g:α→β}:∀ {l:List α},(∀ i∈l,f i=some (g i))→l.filterMap f=l.map g
 | [],_=>rfl
 | x::l,h=>by rw [List.filterMap_cons,h x (by simp)]; simp [filterMap_some (l:=l) (fun i hi=>h i (by simp [hi]))]

theorem a04:rem ops (idxs ops.size (Array.replicate ops.size false))=ops.toList:=by
 have:idxs ops.size (Array.replicate ops.size false)=List.range ops.size:=by
  unfold idxs
  refine List.filter_eq_self.2 (fun i hi=>?_)
  have:i<ops.size:=List.mem_range.1 hi
  simp [this]
 rw [this]
 unfold rem
 apply List.ext_getElem?
 intro i
 have e:(List.range ops.size).filterMap (fun i=>ops[i]?)=(List.range ops.size).map (fun i=>ops.getD i default):=filterMap_some (fun i hi=>by
  have:i<ops.size:=List.mem_range.1 hi
  simp [this])
 rw [e]
 by_cases hi:i<ops.size
 ·simp [hi]
 ·simp [hi]

theorem W1:∀ {l:List Oper},Q0 (a1c l)=true→A6 l
 | [],_=>trivial
 | o::l,h=>by
  cases hd:o.dst with
  | none =>
   have:a1c (o::l)=a1c l:=by simp [a1c,hd]
   rw [this] at h
   exact ⟨fun d hd'=>(by rw [hd] at hd'; cases hd'),W1 h⟩
  | some d =>
   have:a1c (o::l)=d::a1c l:=by simp [a1c,hd]
   rw [this] at h
   simp only [Q0,Bool.and_eq_true,Bool.not_eq_true'] at h
   refine ⟨fun d' hd' x hx hxd=>?_,W1 h.2⟩
   rw [hd] at hd'
   cases hd'
   have:d∈a1c l:=List.mem_filterMap.2 ⟨x,hx,hxd⟩
   have h1:=h.1
   simp [this] at h1

theorem I1:idxs ops.size (Array.replicate ops.size false)=List.range ops.size:=by
 unfold idxs
 refine List.filter_eq_self.2 (fun i hi=>?_)
 have:i<ops.size:=List.mem_range.1 hi
 simp [this]

theorem a8r {o:Oper} {l:List Nat} (ho:o∈rem ops (nl ops l)) {d:Nat} (hd:o.dst=some d):d∈a1c ops.toList.dropLast:=by
 obtain ⟨j,j1,j2⟩:=List.mem_filterMap.1 ho
 have j4:j+1<ops.size:=b1p (by simpa using (List.mem_filter.1 j1).2)
 refine List.mem_filterMap.2 ⟨o,List.mem_of_getElem? (i:=j) ?_,hd⟩
 rw [List.getElem?_dropLast,if_pos (by simp; omega)]
 simpa using j2

theorem a91 (hE:t7 E B) (hn:B.n=E.nt) {id:Nat} (hd:(M4 ops && a0d ops s && E.P.follows .mixedOrders)=true) {Q:Exit→Act→World→Prop} {s':St} (hr:O8 E ops (fun i=>(s4 ops.toList []).getD i 0) [] (List.range' 0 ops.toList.length) s s')
  (hQ:∀ S ι a w,RS B S ι s' a w→Q .normal a w) (h:RS B S ι s a w):(Code.region id ops true).wp E.P Q a w:=by
 simp only [Bool.and_eq_true,a0d,List.all_eq_true] at hd
 obtain ⟨⟨h1,⟨h2,h3⟩,h4⟩,h5⟩:=hd
 refine wp_region_any h5 ?_
 have hlen:(idxs ops.size (Array.replicate ops.size false)).length=ops.size:=by
  rw [I1]; simp
 refine a5Q hE hn h1 hQ ops.size _ S ι s s' a w.drew (by simp) hlen ?_ ?_ (A3 h2) ?_ ?_ (C1.refl _) (h.J4 x4.nil w8.drew)
 ·intro k o hk hl
  have:k<ops.size:=(Array.getElem?_eq_some_iff.1 hk).1
  simp [this] at hl
 ·rw [a04]; exact W1 h3
 ·intro o ho d hd
  exact h4 d (a8r ho hd)
 ·rw [I1,List.range_eq_range']
  simpa using hr

theorem a90 (hE:t7 E B) (hn:B.n=E.nt) (hd:M4 ops=true) {Q:Exit→Act→World→Prop} {s0:St} {z:Nat} {oz:Oper} (hz:ops[z]?=some oz) (hzn:z+1=ops.size) (hzm:∀ j,j<z→((s4 ops.toList []).getD z 0).testBit j=true) (hzg:oz.guard=none)
  (hQ:∀ S ι a w,RS B S ι s0 a w→∀ (next:Act→World→Prop) (Q':Exit→Act→World→Prop),(∀ a' w',Q .normal a' w'→next a' w')→oz.wp E.P a w next Q') :
  ∀ (fuel:Nat) (listed:Array Bool) (S:Nat→Prop) (ι:Ix) (s s':St) (a:Act) (w:World),listed.size=ops.size→((idxs ops.size listed).filter (fun k=>!(k == z))).length=fuel→z∈idxs ops.size listed→V1 ops listed→A6 (rem ops ((idxs ops.size listed).filter (fun k=>!(k == z))))→uniq s.fr →
   B8 s (rem ops ((idxs ops.size listed).filter (fun k=>!(k == z)))) →
   O8 E ops (fun i=>(s4 ops.toList []).getD i 0) [] ((idxs ops.size listed).filter (fun k=>!(k == z))) s s'→C1 s' s0→RS B S ι s a w→wpAny E.P .any ops Q (fuel+1) listed a w:=by
 have hM:=Z1 hd
 have a1s:∀ {S:Nat→Prop} {ι:Ix} {s t:St} {a:Act} {w:World},C1 s t→RS B S ι s a w→RS B S ι t a w:=by
  intro S ι s t a w he h
  have hvx:∀ {v:AV} {vs:List Value},VX w.heap S ι s.hp v vs→VX w.heap S ι t.hp v vs:=by
   intro v vs hv
   exact VX.other (fun i _=>(he.2 i).symm) (fun i _=>w6.refl ι i) hv
  exact ⟨⟨h.hs.os,h.hs.tape,h.hs.out,h.hs.size,h.hs.frame,h.hs.slt,h.hs.s0,h.hs.s1,fun i e hi=>h.hs.ob i e ((he.2 i).trans hi),fun i e hi=>h.hs.bl i e ((he.2 i).trans hi),fun i j ei ej hi hj=>h.hs.dj i j ei ej ((he.2 i).trans hi) ((he.2 j).trans hj),fun q hq=>by obtain ⟨r1,⟨e,r2⟩,r3⟩:=h.hs.pin q hq; exact ⟨r1,⟨e,(he.2 q.1).symm.trans r2⟩,r3⟩⟩,h.W7,h.sz,
   fun m v hv=>hvx (h.fr m v ((he.1 m).trans hv))⟩
 -- what is not listed, ahead of all others that are not, may come up
 have first:∀ {listed:Array Bool} {i:Nat} {l:List Nat},listed.size=ops.size→idxs ops.size listed=i::l→i∈Region.ready .any ops listed:=by
  intro listed i l hsz hix
  have hmem:i∈idxs ops.size listed:=by rw [hix]; simp
  obtain ⟨h1,h2⟩:=o8.1 hmem
  have ho:ops[i]?=some ops[i]:=Array.getElem?_eq_getElem h1
  refine mem_ready.2 ⟨h2,ops[i],ho,fun e he hb=>?_⟩
  have hlt:=(hM i _ ho).1 e he hb
  cases hle:listed.getD e.on true with
  | true =>
   have:e.on<listed.size:=by omega
   simp [this] at hle ⊢; exact hle
  | false =>
   exfalso
   have hm2:e.on∈idxs ops.size listed:=o8.2 ⟨by omega,hle⟩
   have hs:=J8 ops.size listed
   rw [hix] at hs hm2
   rcases List.mem_cons.1 hm2 with e1|e1
   ·omega
   ·have:=(List.pairwise_cons.1 hs).1 _ e1; omega
 intro fuel
 induction fuel with
 | zero =>
  intro listed S ι s s' a w hsz hlen hzi hcl hap hu hcf hrun he hrs
  have hnil:=List.length_eq_zero_iff.1 hlen
  rw [hnil] at hrun
  have hss:s=s':=hrun
  subst hss
  have hix:idxs ops.size listed=[z]:=by
   have hall:∀ k∈idxs ops.size listed,k=z:=by
    intro k hk
    refine Decidable.by_contra (fun hne=>?_)
    have:k∈(idxs ops.size listed).filter (fun k=>!(k == z)):=List.mem_filter.2 ⟨hk,by simpa using hne⟩
    rw [hnil] at this; cases this
   have hs:=J8 ops.size listed
   cases hq:idxs ops.size listed with
   | nil=>rw [hq] at hzi; cases hzi
   | cons i l =>
    rw [hq] at hall hs
    obtain rfl:i=z:=hall i (by simp)
    cases l with
    | nil=>rfl
    | cons j l =>
     have h1:=hall j (by simp)
     have h2:=(List.pairwise_cons.1 hs).1 j (by simp)
     omega
  refine ⟨fun hr=>?_,fun i hi=>?_⟩
  ·exfalso
   have:=first hsz hix
   rw [hr] at this; cases this
  ·obtain ⟨h1,o,ho,hpre⟩:=mem_ready.1 hi
   have:i∈idxs ops.size listed:=o8.2 ⟨(Array.getElem?_eq_some_iff.1 ho).1,h1⟩
   rw [hix] at this
   obtain rfl:i=z:=by simpa using this
   unfold wpOp
   rw [hz]
   simp only [Region.wanted,hzg,if_true]
   refine .inl (hQ S ι a w (a1s he hrs) _ _ (fun a' w' hq=>⟨?_,hq⟩))
   rw [List.eq_nil_iff_forall_not_mem]
   intro k hk
   obtain ⟨g1,o2,g2,_⟩:=mem_ready.1 hk
   have hk2:k∈idxs ops.size (listed.setIfInBounds i true):=o8.2 ⟨(Array.getElem?_eq_some_iff.1 g2).1,g1⟩
   rw [N3 hsz (by omega),hix] at hk2
   simp at hk2
 | succ fuel ih =>
  intro listed S ι s s' a w hsz hlen hzi hcl hap hu hcf hrun he hrs
  refine ⟨fun hr=>?_,fun i hi=>?_⟩
  ·exfalso
   cases hix:idxs ops.size listed with
   | nil=>rw [hix] at hzi; cases hzi
   | cons i l =>
    have:=first hsz hix
    rw [hr] at this
    cases this
  ·obtain ⟨h1,o,ho,hpre⟩:=mem_ready.1 hi
   have hin:i<ops.size:=(Array.getElem?_eq_some_iff.1 ho).1
   have hmem:i∈idxs ops.size listed:=o8.2 ⟨hin,h1⟩
   have hiz:i≠z:=by
    rintro rfl
    -- all others are listed
    have:(idxs ops.size listed).filter (fun k=>!(k == i))=[]:=by
     rw [List.eq_nil_iff_forall_not_mem]
     intro k hk
     obtain ⟨k1,k2⟩:=List.mem_filter.1 hk
     obtain ⟨k3,k4⟩:=o8.1 k1
     have k2:k≠i:=by simpa using k2
     have:=W2 (M:=fun i=>(s4 ops.toList []).getD i 0) (fun i o ho=>⟨(hM i o ho).1,(hM i o ho).2.1⟩) hcl i o ho hpre k k3 (hzm k (by omega))
     rw [G3 this] at k4; cases k4
    rw [this] at hlen; cases hlen
   obtain ⟨pre,post,e1,hlt,e2⟩:=S3 hmem
   have hprez:pre.filter (fun k=>!(k == z))=pre:=List.filter_eq_self.2 (fun j hj=>by have:=hlt j hj; simp; omega)
   have eL:(idxs ops.size listed).filter (fun k=>!(k == z))=pre++i::post.filter (fun k=>!(k == z)):=by
    rw [e1,List.filter_append,hprez,List.filter_cons]
    simp [hiz]
   have eL2:((idxs ops.size listed).filter (fun k=>!(k == i))).filter (fun k=>!(k == z))=pre++post.filter (fun k=>!(k == z)):=by
    rw [e2,List.filter_append,hprez]
   generalize hpost:post.filter (fun k=>!(k == z))=post' at *
   have er:rem ops (pre++i::post')=rem ops pre++o::rem ops post':=by simp [rem,List.filterMap_append,ho]
   have er2:rem ops (pre++post')=rem ops pre++rem ops post':=by simp [rem,List.filterMap_append]
   rw [eL] at hap hcf hrun hlen
   have hind:∀ j∈pre,((s4 ops.toList []).getD i 0).testBit j=false∧∀ x,ops[j]?=some x→indep ops x o=true:=by
    intro j hj
    have hnm:((s4 ops.toList []).getD i 0).testBit j=false:=by
     cases hm:((s4 ops.toList []).getD i 0).testBit j with
     | false=>rfl
     | true =>
      exfalso
      have hjl:=W2 (M:=fun i=>(s4 ops.toList []).getD i 0) (fun i o ho=>⟨(hM i o ho).1,(hM i o ho).2.1⟩) hcl i o ho hpre j (by have:=hlt j hj; omega) hm
      have:j∈idxs ops.size listed:=by rw [e1]; simp [hj]
      have:=(o8.1 this).2
      rw [G3 hjl] at this
      cases this
    refine ⟨hnm,fun x hx=>?_⟩
    rcases (hM i o ho).2.2 j x (hlt j hj) hx with hm|hm
    ·rw [hnm] at hm; cases hm
    ·exact hm
   have hcl0:B8 s (rem ops (pre++post')):=hcf.sub (fun y hy=>by
    rw [er]; rw [er2] at hy
    rcases List.mem_append.1 hy with hy|hy
    ·exact List.mem_append_left _ hy
    ·exact List.mem_append_right _ (List.mem_cons_of_mem _ hy))
   obtain ⟨p,s1,s2,k1,k2,k3,k4,_⟩:=a4V ho hap hind hu (hcf.sub (fun y hy=>by
    rw [er]; exact List.mem_append_left _ hy)) hrun
   rw [er] at hap
   have hset:(idxs ops.size (listed.setIfInBounds i true)).filter (fun k=>!(k == z))=pre++post':=by rw [N3 hsz hin]; exact eL2
   have hap2:A6 (rem ops pre++rem ops post')∧∀ x∈rem ops pre++rem ops post',∀ d,x.dst=some d→o.dst≠some d:=by
    have:∀ {A C:List Oper},A6 (A++o::C)→A6 (A++C)∧∀ x∈A++C,∀ d,x.dst=some d→o.dst≠some d:=by
     intro A
     induction A with
     | nil=>intro C h; exact ⟨h.2,fun x hx d hxd hod=>h.1 d hod x hx hxd⟩
     | cons y A ih =>
      intro C h
      obtain ⟨m1,m2⟩:=ih h.2
      refine ⟨⟨fun d hd x hx=>h.1 d hd x (by simp at hx ⊢; rcases hx with hx|hx<;>simp [hx]),m1⟩,fun x hx d hxd hod=>?_⟩
      rcases List.mem_cons.1 hx with rfl|hx
      ·exact h.1 d hxd o (by simp) hod
      ·exact m2 x hx d hxd hod
    exact this hap
   have hps:=X2 hE hn hrs (ops:=ops) o (k:=fun x=>Tree.cut .skip [] x) (L:=fun _ _ x=>x=s1) (Rt:=fun _=>True) (Q7.2 ⟨p,s1,k1,k2,rfl⟩)
    (next:=wpAny E.P .any ops Q (fuel+1) (listed.setIfInBounds i true)) (Q:=Q) (fun S' ι' x a' w' hx hxe=>by
     have hxe:x=s1:=hxe
     subst hxe
     refine ih (listed.setIfInBounds i true) S' ι' x s2 a' w' (by simp [hsz]) ?_ ?_ ?_ ?_ (y6 hu k1) ?_ ?_ (k4.trans he) hx
     ·rw [hset]; simp at hlen ⊢; omega
     ·rw [N3 hsz hin]; exact List.mem_filter.2 ⟨hzi,by simpa using Ne.symm hiz⟩
     ·intro k y hy hk e' he' hb'
      by_cases hki:k=i
      ·subst hki
       rw [ho] at hy; cases hy
       exact getD_set_true (hpre e' he' hb')
      ·rw [getD_set_ne true (Ne.symm hki)] at hk
       exact getD_set_true (hcl k y hy hk e' he' hb')
     ·rw [hset,er2]; exact hap2.1
     ·rw [hset]
      exact B8.step hu hcl0 (fun y hy=>hap2.2 y (by rw [← er2]; exact hy)) k1
     ·rw [hset]; exact k3)
   unfold wpOp
   rw [ho]
   simp only
   split
   ·rename_i hw; rw [if_pos hw] at hps; exact .inl hps
   ·rename_i hw; rw [if_neg hw] at hps; exact hps

theorem b2X {n:Nat} (h:0<n):(List.range n).filter (fun k=>!(k == n - 1))=List.range (n - 1):=by
 obtain ⟨m,rfl⟩:∃ m,n=m+1:=⟨n - 1,by omega⟩
 rw [List.range_succ,List.filter_append,List.filter_eq_self.2 (fun j hj=>by have:=List.mem_range.1 hj; simp; omega)]
 simp

theorem a8Y (hE:t7 E B) (hn:B.n=E.nt) {id:Nat} (hd:(M4 ops && a0d ops s && E.P.follows .mixedOrders)=true) {Q:Exit→Act→World→Prop} {s':St} {oz:Oper} (hz:ops[ops.size - 1]?=some oz) (hzm:∀ j,j<ops.size - 1→((s4 ops.toList []).getD (ops.size - 1) 0).testBit j=true) (hzg:oz.guard=none)
  (hr:O8 E ops (fun i=>(s4 ops.toList []).getD i 0) [] (List.range' 0 (ops.toList.length - 1)) s s')
  (hQ:∀ S ι a w,RS B S ι s' a w→∀ (next:Act→World→Prop) (Q':Exit→Act→World→Prop),(∀ a' w',Q .normal a' w'→next a' w')→oz.wp E.P a w next Q') (h:RS B S ι s a w):(Code.region id ops true).wp E.P Q a w:=by
 simp only [Bool.and_eq_true,a0d,List.all_eq_true] at hd
 obtain ⟨⟨h1,⟨h2,h3⟩,h4⟩,h5⟩:=hd
 refine wp_region_any h5 ?_
 have hpos:0<ops.size:=by have:=(Array.getElem?_eq_some_iff.1 hz).1; omega
 have hf:(idxs ops.size (Array.replicate ops.size false)).filter (fun k=>!(k == ops.size - 1))=List.range (ops.size - 1):=by
  rw [I1,b2X hpos]
 have hsz:ops.size=(ops.size - 1)+1:=by omega
 have:=a90 hE hn h1 (Q:=Q) (s0:=s') hz (by omega) hzm hzg hQ (ops.size - 1) (Array.replicate ops.size false) S ι s s' a w.drew (by simp) (by rw [hf]; simp) (by rw [I1]; simp; omega) ?_ ?_ (A3 h2) ?_ ?_ (C1.refl _) (h.J4 x4.nil w8.drew)
 ·rw [← hsz] at this; exact this
 ·intro k o hk hl
  have:k<ops.size:=(Array.getElem?_eq_some_iff.1 hk).1
  simp [this] at hl
 ·rw [hf]
  have h9:=W1 h3
  rw [← a04,I1] at h9
  have:∀ {A C:List Oper},A6 (A++C)→A6 A:=by
   intro A
   induction A with
   | nil=>intro C _; trivial
   | cons y A ih=>intro C h; exact ⟨fun d hd x hx=>h.1 d hd x (by simp [hx]),ih h.2⟩
  have e:List.range ops.size=List.range (ops.size - 1)++[ops.size - 1]:=by
   conv=>lhs; rw [hsz,List.range_succ]
  rw [e,Z6] at h9
  exact this h9
 ·rw [hf]
  intro o ho d hd
  obtain ⟨j,j1,j2⟩:=List.mem_filterMap.1 ho
  have j4:=List.mem_range.1 j1
  refine h4 d (List.mem_filterMap.2 ⟨o,List.mem_of_getElem? (i:=j) ?_,hd⟩)
  rw [List.getElem?_dropLast,if_pos (by simp; omega)]
  simpa using j2
 ·rw [hf,List.range_eq_range']
  simpa using hr

theorem a8a {M:List Nat} {k:St→Tree (E.rs++u6 E.ps)} {L:Code→List Item→St→Prop} {R:DL (E.rs++u6 E.ps)→Prop}:∀ {l:List Oper} {n:Nat} {s:St} {acc:List Met} {acc':List (Nat×St)},ops.toList.drop n=l →
  (∀ e∈acc',∃ m∈acc,m.i=e.1∧ops[e.1]?=some m.o∧m.s=e.2∧m.T=i7 E m.o e.2)→(a9v E ops M n l s acc k).holds L R →
  ∃ s' oz p s2,O8 E ops (fun i=>M.getD i 0) acc' (List.range' n (l.length - 1)) s s'∧ops[ops.size - 1]?=some oz∧(∀ j,j<ops.size - 1→(M.getD (ops.size - 1) 0).testBit j=true)∧a5s E oz s'=some (p,s2)∧p∧(k s2).holds L R
 | [],n,s,acc,acc',_,_,h=>h.elim
 | [o],n,s,acc,acc',hl,ha,h=>by
  obtain ⟨h1,h2,h3⟩:=P9 hl
  simp only [a9v] at h
  have e:ops.size - 1=n:=by simp at h3; omega
  split at h
  ·rename_i p s2 hm hf
   refine ⟨s,o,p,s2,rfl,by rw [e]; exact h1,fun j hj=>?_,hf,h.1,h.2 h.1⟩
   rw [e] at hj ⊢
   simp only [List.all_eq_true,List.mem_range] at hm
   exact hm j hj
  ·exact h.elim
 | o::o2::l,n,s,acc,acc',hl,ha,h=>by
  obtain ⟨ho,hl',_⟩:=P9 hl
  simp only [a9v] at h
  split at h
  ·exact h.elim
  ·rename_i hall
   obtain ⟨p,s1,h1,h2,h3⟩:=Q7.1 h
   obtain ⟨s',oz,p',s2,k1,k2⟩:=a8a (acc':=(n,s)::acc') hl' (fun e he=>by
    rcases List.mem_cons.1 he with rfl|he
    ·exact ⟨_,List.mem_cons_self ..,rfl,ho,rfl,rfl⟩
    ·obtain ⟨m,hm,r⟩:=ha e he; exact ⟨m,List.mem_cons_of_mem _ hm,r⟩) h3
   refine ⟨s',oz,p',s2,⟨o,ho,fun e he=>?_,p,s1,h1,h2,k1⟩,k2⟩
   obtain ⟨m,hm,m1,m2,m3,m4⟩:=ha e he
   have:=(List.all_eq_true.1 hall) m hm
   simp only [Bool.or_eq_true] at this
   rcases this with this|this
   ·exact .inl (by rw [← m1]; exact this)
   ·have hp:=a10 this
    rw [m3,m4] at hp
    exact .inr ⟨m.o,m2,hp⟩

theorem a8Z (hE:t7 E B) (hn:B.n=E.nt) {id:Nat} (hd:(M4 ops && a6o ops s && E.P.follows .mixedOrders)=true) {Q:Exit→Act→World→Prop} {s':St} (hr:O8 E ops (fun i=>(s4 ops.toList []).getD i 0) [] (List.range' 0 ops.toList.length) s s')
  (hQ:∀ S ι a w,RS B S ι s' a w→Q .normal a w) (h:RS B S ι s a w):(Code.region id ops true).wp E.P Q a w:=by
 simp only [Bool.and_eq_true,a6o,List.all_eq_true,List.mem_range] at hd
 obtain ⟨⟨h1,⟨h2,h3⟩,h4⟩,h5⟩:=hd
 refine wp_region_any h5 ?_
 have hlen:(idxs ops.size (Array.replicate ops.size false)).length=ops.size:=by
  rw [I1]; simp
 refine a5Q hE hn h1 hQ ops.size _ S ι s s' a w.drew (by simp) hlen ?_ ?_ (A3 h2) ?_ ?_ (C1.refl _) (h.J4 x4.nil w8.drew)
 ·intro k o hk hl
  have:k<ops.size:=(Array.getElem?_eq_some_iff.1 hk).1
  simp [this] at hl
 ·rw [a04]; exact W1 h3
 ·intro o ho d hd
  obtain ⟨j,j1,j2⟩:=List.mem_filterMap.1 ho
  have j3:=(List.mem_filter.1 j1).2
  have hj:j<ops.size:=(Array.getElem?_eq_some_iff.1 j2).1
  have:=h4 j hj
  simp only [Bool.not_eq_true'] at j3
  simp only [j2,hd,j3,Bool.false_or] at this
  exact this
 ·rw [I1,List.range_eq_range']
  simpa using hr

theorem a8b {M:List Nat} {k:St→Tree (E.rs++u6 E.ps)} {L:Code→List Item→St→Prop} {R:DL (E.rs++u6 E.ps)→Prop}:∀ {l:List Oper} {n:Nat} {s:St} {acc:List Met} {acc':List (Nat×St)},ops.toList.drop n=l →
  (∀ e∈acc',∃ m∈acc,m.i=e.1∧ops[e.1]?=some m.o∧m.s=e.2∧m.T=i7 E m.o e.2)→(b2T E ops M n l s acc k).holds L R →
  ∃ s',O8 E ops (fun i=>M.getD i 0) acc' (List.range' n l.length) s s'∧(k s').holds L R
 | [],n,s,acc,acc',_,_,h=>⟨s,rfl,h⟩
 | o::l,n,s,acc,acc',hl,ha,h=>by
  obtain ⟨ho,hl',_⟩:=P9 hl
  simp only [b2T] at h
  split at h
  ·exact h.elim
  ·rename_i hall
   obtain ⟨p,s1,h1,h2,h3⟩:=Q7.1 h
   obtain ⟨s',k1,k2⟩:=a8b (acc':=(n,s)::acc') hl' (fun e he=>by
    rcases List.mem_cons.1 he with rfl|he
    ·exact ⟨_,List.mem_cons_self ..,rfl,ho,rfl,rfl⟩
    ·obtain ⟨m,hm,r⟩:=ha e he; exact ⟨m,List.mem_cons_of_mem _ hm,r⟩) h3
   refine ⟨s',⟨o,ho,fun e he=>?_,p,s1,h1,h2,k1⟩,k2⟩
   obtain ⟨m,hm,m1,m2,m3,m4⟩:=ha e he
   have:=(List.all_eq_true.1 hall) m hm
   simp only [Bool.or_eq_true] at this
   rcases this with this|this
   ·exact .inl (by rw [← m1]; exact this)
   ·have hp:=a10 this
    rw [m3,m4] at hp
    exact .inr ⟨m.o,m2,hp⟩

end
end Go.Ex
