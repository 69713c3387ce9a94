import Derived.Test.YtijlnmgondibnaaGreatDoorExK6
import Derived.Orders
set_option linter.unusedVariables false
set_option linter.unusedSimpArgs false
set_option linter.unusedSectionVars false

namespace Go.Ex

section
variable {E:Env} {s t:St}

theorem a4S {o:Oper} {i:Nat} (h:i∈l5 E o s):∃ x∈o.op.operands.toList,(s.ev x).i6 i=true:=by
 have parts:∀ {T:TypeId} {ps:Array (Nat×Operand)},i∈(s.H9 (ps.toList.map (·.2))).E6→∃ x∈ps.toList.map (·.2),(s.ev x).i6 i=true:=by
  intro T ps h
  obtain ⟨x,hx,hm⟩:=X3 (G5.1 h)
  exact ⟨x,by simpa using hx,hm⟩
 unfold l5 at h
 cases ho:o.op with
 | store T a x =>
  rw [ho] at h
  simp only [List.mem_append,G5] at h
  rcases h with h|h
  ·exact ⟨a,by simp [Op.operands],h⟩
  ·exact ⟨x,by simp [Op.operands],h⟩
 | box T x=>rw [ho] at h; exact ⟨x,by simp [Op.operands],G5.1 h⟩
 | mapUpdate T m x y=>rw [ho] at h; exact ⟨m,by simp [Op.operands],G5.1 h⟩
 | build T ps=>rw [ho] at h; simp only [Op.operands]; exact parts (T:=T) h
 | buildSlice T n ps=>rw [ho] at h; simp only [Op.operands]; exact parts (T:=T) h
 | call c =>
  rw [ho] at h
  have hop:∀ x∈c.args.toList,x∈(Op.call c).operands.toList:=fun x hx=>by simp only [Op.operands,Call.operands]; simp at hx ⊢; first|exact .inr hx|exact .inl hx
  simp only at h
  split at h
  ·rename_i f hc
   split at h
   ·rename_i g caps hg
    split at h
    ·split at h
     ·cases h
     ·rcases a5w (G5.1 h) with h|h
      ·obtain ⟨x,hx,hm⟩:=X3 h
       exact ⟨x,hop x hx,hm⟩
      ·exact ⟨f,by simp [Op.operands,Call.operands,hc],by rw [hg]; exact h⟩
    ·cases h
   ·split at h
    ·split at h
     ·cases h
     ·rcases a5w (G5.1 h) with h|h
      ·obtain ⟨x,hx,hm⟩:=X3 h
       exact ⟨x,hop x hx,hm⟩
      ·cases h
    ·cases h
   ·split at h
    ·split at h
     ·cases h
     ·rcases a5w (G5.1 h) with h|h
      ·obtain ⟨x,hx,hm⟩:=X3 h
       exact ⟨x,hop x hx,hm⟩
      ·cases h
    ·cases h
   ·cases h
  ·obtain ⟨x,hx,hm⟩:=X3 (G5.1 h)
   exact ⟨x,hop x hx,hm⟩
  ·obtain ⟨x,hx,hm⟩:=X3 (G5.1 h)
   exact ⟨x,hop x hx,hm⟩
  ·obtain ⟨x,hx,hm⟩:=X3 (G5.1 h)
   exact ⟨x,hop x hx,hm⟩
  ·cases h
 | _=>rw [ho] at h; cases h

theorem a79 {o:Oper} (h:∀ x∈o.op.operands.toList,t.ev x=s.ev x):l5 E o t=l5 E o s:=by
 unfold l5
 cases ho:o.op with
 | store T a x=>rw [ho] at h; simp only [h a (by simp [Op.operands]),h x (by simp [Op.operands])]
 | box T x=>rw [ho] at h; simp only [h x (by simp [Op.operands])]
 | mapUpdate T m x y=>rw [ho] at h; simp only [h m (by simp [Op.operands])]
 | build T ps =>
  rw [ho] at h
  simp only
  rw [a4y (s:=s) (t:=t) (fun x hx=>h x (by simp only [Op.operands]; simpa using hx))]
 | buildSlice T n ps =>
  rw [ho] at h
  simp only
  rw [a4y (s:=s) (t:=t) (fun x hx=>h x (by simp only [Op.operands]; simpa using hx))]
 | call c =>
  rw [ho] at h
  have hop:∀ x∈c.args.toList,x∈(Op.call c).operands.toList:=fun x hx=>by simp only [Op.operands,Call.operands]; simp at hx ⊢; first|exact .inr hx|exact .inl hx
  have he:=a4y (s:=s) (t:=t) (fun x hx=>h x (hop x hx))
  simp only [he]
  split
  ·rename_i f hc
   rw [h f (by simp [Op.operands,Call.operands,hc])]
  ·rfl
  ·rfl
  ·rfl
  ·rfl
 | _=>rfl

def C7 (E:Env) (o:Oper) (s:St) (p:Prop) (v:AV):Prop :=
 ∃ ids f h,Trim (l5 E o s) f∧O8 s ids∧(∀ n∈ids,n % 1000=(o.dst.getD 0) % 1000) ∧
  (∀ i,v.i6 i=true→(∃ x∈o.op.operands.toList,(s.ev x).i6 i=true)∨i∈ids) ∧
  ∀ t,uniq t.fr→V5 s t o.op.operands.toList→O8 t ids→∃ t1,(n6 E o t).get=some (p,v,t1)∧uniq t1.fr∧c4E t t1 (l5 E o s) ids f h

theorem a1h {o:Oper} (ha:V5 s t o.op.operands.toList) {i:Nat} (hi:i∈l5 E o s):look i t.hp=look i s.hp:=by
 obtain ⟨x,hx,hm⟩:=a4S hi
 exact (ha x hx).2 i hm

theorem C7.ro {o:Oper} {p:Prop} {v:AV} {s1:St} (h:(n6 E o s).get=some (p,v,s1)) (h1:∀ t,V5 s t o.op.operands.toList→n6 E o t=(n6 E o s).a0z t) (h2:∀ i,(n6 E o s).av.i6 i=true→∃ x∈o.op.operands.toList,(s.ev x).i6 i=true):C7 E o s p v:=by
 refine ⟨[],fun u=>u,fun i=>look i s.hp,Trim.id _,by simp [O8],by simp,?_,?_⟩
 ·intro i hi
  refine .inl (h2 i ?_)
  cases hr:n6 E o s<;>rw [hr] at h<;>simp [OR.get] at h
  ·rw [← h.2.1] at hi; exact hi
  ·rw [← h.2.1] at hi; exact hi
 ·intro t hu ha _
  refine ⟨t,?_,hu,⟨fun n=>by simp,fun i=>?_⟩⟩
  ·rw [h1 t ha]
   cases hr:n6 E o s<;>rw [hr] at h<;>simp only [OR.get,Option.some.injEq,Prod.mk.injEq] at h
   ·cases h
   ·obtain ⟨rfl,rfl,_⟩:=h; rfl
   ·obtain ⟨rfl,rfl,_⟩:=h; rfl
  ·split
   ·rename_i hi; exact a1h ha (by simpa using hi)
   ·rfl

theorem b3O {d:Nat} (hu:uniq t.fr) (h:O8 t [d]):t.fresh d=true:=by
 simp only [St.fresh,Bool.and_eq_true,Option.isNone_iff_eq_none]
 exact ⟨(h d (by simp)).1,a3L hu (h d (by simp)).2⟩

theorem b1r {d:Nat} (h:s.fresh d=true):O8 s [d]:=by
 obtain ⟨k1,k2⟩:=a3S h
 intro n hn
 simp only [List.mem_cons,List.not_mem_nil,or_false] at hn
 subst hn
 exact ⟨k1,k2⟩

theorem c0Y {T g:List Nat} {d:Nat} {e:g8} (hg:∀ i∈g,i∈T) (ha:∀ i∈T,look i t.hp=look i s.hp):c4E t ((St.s7 g t).s8 d e) T [d] (a1E g) (fun i=>if i=d then some e else if i∈g then none else look i s.hp):=by
 refine ⟨fun n=>a1w,fun i=>?_⟩
 show look i (Ex.put d e (St.s7 g t).hp)=_
 rw [o5,H5]
 by_cases h1:i=d
 ·simp [h1]
 ·by_cases h3:i∈g
  ·have:=hg i h3; simp [h1,h3,this]
  ·by_cases h2:i∈T
   ·simp [h1,h3,h2,ha i h2]
   ·simp [h1,h2,h3]

theorem C7.obj {o:Oper} {p:Prop} {d:Nat} (hd:o.dst=some d) {e:g8} {v:AV} {g:List Nat} (hv:∀ i,v.i6 i=true→i=d) (hf:s.fresh d=true) (hg:∀ i∈g,i∈l5 E o s)
  (h:∀ t,V5 s t o.op.operands.toList→uniq t.fr→t.fresh d=true→(n6 E o t).get=some (p,v,(St.s7 g t).s8 d e)):C7 E o s p v:=by
 refine ⟨[d],a1E g,(fun i=>if i=d then some e else if i∈g then none else look i s.hp),(Trim.s7 g).mono hg,b1r hf,by simp [hd],fun i hi=>.inr (by simp [hv i hi]),?_⟩
 intro t hu ha hn
 exact ⟨_,h t ha hu (b3O hu hn),a1r (g:=g) hu,c0Y hg (fun i hi=>a1h ha hi)⟩

theorem b0t {d:Nat} {g:List Nat} {u:Ty} {x:u.den} {v:AV} {s':St} (hl:s.lay d g u x=.ok v s'):s.fresh d=true∧v=.at_ d []∧s'=(St.s7 g s).s8 d (.own u x)∧(a1v g && (g.all fun i=>!pinned i))=true:=by
 unfold St.lay at hl
 split at hl
 ·cases hl
 ·rename_i hc
  simp only [Bool.and_eq_true] at hc
  split at hl
  ·cases hl; exact ⟨hc.2,rfl,rfl,by simp only [Bool.and_eq_true]; exact hc.1⟩
  ·cases hl

theorem b3F {d:Nat} {g:List Nat} {u:Ty} {x:u.den} (hf:t.fresh d=true) (hg:(a1v g && (g.all fun i=>!pinned i))=true):t.lay d g u x=.ok (.at_ d []) ((St.s7 g t).s8 d (.own u x)):=by
 unfold St.lay
 have h2:(St.s7 g t).fresh d=true:=by
  simp only [St.fresh,Bool.and_eq_true,Option.isNone_iff_eq_none] at hf ⊢
  refine ⟨by rw [H5]; split<;>first|rfl|exact hf.1,a3n hf.2⟩
 simp only [hg,hf,h2,Bool.and_self]

theorem C7.lay {o:Oper} {p:Prop} {v:AV} {s1:St} {d:Nat} (hd:o.dst=some d) {g:List Nat} {u:Ty} {x:u.den} {W:OR→OR} (hW:∀ v s,(W (.ok v s)).get=some (p,v,s)) (hF:∀ y,(W (.fail y)).get=none) (hg:∀ i∈g,i∈l5 E o s)
  (h:(n6 E o s).get=some (p,v,s1)) (h1:∀ t,V5 s t o.op.operands.toList→n6 E o t=W (t.lay d g u x)):C7 E o s p v:=by
 rw [h1 s (.refl _ _)] at h
 cases hl:s.lay d g u x with
 | fail y=>rw [hl,hF] at h; cases h
 | E4 q v s'=>exact absurd hl S3
 | ok v' s' =>
  rw [hl,hW] at h
  cases h
  obtain ⟨k1,rfl,rfl,k4⟩:=b0t hl
  refine C7.obj hd (e:=.own u x) (g:=g) (fun i hi=>by simpa [AV.i6] using hi) k1 hg (fun t ha hu hf=>?_)
  rw [h1 t ha,b3F hf k4,hW]

theorem a3j {q p:Prop} {r:OR} {v:AV} {s1:St} (h:(r.f6 q).get=some (p,v,s1)) (hr:∀ q' v' s',r≠.E4 q' v' s'):p=q:=by
 cases r with
 | fail y=>cases h
 | ok v s=>simp only [OR.f6,OR.get,Option.some.injEq,Prod.mk.injEq] at h; exact h.1.symm
 | E4 q' v' s'=>exact absurd rfl (hr q' v' s')


theorem c2L {T:TypeId} {a:AV} (h:Alike s t a):a05 E T a t=(a05 E T a s).a0z t:=by
 unfold a05
 cases a with
 | ptr i p =>
  simp only [H2 (h i (by simp [AV.i6]))]
  repeat' (first|rfl|split)
 | _=>first|rfl|(dsimp only; split<;>rfl)

theorem b8A {T:TypeId} {a:AV} {i:Nat} (h:(a05 E T a s).av.i6 i=true):a.i6 i=true:=by
 unfold a05 at h
 cases a with
 | ptr j p =>
  simp only at h
  repeat' (split at h)
  all_goals first|exact h|(cases h; done)
 | _ =>
  simp only at h
  repeat' (split at h)
  all_goals first|exact h|(cases h; done)

theorem a8f {i:Nat}:∀ {n:Nat} {l v:AV},n6.nth n l=some v→v.i6 i=true→l.i6 i=true
 | 0,l,v,h,hv=>by
  cases l<;>simp only [n6.nth] at h<;>first|cases h|skip
  simp [AV.i6,hv]
 | n+1,l,v,h,hv=>by
  cases l<;>simp only [n6.nth] at h<;>first|cases h|skip
  simp [AV.i6,a8f h hv]

theorem c4N (d k:Nat):K5 d k % 1000=d % 1000:=by unfold K5; omega
theorem b6N {d j k:Nat} (h:K5 d j=K5 d k):j=k:=by unfold K5 at h; omega

theorem a5b:∀ {ts:List Ty} {x:DL ts} {d j:Nat} {hp:List (Nat×g8)} {l:AV} {hp':List (Nat×g8)},U7 ts x d j hp=some (l,hp') →
  (∀ i,l.i6 i=true→∃ k,j≤k∧k<j+ts.length∧i=K5 d k) ∧
  ∃ h:Nat→Option g8,∀ h2,(∀ k,j≤k→k<j+ts.length→look (K5 d k) h2=none)→∃ h2',U7 ts x d j h2=some (l,h2')∧∀ i,look i h2'=(match h i with|some e=>some e|none=>look i h2)∧((h i).isSome→∃ k,j≤k∧k<j+ts.length∧i=K5 d k)
 | [],x,d,j,hp,l,hp',h=>by
  simp only [U7,Option.some.injEq,Prod.mk.injEq] at h
  obtain ⟨rfl,rfl⟩:=h
  exact ⟨by simp [AV.i6],fun _=>none,fun h2 _=>⟨h2,rfl,fun i=>⟨rfl,by simp⟩⟩⟩
 | u::ts,x,d,j,hp,l,hp',h=>by
  simp only [U7] at h
  split at h
  ·rename_i hs
   split at h
   ·rename_i l' hp2 hl'
    cases h
    obtain ⟨k1,h,k2⟩:=a5b hl'
    refine ⟨fun i hi=>?_,h,fun h2 hh=>?_⟩
    ·obtain ⟨k,m1,m2,m3⟩:=k1 i (by simpa [AV.i6] using hi)
     exact ⟨k,by omega,by simp only [List.length_cons]; omega,m3⟩
    ·obtain ⟨h2',e1,e2⟩:=k2 h2 (fun k hk1 hk2=>hh k (by omega) (by simp only [List.length_cons]; omega))
     refine ⟨h2',by simp only [U7,hs,e1],fun i=>⟨(e2 i).1,fun hi=>?_⟩⟩
     obtain ⟨k,m1,m2,m3⟩:=(e2 i).2 hi
     exact ⟨k,by omega,by simp only [List.length_cons]; omega,m3⟩
   ·cases h
  ·rename_i hs
   split at h
   ·cases h
   ·rename_i hlk
    split at h
    ·rename_i l' hp2 hl'
     cases h
     obtain ⟨k1,h,k2⟩:=a5b hl'
     refine ⟨fun i hi=>?_,fun i=>if i=K5 d j then some (a1y u x.1 (K5 d j)).1 else h i,fun h2 hh=>?_⟩
     ·simp only [AV.i6,Bool.or_eq_true] at hi
      rcases hi with hi|hi
      ·refine ⟨j,Nat.le_refl _,by simp,?_⟩
       rcases a8n u x.1 (K5 d j) with e|⟨g,_,_,_,e⟩
       ·rw [e] at hi; exact Nat.eq_of_beq_eq_true hi
       ·rw [e] at hi
        cases g with
        | none=>exact Nat.eq_of_beq_eq_true hi
        | some f =>
         have hi:(Nat.beq i (K5 d j) || false)=true:=hi
         rw [Bool.or_false] at hi
         exact Nat.eq_of_beq_eq_true hi
      ·obtain ⟨k,m1,m2,m3⟩:=k1 i hi
       exact ⟨k,by omega,by simp only [List.length_cons]; omega,m3⟩
     ·have e0:look (K5 d j) h2=none:=hh j (Nat.le_refl _) (by simp)
      obtain ⟨h2',e1,e2⟩:=k2 (put (K5 d j) (a1y u x.1 (K5 d j)).1 h2) (fun k hk1 hk2=>by
       rw [o5,if_neg (fun e=>by have:=b6N e; omega)]
       exact hh k (by omega) (by simp only [List.length_cons]; omega))
      refine ⟨h2',by simp only [U7,hs,e0,e1],fun i=>⟨?_,fun hi=>?_⟩⟩
      ·rw [(e2 i).1,o5]
       by_cases he:i=K5 d j
       ·simp only [he,if_true]
        cases hh2:h (K5 d j) with
        | none=>rfl
        | some e =>
         exfalso
         obtain ⟨k,m1,m2,m3⟩:=(e2 (K5 d j)).2 (by rw [hh2]; rfl)
         have:=b6N m3; omega
       ·simp only [if_neg he]
      ·by_cases he:i=K5 d j
       ·exact ⟨j,Nat.le_refl _,by simp,he⟩
       ·simp only [if_neg he] at hi
        obtain ⟨k,m1,m2,m3⟩:=(e2 i).2 hi
        exact ⟨k,by omega,by simp only [List.length_cons]; omega,m3⟩
    ·cases h

theorem a43 {d:Nat}:∀ {n:Nat} {fr:List (Nat×AV)},(∀ k,k<n→Y4 (K5 d k) fr=true)→a0N d n fr=true
 | 0,_,_=>rfl
 | n+1,fr,h=>by
  simp only [a0N,Bool.and_eq_true]
  exact ⟨h n (by omega),a43 (fun k hk=>h k (by omega))⟩

theorem a42 {d:Nat}:∀ {n:Nat} {hp:List (Nat×g8)},a4s d n hp=true↔∀ k,k<n→look (K5 d k) hp=none
 | 0,_=>by simp [a4s]
 | n+1,hp=>by
  simp only [a4s,Bool.and_eq_true,Option.isNone_iff_eq_none,a42 (n:=n)]
  constructor
  ·rintro ⟨h1,h2⟩ k hk
   by_cases e:k=n
   ·subst e; exact h1
   ·exact h2 k (by omega)
  ·intro h; exact ⟨h n (by omega),fun k hk=>h k (by omega)⟩

theorem c2D {i:Nat} {l:AV} (h:l.one.i6 i=true):l.i6 i=true:=by
 unfold AV.one at h
 split at h
 ·simp [AV.i6,h]
 ·exact h

theorem a2j:∀ {ks:List PK} {y:DL (F3 ks)} {m:List Nat} {s1:St},wr ks y m s=some s1 →
  (m=[]∧∀ t,wr ks y m t=some t)∨∃ i ow e,m=[i]∧∀ t,wr ks y m t=some ((t.T6 i ow).s8 i e)
 | [],y,m,s1,h=>by
  cases m with
  | nil=>exact .inl ⟨rfl,fun t=>rfl⟩
  | cons i m=>cases h
 | k::ks,y,m,s1,h=>by
  cases k with
  | rw u =>
   match m,h with
   | [],h=>cases h
   | [i],h =>
    simp only [wr] at h
    split at h
    ·rename_i hw
     exact .inr ⟨i,false,.var u y.1,rfl,fun t=>by simp only [wr,hw]⟩
    ·cases h
   | i::j::m,h=>cases h
  | mu u =>
   match m,h with
   | [],h=>cases h
   | [i],h =>
    simp only [wr] at h
    split at h
    ·rename_i hw
     exact .inr ⟨i,true,.own (.d0 true u) y.1,rfl,fun t=>by simp only [wr,hw]⟩
    ·cases h
   | i::j::m,h=>cases h
  | v u=>cases m<;>exact a2j (ks:=ks) h
  | S7=>cases m<;>exact a2j (ks:=ks) h
  | Y2 f n=>cases m<;>exact a2j (ks:=ks) h
  | el q=>cases m<;>exact a2j (ks:=ks) h
  | rd u=>cases m<;>exact a2j (ks:=ks) h
  | B8 f ts=>cases m<;>exact a2j (ks:=ks) h
  | own u=>cases m<;>exact a2j (ks:=ks) h

end
end Go.Ex

namespace Go.Ex

section
variable {E:Env} {s t:St}

theorem a1V {c:Call} {x:Operand} (hx:x∈c.args.toList):x∈(Op.call c).operands.toList:=by
 simp only [Op.operands,Call.operands]; simp at hx ⊢; first|exact .inr hx|exact .inl hx

def gq (m:Nat) (v:AV):AV:=match Nat.beq m H4 with|true=>.any|false=>v
theorem a9z {s:St} {m:Nat}:s.ev (.tmp m)=gq m (s.get m):=rfl
theorem a2c {s:St} {m i:Nat} (h:(s.ev (.tmp m)).i6 i=true):(s.get m).i6 i=true:=by
 rw [a9z] at h
 unfold gq at h
 split at h
 ·cases h
 ·exact h
theorem a0J {s t:St} {m:Nat} (h:t.get m=s.get m):t.ev (.tmp m)=s.ev (.tmp m):=congrArg (gq m) h
theorem c5i {s:St} {m:Nat} {v:AV} (hb:Nat.beq m H4=false) (h:s.get m=v):s.ev (.tmp m)=v:=by
 rw [a9z,h]; unfold gq; rw [hb]
theorem a2t {s:St} {m:Nat} {v:AV} (h:s.ev (.tmp m)=v) (hv:v≠.any):s.get m=v:=by
 rw [a9z] at h
 unfold gq at h
 split at h
 ·exact absurd h.symm hv
 ·exact h
theorem b8S {s:St} {m:Nat} {v:AV} (h:s.ev (.tmp m)=v) (hv:v≠.any):Nat.beq m H4=false:=by
 rw [a9z] at h
 unfold gq at h
 split at h
 ·exact absurd h.symm hv
 ·assumption

theorem a6L {o:Oper} {c:Call} (ho:o.op=.call c) {f:Operand} (hc:c.callee=.value f) {W:OR→OR} {π:Prop→Prop} (hW:∀ r,(W r).get=r.get.map (fun x=>(π x.1,x.2.1,x.2.2))) {g:FuncId} {caps fv:AV} (hg:s.ev f=fv) (hcm:∀ i,caps.i6 i=true→fv.i6 i=true)
  (he:∀ t,t.ev f=fv→n6 E o t=W (O5 E g ((t.H9 c.args.toList).app caps) o.dst t))
  (hT:l5 E o s=(match look g E.C0 with
    | some c'=>(match c'.ps.any PK.l5 with
     | false=>[]
     | true=>((s.H9 c.args.toList).app caps).E6)
    | none=>[])) {p:Prop} {v:AV} {s1:St} (h:(n6 E o s).get=some (p,v,s1)):C7 E o s p v:=by
 have hfo:f∈o.op.operands.toList:=by rw [ho]; simp [Op.operands,Call.operands,hc]
 have hxo:∀ x∈c.args.toList,x∈o.op.operands.toList:=fun x hx=>by rw [ho]; exact a1V hx
 rw [he s hg,hW] at h
 obtain ⟨q,h,hq⟩:∃ q,(O5 E g ((s.H9 c.args.toList).app caps) o.dst s).get=some (q,v,s1)∧π q=p:=by
  cases hr:(O5 E g ((s.H9 c.args.toList).app caps) o.dst s).get with
  | none=>rw [hr] at h; cases h
  | some x =>
   rw [hr] at h
   simp only [Option.map_some,Option.some.injEq,Prod.mk.injEq] at h
   exact ⟨x.1,by rw [← h.2.1,← h.2.2],h.1⟩
 have hargs:∀ i,((s.H9 c.args.toList).app caps).i6 i=true→∃ x∈o.op.operands.toList,(s.ev x).i6 i=true:=by
  intro i hi
  rcases a5w hi with hi|hi
  ·obtain ⟨x,hx,hi⟩:=X3 hi; exact ⟨x,hxo x hx,hi⟩
  ·exact ⟨f,hfo,by rw [hg]; exact hcm i hi⟩
 generalize hav:(s.H9 c.args.toList).app caps=av at h hargs hT
 unfold O5 at h
 split at h
 ·cases h
 ·rename_i c' hlk
  rw [hlk] at hT
  simp only at hT
  split at h
  ·cases h
  ·rename_i x gs m hx
   obtain ⟨hm1,hm2⟩:=b1H hx
   have hgT:∀ i,i∈gs++m→i∈l5 E o s:=by
    intro i hi
    rw [hT]
    cases hp:c'.ps.any PK.l5 with
    | true=>exact G5.2 (hm1 i hi)
    | false=>obtain ⟨r1,r2⟩:=hm2 hp; rw [r1,r2] at hi; cases hi
   split at h
   ·cases h
   ·rename_i hcond
    obtain ⟨hcond1,hcond2⟩:=(Bool.and_eq_true_iff).1 hcond
    obtain ⟨hnm,hnr⟩:=(Bool.and_eq_true_iff).1 hcond2
    split at h
    ·cases h
    ·rename_i s2 hwr
     split at h
     ·cases h
     ·rename_i hm
      split at h
      ·rename_i l hp hlay
       simp only [OR.get,Option.some.injEq,Prod.mk.injEq] at h
       obtain ⟨rfl,rfl,_⟩:=h
       obtain ⟨k3,h3,k4⟩:=a5b hlay
       simp only [Nat.zero_add,Nat.zero_le,true_and] at k3 k4
       have hids:∀ {t:St},O8 t ((List.range c'.rs.length).map (K5 (o.dst.getD 0)))→∀ k,k<c'.rs.length→look (K5 (o.dst.getD 0) k) t.hp=none:=fun hn k hk=>(hn _ (List.mem_map.2 ⟨k,by simpa using hk,rfl⟩)).1
       -- what is written, and by what the slots turn
       have hw:∃ (f:AV→AV) (h:Nat→Option g8),Trim (l5 E o s) f∧(∀ i,i∉l5 E o s→h i=none)∧∀ t,uniq t.fr→(∀ i∈l5 E o s,look i t.hp=look i s.hp)→∃ t2,wr c'.ps (c'.out x) m (St.s7 gs t)=some t2∧uniq t2.fr∧(∀ n,look n t2.fr=(look n t.fr).map f)∧∀ i,look i t2.hp=if i∈l5 E o s then h i else look i t.hp:=by
        rcases a2j hwr with ⟨rfl,hw⟩|⟨i0,ow,e,rfl,hw⟩
        ·refine ⟨a1E gs,fun i=>if i∈l5 E o s then (if i∈gs then none else look i s.hp) else none,(Trim.s7 gs).mono (fun i hi=>hgT i (by simp [hi])),fun i hi=>by simp [hi],fun t hu ha=>⟨_,hw _,a1r hu,fun n=>a1w,fun i=>?_⟩⟩
         rw [H5]
         by_cases h1:i∈gs
         ·simp [h1,hgT i (by simp [h1])]
         ·by_cases h2:i∈l5 E o s
          ·simp [h1,h2,ha i h2]
          ·simp [h1,h2]
        ·have hi0:i0∈l5 E o s:=hgT i0 (by simp)
         refine ⟨fun u=>AV.map (AV.a1B i0 ow) (a1E gs u),fun i=>if i∈l5 E o s then (if i=i0 then some e else if i∈gs then none else look i s.hp) else none,
          Trim.comp (Trim.s7 gs) (Trim.T6 i0 ow) (fun i hi=>hgT i (by simp [hi])) (by simpa using hi0),fun i hi=>by simp [hi],fun t hu ha=>⟨_,hw _,a2l (a1r hu),fun n=>?_,fun i=>?_⟩⟩
         ·show look n (mapA _ (St.s7 gs t).fr)=_
          rw [N0,a1w,Option.map_map]; rfl
         ·show look i (Ex.put i0 e (St.s7 gs t).hp)=_
          rw [o5,H5]
          by_cases h0:i=i0
          ·subst h0; simp [hi0]
          ·by_cases h1:i∈gs
           ·simp [h0,h1,hgT i (by simp [h1])]
           ·by_cases h2:i∈l5 E o s
            ·simp [h0,h1,h2,ha i h2]
            ·simp [h0,h1,h2]
       obtain ⟨f0,h0,w1,w2,w3⟩:=hw
       refine ⟨(List.range c'.rs.length).map (K5 (o.dst.getD 0)),f0,fun i=>match h3 i with|some e=>some e|none=>h0 i,w1,?_,?_,?_,?_⟩
       ·intro n hn
        obtain ⟨k,hk,rfl⟩:=List.mem_map.1 hn
        exact ⟨a42.1 hnr k (by simpa using hk),fun m w hw=>a00 (a19 hnm k (by simpa using hk)) hw⟩
       ·intro n hn
        obtain ⟨k,_,rfl⟩:=List.mem_map.1 hn
        exact c4N _ _
       ·intro i hi
        obtain ⟨k,m2,rfl⟩:=k3 i (c2D hi)
        exact .inr (List.mem_map.2 ⟨k,by simpa using m2,rfl⟩)
       ·intro t hu ha hn
        have hal:Alike s t av:=fun i hi=>by obtain ⟨x,hx,hm⟩:=hargs i hi; exact (ha x hx).2 i hm
        obtain ⟨t2,e1,e2,e3,e4⟩:=w3 t hu (fun i hi=>a1h ha hi)
        have hT0:∀ k,k<c'.rs.length→K5 (o.dst.getD 0) k∉l5 E o s:=by
         intro k hk hmem
         obtain ⟨x,hx,hm⟩:=a4S hmem
         obtain ⟨m',rfl,hm'⟩:∃ m',x=.tmp m'∧(s.get m').i6 (K5 (o.dst.getD 0) k)=true:=by
          cases x with
          | tmp m'=>exact ⟨m',rfl,a2c hm⟩
          | const v =>
           exfalso
           simp only [St.ev] at hm
           unfold ofConst at hm
           split at hm
           ·split at hm<;>cases hm
           ·cases hm
           ·split at hm<;>cases hm
           ·cases hm
          | global g=>cases hm
          | func f=>cases hm
         simp only [St.get] at hm'
         cases hl:look m' s.fr with
         | none=>rw [hl] at hm'; cases hm'
         | some w =>
          rw [hl] at hm'
          have:=a00 (a19 hnm k hk) hl
          simp only [Option.getD_some] at hm'
          rw [hm'] at this; cases this
        have hnone:∀ k,k<c'.rs.length→look (K5 (o.dst.getD 0) k) t2.hp=none:=by
         intro k hk
         rw [e4,if_neg (hT0 k hk)]
         exact hids hn k hk
        obtain ⟨h2',r1,r2⟩:=k4 t2.hp (fun k _ hk=>hnone k hk)
        have hm':a0N (o.dst.getD 0) c'.rs.length t2.fr=true:=a43 (fun k hk=>a3L e2 (fun n w hw=>by
         rw [e3] at hw
         cases hl:look n t.fr with
         | none=>rw [hl] at hw; cases hw
         | some u =>
          rw [hl] at hw
          cases hw
          cases hmm:(f0 u).i6 (K5 (o.dst.getD 0) k) with
          | false=>rfl
          | true =>
           have:=(hn (K5 (o.dst.getD 0) k) (List.mem_map.2 ⟨k,by simpa using hk,rfl⟩)).2 n u hl
           rw [w1.i6 u hmm] at this; cases this))
        have hnm':a0N (o.dst.getD 0) c'.rs.length t.fr=true:=a43 (fun k hk=>a3L hu (hn _ (List.mem_map.2 ⟨k,by simpa using hk,rfl⟩)).2)
        have hnr':a4s (o.dst.getD 0) c'.rs.length t.hp=true:=a42.2 (fun k hk=>hids hn k hk)
        have hev:(t.H9 c.args.toList).app caps=av:=by
         rw [a4y (s:=s) (t:=t) (fun x hx=>(ha x (hxo x hx)).1)]; exact hav
        have hca:O5 E g av o.dst t=.E4 (c'.pre x) l.one { t2 with hp:=h2' }:=by
         unfold O5
         simp only [hlk,b7n (s:=s) (t:=t) hal,hx,hcond1,hnm',hnr',Bool.and_self,e1,hm',r1]
        refine ⟨{ t2 with hp:=h2' },?_,e2,⟨e3,fun i=>?_⟩⟩
        ·rw [he t ((ha f hfo).1.trans hg),hW,hev,hca]; simp only [OR.get,Option.map_some,hq]
        ·show look i h2'=_
         rw [(r2 i).1,e4]
         cases hh:h3 i with
         | some e =>
          obtain ⟨k,hk,hik⟩:=(r2 i).2 (by rw [hh]; rfl)
          simp only
          rw [if_pos (.inr (List.mem_map.2 ⟨k,by simpa using hk,hik.symm⟩))]
         | none =>
          simp only
          by_cases h1:i∈l5 E o s
          ·rw [if_pos h1,if_pos (.inl h1)]
          ·rw [if_neg h1]
           split
           ·rename_i hi
            rcases hi with hi|hi
            ·exact absurd hi h1
            ·obtain ⟨k,hk,rfl⟩:=List.mem_map.1 hi
             rw [hids hn k (by simpa using hk),w2 _ h1]
           ·rfl
      ·cases h

theorem c3w {o:Oper} {c:Call} (ho:o.op=.call c) {f:Operand} (hc:c.callee=.value f) {p:Prop} {v:AV} {s1:St} (h:(n6 E o s).get=some (p,v,s1)):C7 E o s p v:=by
 have key:(∃ g caps,s.ev f=.B8 g caps)∨(∃ g b,s.ev f=.val (.fn g) b)∨∃ g t y,s.ev f=.val (.box false (some g) t) y:=by
  unfold n6 at h
  rw [ho] at h
  simp only [hc] at h
  split at h
  ·exact .inl ⟨_,_,by assumption⟩
  ·exact .inr (.inl ⟨_,_,by assumption⟩)
  ·exact .inr (.inr ⟨_,_,_,by assumption⟩)
  ·cases h
 rcases key with ⟨g,caps,hg⟩|⟨g,b,hg⟩|⟨g,t0,y0,hg⟩
 ·refine a6L ho hc (W:=fun r=>r) (π:=fun q=>q) (g:=g) (caps:=caps) (fun r=>by cases r<;>rfl) hg (fun i hi=>hi) (fun t ht=>?_) ?_ h
  ·unfold n6
   rw [ho]
   simp only [hc,ht]
  ·unfold l5; rw [ho]; simp only [hc,hg]; rfl
 ·refine a6L ho hc (W:=fun r=>r.a6P ((b:Bool)=true)) (π:=fun q=>(b:Bool)=true∧q) (g:=g) (caps:=.nil) (fun r=>by cases r<;>rfl) hg (fun i hi=>by cases hi) (fun t ht=>?_) ?_ h
  ·unfold n6
   rw [ho]
   simp only [hc,ht]
  ·unfold l5; rw [ho]; simp only [hc,hg]; rfl
 ·refine a6L ho hc (W:=fun r=>r.a6P ((y0:Option t0.den).isSome=true)) (π:=fun q=>(y0:Option t0.den).isSome=true∧q) (g:=g) (caps:=.cons (.L9 t0 (Option.getD (y0:Option t0.den) t0.o7)) .nil) (fun r=>by cases r<;>rfl) hg (fun i hi=>by cases hi) (fun t ht=>?_) ?_ h
  ·unfold n6
   rw [ho]
   simp only [hc,ht]
  ·unfold l5; rw [ho]; simp only [hc,hg]; rfl

end
end Go.Ex

namespace Go.Ex

section
variable {E:Env} {s t:St}

theorem b77 {T:TypeId} {i:Nat} {p:List Step} {x:AV} {q:Prop} {v:AV} {s1:St} (h:(a0h E T i p x s).get=some (q,v,s1)) :
  v=.raw undef∧∃ g ow e,(∀ j∈g,x.i6 j=true)∧∀ t:St,t.obj i=s.obj i→Alike s t x→(a0h E T i p x t).get=some (q,.raw undef,((St.s7 g t).kill i ow p).s8 i e):=by
 unfold a0h at h
 split at h
 ·cases h
 ·rename_i e hob
  split at h
  ·cases h
  ·rename_i u y hg
   split at h
   ·cases h
   ·rename_i hck
    have base:∀ t:St,t.obj i=s.obj i→t.obj i=some e:=fun t ht=>ht.trans hob
    split at h
    ·split at h
     ·split at h
      ·rename_i r hset
       cases h
       refine ⟨rfl,[],e.kd,e.D6 r,by simp,fun t ht _=>?_⟩
       unfold a0h
       simp only [base t ht,hg,hck,hset]
       rfl
      ·cases h
     ·split at h
      ·rename_i r hset
       cases h
       refine ⟨rfl,[],e.kd,e.D6 r,by simp,fun t ht _=>?_⟩
       unfold a0h
       simp only [base t ht,hg,hck,hset]
       rfl
      ·cases h
     ·cases h
    ·rename_i j q' lo hi
     split at h
     ·split at h
      ·rename_i r hset
       split at h
       ·rename_i hij
        cases h
        refine ⟨rfl,[],e.kd,e.D6 r,by simp,fun t ht _=>?_⟩
        unfold a0h
        simp only [base t ht,hg,hck,hset,hij]
        rfl
       ·cases h
      ·cases h
     ·cases h
    ·rename_i x' hx1 hx2
     split at h
     ·rename_i z g hgv
      split at h
      ·rename_i r hset
       split at h
       ·rename_i hij
        cases h
        refine ⟨rfl,g,e.kd,e.D6 r,a2T hgv,fun t ht hal=>?_⟩
        have hgt:=(a1b hal).trans hgv
        unfold a0h
        simp only [base t ht,hg,hck]
        simp only [hgt,hset,hij]
        rfl
       ·cases h
      ·cases h
     ·rename_i hgv
      split at h
      ·rename_i j q'
       split at h
       ·rename_i u' y' hpt
        split at h
        ·rename_i r hset
         split at h
         ·rename_i hij
          cases h
          refine ⟨rfl,[],e.kd,e.D6 r,by simp,fun t ht hal=>?_⟩
          have hgt:=(a1b hal).trans hgv
          have hpt2:=(H2 (p:=q') (hal j (by simp [AV.i6]))).trans hpt
          unfold a0h
          simp only [base t ht,hg,hck]
          simp only [hgt,hpt2,hset,hij]
          rfl
         ·cases h
        ·cases h
       ·cases h
      ·cases h

theorem c0F {o:Oper} {T:TypeId} {a x:Operand} (ho:o.op=.store T a x) {p:Prop} {v:AV} {s1:St} (h:(n6 E o s).get=some (p,v,s1)):C7 E o s p v:=by
 have hptr:∃ i q,s.ev a=.ptr i q:=by
  unfold n6 at h
  rw [ho] at h
  simp only at h
  split at h
  ·exact ⟨_,_,by assumption⟩
  ·cases h
 obtain ⟨i,q,hp⟩:=hptr
 have ha:∀ t,t.ev a=.ptr i q→n6 E o t=a0h E T i q (t.ev x) t:=by
  intro t ht
  unfold n6
  rw [ho]
  simp only [ht]
 rw [ha s hp] at h
 obtain ⟨rfl,g,ow,e,hg,k⟩:=b77 h
 have hT:l5 E o s=(s.ev a).E6++(s.ev x).E6:=by unfold l5; rw [ho]
 have hiT:i∈l5 E o s:=by rw [hT,hp]; simp [AV.E6]
 have hgT:∀ j∈g,j∈l5 E o s:=fun j hj=>by rw [hT]; exact List.mem_append_right _ (G5.2 (hg j hj))
 have hao:a∈o.op.operands.toList:=by rw [ho]; simp [Op.operands]
 have hxo:x∈o.op.operands.toList:=by rw [ho]; simp [Op.operands]
 refine ⟨[],fun u=>AV.kill i ow q (a1E g u),fun j=>if j=i then some e else if j∈g then none else look j s.hp,Trim.comp (Trim.s7 g) (Trim.kill i ow q) hgT (by simpa using hiT),by simp [O8],by simp,by simp [AV.i6],?_⟩
 intro t hu hag _
 have hev:=(hag x hxo).1
 have hobj:t.obj i=s.obj i:=(hag a hao).2 i (by rw [hp]; simp [AV.i6])
 refine ⟨((St.s7 g t).kill i ow q).s8 i e,?_,a2l (a1r hu),⟨fun n=>?_,fun j=>?_⟩⟩
 ·rw [ha t ((hag a hao).1.trans hp),hev]
  exact k t hobj (fun j hj=>(hag x hxo).2 j hj)
 ·show look n (mapA _ (St.s7 g t).fr)=_
  rw [N0,a1w,Option.map_map]; rfl
 ·show look j (Ex.put i e (St.s7 g t).hp)=_
  rw [o5,H5]
  by_cases h0:j=i
  ·subst h0; simp [hiT]
  ·by_cases h1:j∈g
   ·simp [h0,h1,hgT j h1]
   ·by_cases h2:j∈l5 E o s
    ·simp [h0,h1,h2,a1h hag h2]
    ·simp [h0,h1,h2]

theorem a70 {T:TypeId} {x y:AV} {dst:Option Nat} {p:Prop} {v:AV} {s1:St} (h:(Z0 E T x y dst s).get=some (p,v,s1)) :
  ∃ d g u l,dst=some d∧(∀ j∈g,x.i6 j=true∨y.i6 j=true)∧∀ t,Alike s t x→Alike s t y→Z0 E T x y dst t=(St.lay t d g u l).f6 p:=by
 unfold Z0 at h
 split at h
 ·rename_i q t0 bts d hT
  split at h
  ·cases h
  ·rename_i tt m g happ
   have hgm:=c1M happ
   have ha:∀ t,Alike s t y→y.a1e t t0=some (⟨tt,m⟩,g):=fun t ht=>(b0Q ht).trans happ
   simp only at h
   split at h
   ·split at h
    ·rename_i hty
     obtain rfl:=a3j h (fun _ _ _=>S3)
     refine ⟨d,[]++g,.d0 true t0,(([]:List t0.den)++I1 hty m),rfl,by simpa using fun j hj=>.inr (hgm j hj),fun t _ hy=>?_⟩
     unfold Z0
     simp only [hT,ha t hy,hty,dif_pos]
    ·cases h
   ·split at h
    ·rename_i hck
     split at h
     ·rename_i hty
      obtain rfl:=a3j h (fun _ _ _=>S3)
      refine ⟨d,[]++g,.d0 true t0,(([]:List t0.den)++I1 hty m),rfl,by simpa using fun j hj=>.inr (hgm j hj),fun t _ hy=>?_⟩
      unfold Z0
      simp only [hT,ha t hy,hty,dif_pos,hck]
     ·cases h
    ·cases h
   ·rename_i hx1 hx2
    split at h
    ·rename_i u l f hgv
     split at h
     ·rename_i hu
      split at h
      ·rename_i hty
       obtain rfl:=a3j h (fun _ _ _=>S3)
       refine ⟨d,f++g,.d0 true t0,(I1 hu l++I1 hty m),rfl,?_,fun t hx hy=>?_⟩
       ·intro j hj
        rcases List.mem_append.1 hj with hj|hj
        ·exact .inl (a3P hgv j hj)
        ·exact .inr (hgm j hj)
       ·have hgt:=(a7k hx).trans hgv
        unfold Z0
        simp only [hT,ha t hy]
        simp only [hgt,hu,hty,dif_pos]
      ·cases h
     ·cases h
    ·cases h
 ·cases h

theorem c1R {T:TypeId} {x y:AV} {dst:Option Nat} {p:Prop} {v:AV} {s1:St} (h:(a5A E T x y dst s).get=some (p,v,s1)) :
  ∃ d g u l,dst=some d∧(∀ j∈g,x.i6 j=true∨y.i6 j=true)∧∀ t,Alike s t x→Alike s t y→a5A E T x y dst t=(St.lay t d g u l).f6 p:=by
 unfold a5A at h
 split at h
 ·rename_i q t0 bts d i hT
  split at h
  ·rename_i u z tt m hob happ
   split at h
   ·rename_i hu
    split at h
    ·rename_i ht
     split at h
     ·rename_i hsh
      obtain rfl:=a3j h (fun _ _ _=>S3)
      refine ⟨d,[i],.w5 t0,(2,I1 hu z.2.1++I1 ht m,(I1 hu z.2.2).drop m.length),rfl,by simp [AV.i6],fun t hx hy=>?_⟩
      have ho:t.obj i=some (.own (.w5 u) z):=(hx i (by simp [AV.i6])).trans hob
      have ha:y.a1e t t0=some (⟨tt,m⟩,[]):=(b0Q hy).trans happ
      unfold a5A
      simp only [hT,ho,ha,hu,ht,hsh,dif_pos]
     ·cases h
    ·cases h
   ·cases h
  ·cases h
 ·cases h
theorem c3D {T:TypeId} {x y:AV} {dst:Option Nat} {p:Prop} {v:AV} {s1:St} (h:(a5x E T x y dst s).get=some (p,v,s1)) :
  ∃ d g u l,dst=some d∧(∀ j∈g,x.i6 j=true∨y.i6 j=true)∧∀ t,Alike s t x→Alike s t y→a5x E T x y dst t=(St.lay t d g u l).f6 p:=by
 have hs:∀ t,Alike s t x→b2K t x=b2K s x:=fun t ht=>by
  unfold b2K
  split
  ·rw [ht _ (by simp [AV.i6])]
  ·rfl
 unfold a5x at h
 split at h
 ·rename_i hc
  obtain ⟨d,g,u,l,h1,h2,h3⟩:=c1R h
  exact ⟨d,g,u,l,h1,h2,fun t hx hy=>by unfold a5x; rw [hs t hx,hc]; exact h3 t hx hy⟩
 ·rename_i hc
  obtain ⟨d,g,u,l,h1,h2,h3⟩:=a70 h
  exact ⟨d,g,u,l,h1,h2,fun t hx hy=>by unfold a5x; rw [hs t hx,hc]; exact h3 t hx hy⟩

theorem a6p {i:Nat} {p:List Step} {lo:Nat} {u:Ty} {m:List u.den} {s1:St} (h:a0y s i p lo u m=some s1):∃ ow e',∀ t:St,t.obj i=s.obj i→a0y t i p lo u m=some ((t.T6 i ow).s8 i e'):=by
 unfold a0y at h
 split at h
 ·rename_i e he
  split at h
  ·rename_i u' l hg
   split at h
   ·rename_i hu
    split at h
    ·rename_i r hset
     split at h
     ·rename_i hc
      refine ⟨e.W4,e.D6 r,fun t ht=>?_⟩
      unfold a0y
      rw [ht,he]
      simp only [hg,hu,dif_pos]
      subst hu
      simp only [hset,hc]
     ·cases h
    ·cases h
   ·cases h
  ·cases h
 ·cases h
theorem C7.c4w {o:Oper} {p:Prop} {v:AV} {i:Nat} {ow:Bool} {e':g8} (hi:i∈l5 E o s) (hv:∀ j,v.i6 j=true→∃ x∈o.op.operands.toList,(s.ev x).i6 j=true) (hr:∀ t,V5 s t o.op.operands.toList→(n6 E o t).get=some (p,v,(t.T6 i ow).s8 i e')):C7 E o s p v:=by
 refine ⟨[],AV.map (AV.a1B i ow),fun j=>if j=i then some e' else look j s.hp,(Trim.T6 i ow).mono (by simpa using hi),by simp [O8],by simp,fun j hj=>.inl (hv j hj),fun t hu ha _=>⟨_,hr t ha,a2l hu,fun n=>?_,fun j=>?_⟩⟩
 ·show look n (mapA _ t.fr)=_
  rw [N0]
 ·show look j (Ex.put i e' t.hp)=_
  rw [o5]
  by_cases h1:j=i
  ·subst h1; simp [hi]
  ·rw [if_neg h1]
   by_cases h2:j∈l5 E o s
   ·rw [if_pos (.inl h2),if_neg h1]; exact a1h ha h2
   ·rw [if_neg (by simp [h2])]
theorem C7.fill {o:Oper} {p:Prop} {v:AV} {i:Nat} {ow:Bool} {e':g8} (hi:i∈l5 E o s) (hv:∀ j,v.i6 j=false) (hr:∀ t,V5 s t o.op.operands.toList→(n6 E o t).get=some (p,v,(t.T6 i ow).s8 i e')):C7 E o s p v :=
 .c4w hi (fun j hj=>by rw [hv j] at hj; cases hj) hr

theorem b9L {o:Oper} {c:Call} (ho:o.op=.call c) (hc:c.callee=.builtin .append) {p:Prop} {v:AV} {s1:St} (h:(n6 E o s).get=some (p,v,s1)):C7 E o s p v:=by
 have hxo:∀ x∈c.args.toList,x∈o.op.operands.toList:=fun x hx=>by rw [ho]; exact a1V hx
 have hT:l5 E o s=(s.H9 c.args.toList).E6:=by unfold l5; rw [ho]; simp only [hc]
 have key:(∃ x y T F,(F=Z0 E T∨F=a5x E T)∧c.args.toList=[x,y]∧(∀ t,t.ev x=s.ev x→t.ev y=s.ev y→n6 E o t=F (t.ev x) (t.ev y) o.dst t))∨(∃ x y T,c.args.toList=[x,y]∧(∀ t,t.ev x=s.ev x→t.ev y=s.ev y→n6 E o t=Y9 E T (t.ev x) (t.ev y) t))∨(∃ x y T,c.args.toList=[x,y]∧∀ t,n6 E o t=a28 E T (t.ev x) (t.ev y) o.dst t):=by
  unfold n6 at h
  rw [ho] at h
  simp only [hc] at h
  split at h
  ·rename_i x y T U hargs htys
   split at h
   ·rename_i hU
    cases hs2:(s.ev x).c4h (s.ev y) with
    | true=>exact .inr (.inl ⟨x,y,T,hargs,fun t e1 e2=>by unfold n6; rw [ho]; simp only [hc,hargs,htys,hU]; rw [e1,e2,hs2]⟩)
    | false=>exact .inl ⟨x,y,T,_,.inr rfl,hargs,fun t e1 e2=>by unfold n6; rw [ho]; simp only [hc,hargs,htys,hU]; rw [e1,e2,hs2]⟩
   ·rename_i hU
    exact .inl ⟨x,y,T,_,.inl rfl,hargs,fun t _ _=>by unfold n6; rw [ho]; simp only [hc,hargs,htys,hU]⟩
   ·rename_i hU
    exact .inr (.inr ⟨x,y,T,hargs,fun t=>by unfold n6; rw [ho]; simp only [hc,hargs,htys,hU]⟩)
   ·cases h
  ·cases h
 rcases key with key|⟨x,y,T,hargs,he⟩|⟨x,y,T,hargs,he⟩
 rotate_left
 ·have hxm:x∈o.op.operands.toList:=hxo x (by rw [hargs]; simp)
  have hym:y∈o.op.operands.toList:=hxo y (by rw [hargs]; simp)
  rw [he s rfl rfl] at h
  have hI:=b6s h
  simp only at hI
  obtain ⟨i,lo,hi,q,t0,bts,u,m,l,hx,hT1,happ,hob,hf,hck,rfl,rfl⟩:=a7Z hI
  obtain ⟨ow,e',hfl⟩:=a6p hf
  have hm:(s.ev x).i6 i=true:=by rw [hx]; simp [AV.i6]
  refine C7.c4w (i:=i) (ow:=ow) (e':=e') (by rw [hT,G5,hargs]; simp [St.H9,AV.i6,hm]) (fun j hj=>⟨x,hxm,by rw [hx]; exact hj⟩) (fun t ha=>?_)
  rw [he t (ha x hxm).1 (ha y hym).1,(ha x hxm).1,(ha y hym).1,hx]
  have hobt:t.obj i=some (.own (.d0 true u) l):=((ha x hxm).2 i hm).trans hob
  unfold Y9
  simp only [hT1,(b0Q (u:=t0) (ha y hym).2).trans happ,hobt,hfl t ((ha x hxm).2 i hm),hck,decide_true]
  rfl
 ·have h0:=h
  rw [he] at h
  have hxm:x∈o.op.operands.toList:=hxo x (by rw [hargs]; simp)
  have hym:y∈o.op.operands.toList:=hxo y (by rw [hargs]; simp)
  unfold a28 at h
  split at h
  ·rename_i t0 bts d k n hT1 hd1 hx1 hy1
   obtain rfl:=a3j h (fun _ _ _=>S3)
   refine C7.lay hd1 (g:=[]) (u:=.d0 true t0) (x:=List.replicate n.toNat t0.o7) (W:=OR.f6 (0≤n∧n≤140737488355328∧n*(t0.wb:Nat)≤140737488355328)) (fun _ _=>rfl) (fun _=>rfl) (by simp) h0 (fun t ha=>?_)
   rw [he,(ha x hxm).1,(ha y hym).1]
   unfold a28
   simp only [hT1,hd1,hx1,hy1]
  ·cases h
 obtain ⟨x,y,T,F,hF,hargs,he⟩:=key
 have h0:=h
 rw [he s rfl rfl] at h
 have hloc:∃ d g u l,o.dst=some d∧(∀ j∈g,(s.ev x).i6 j=true∨(s.ev y).i6 j=true)∧∀ t,Alike s t (s.ev x)→Alike s t (s.ev y)→F (s.ev x) (s.ev y) o.dst t=(St.lay t d g u l).f6 p:=by
  rcases hF with rfl|rfl
  ·exact a70 h
  ·exact c3D h
 obtain ⟨d,g,u,l,hd,hg,k⟩:=hloc
 have hxm:x∈o.op.operands.toList:=hxo x (by rw [hargs]; simp)
 have hym:y∈o.op.operands.toList:=hxo y (by rw [hargs]; simp)
 refine C7.lay hd (g:=g) (u:=u) (x:=l) (W:=OR.f6 p) (fun _ _=>rfl) (fun _=>rfl) ?_ h0 (fun t ha=>?_)
 ·intro j hj
  rw [hT,G5,hargs]
  rcases hg j hj with h|h<;>simp [St.H9,AV.i6,h]
 ·rw [he t (ha x hxm).1 (ha y hym).1,(ha x hxm).1,(ha y hym).1]
  exact k t (ha x hxm).2 (ha y hym).2

end
end Go.Ex

namespace Go.Ex

section
variable {E:Env} {s t:St}

theorem ag {o:Oper} {x:Operand} (h:V5 s t o.op.operands.toList) (hx:x∈o.op.operands.toList):t.ev x=s.ev x∧Alike s t (s.ev x):=⟨(h x hx).1,(h x hx).2⟩

theorem ob1 {i:Nat} {p:List Step} (h:Alike s t (.ptr i p)):t.obj i=s.obj i:=h i (by simp [AV.i6])
theorem ob2 {i:Nat} {p:List Step} (h:Alike s t (.at_ i p)):t.obj i=s.obj i:=h i (by simp [AV.i6])
theorem ob3 {i:Nat} {p:List Step} {a b:Int} (h:Alike s t (.sub i p a b)):t.obj i=s.obj i:=h i (by simp [AV.i6])

theorem b2w {o:Oper} {T:TypeId} {x:Operand} {n:Nat} (ho:o.op=.fieldAddr T x n) {p:Prop} {v:AV} {s1:St} (h:(n6 E o s).get=some (p,v,s1)):C7 E o s p v:=by
 have hx:x∈o.op.operands.toList:=by rw [ho]; simp [Op.operands]
 refine .ro h (fun t ha=>?_) (fun i hi=>⟨x,hx,?_⟩)
 ·obtain ⟨e1,e2⟩:=ag ha hx
  unfold n6
  rw [ho]
  simp only [e1]
  cases hx:s.ev x with
  | ptr i q =>
   rw [hx] at e2
   simp only [H2 (e2 i (by simp [AV.i6]))]
   repeat' (first|rfl|split)
  | val u z =>
   cases u with
   | box o0 g0 u0=>cases o0<;>cases g0<;>first|rfl|(dsimp only; repeat' (first|rfl|split))
   | _=>first|rfl|(dsimp only; repeat' (first|rfl|split))
  | _=>first|rfl|(dsimp only; split<;>rfl)
 ·unfold n6 at hi
  rw [ho] at hi
  simp only at hi
  cases hx:s.ev x with
  | ptr j q =>
   rw [hx] at hi
   simp only at hi
   repeat' (split at hi)
   all_goals first|exact hi|(cases hi; done)
  | val u z =>
   rw [hx] at hi
   exfalso
   cases u with
   | box o0 g0 u0=>cases o0<;>cases g0<;>first|(cases hi; done)|(simp only at hi; repeat' (split at hi))<;>(cases hi)
   | _=>first|(cases hi; done)|(simp only at hi; repeat' (split at hi))<;>(cases hi)
  | _ =>
   rw [hx] at hi
   simp only at hi
   repeat' (split at hi)
   all_goals first|exact hi|(cases hi; done)

theorem b2v {o:Oper} {T:TypeId} {x y:Operand} (ho:o.op=.indexAddr T x y) {p:Prop} {v:AV} {s1:St} (h:(n6 E o s).get=some (p,v,s1)):C7 E o s p v:=by
 have hxo:x∈o.op.operands.toList:=by rw [ho]; simp [Op.operands]
 have hyo:y∈o.op.operands.toList:=by rw [ho]; simp [Op.operands]
 refine .ro h (fun t ha=>?_) (fun i hi=>⟨x,hxo,?_⟩)
 ·obtain ⟨e1,e2⟩:=ag ha hxo
  have e3:=(ag ha hyo).1
  unfold n6
  rw [ho]
  simp only [e1,e3]
  split
  ·rename_i hx _; rw [hx] at e2; (first|simp only [H2 (ob1 e2)]|simp only [H2 (ob2 e2)]) ; (generalize s.part _ _=pt; cases pt with|none=>rfl|some q=>(obtain ⟨u,z⟩:=q; cases u<;>first|rfl|(dsimp only; repeat' (first|rfl|split))|(rename_i o0 _; cases o0<;>first|rfl|(dsimp only; repeat' (first|rfl|split)))))
  ·repeat' (first|rfl|split)
  ·repeat' (first|rfl|split)
  ·rename_i hx _; rw [hx] at e2; (first|simp only [H2 (ob1 e2)]|simp only [H2 (ob2 e2)]) ; (generalize s.part _ _=pt; cases pt with|none=>rfl|some q=>(obtain ⟨u,z⟩:=q; cases u<;>first|rfl|(dsimp only; repeat' (first|rfl|split))|(rename_i o0 _; cases o0<;>first|rfl|(dsimp only; repeat' (first|rfl|split)))))
  ·rename_i hx _; rw [hx] at e2; simp only [a69 (ob3 e2)] ; (generalize s.view _ _ _ _=pt; cases pt with|none=>rfl|some q=>(obtain ⟨u,z⟩:=q; dsimp only; repeat' (first|rfl|split)))
  ·rfl
 ·unfold n6 at hi
  rw [ho] at hi
  simp only at hi
  split at hi
  ·rename_i hx _; rw [hx]; repeat' (split at hi)
   all_goals first|exact hi|(cases hi; done)
  ·repeat' (split at hi)
   all_goals (cases hi; done)
  ·repeat' (split at hi)
   all_goals (cases hi; done)
  ·rename_i hx _; rw [hx]; repeat' (split at hi)
   all_goals first|exact hi|(cases hi; done)
  ·rename_i hx _; rw [hx]; repeat' (split at hi)
   all_goals first|exact hi|(cases hi; done)
  ·cases hi

theorem c1d {o:Oper} {T:TypeId} {x y:Operand} (ho:o.op=.index T x y) {p:Prop} {v:AV} {s1:St} (h:(n6 E o s).get=some (p,v,s1)):C7 E o s p v:=by
 have hxo:x∈o.op.operands.toList:=by rw [ho]; simp [Op.operands]
 have hyo:y∈o.op.operands.toList:=by rw [ho]; simp [Op.operands]
 refine .ro h (fun t ha=>?_) (fun i hi=>⟨x,hxo,?_⟩)
 ·obtain ⟨e1,e2⟩:=ag ha hxo
  have e3:=(ag ha hyo).1
  unfold n6
  rw [ho]
  simp only [e1,e3]
  split
  ·split<;>rfl
  ·split<;>rfl
  ·rename_i hx _; rw [hx] at e2; (first|simp only [H2 (ob1 e2)]|simp only [H2 (ob2 e2)]) ; (generalize s.part _ _=pt; cases pt with|none=>rfl|some q=>(obtain ⟨u,z⟩:=q; cases u<;>first|rfl|(dsimp only; repeat' (first|rfl|split))|(rename_i o0 _; cases o0<;>first|rfl|(dsimp only; repeat' (first|rfl|split)))))
  ·rfl
 ·unfold n6 at hi
  rw [ho] at hi
  simp only at hi
  split at hi
  ·repeat' (split at hi)
   all_goals (cases hi; done)
  ·repeat' (split at hi)
   all_goals (cases hi; done)
  ·rename_i hx _; rw [hx]; repeat' (split at hi)
   all_goals first|exact hi|(cases hi; done)
  ·cases hi

theorem c1g {o:Oper} {T:TypeId} {x:Operand} {n:Nat} (ho:o.op=.field T x n) {p:Prop} {v:AV} {s1:St} (h:(n6 E o s).get=some (p,v,s1)):C7 E o s p v:=by
 have hxo:x∈o.op.operands.toList:=by rw [ho]; simp [Op.operands]
 refine .ro h (fun t ha=>?_) (fun i hi=>⟨x,hxo,?_⟩)
 ·obtain ⟨e1,e2⟩:=ag ha hxo
  unfold n6
  rw [ho]
  simp only [e1]
  split
  ·split<;>rfl
  ·rename_i hx; rw [hx] at e2; (first|simp only [H2 (ob1 e2)]|simp only [H2 (ob2 e2)]) ; (generalize s.part _ _=pt; cases pt with|none=>rfl|some q=>(obtain ⟨u,z⟩:=q; cases u<;>first|rfl|(dsimp only; repeat' (first|rfl|split))|(rename_i o0 _; cases o0<;>first|rfl|(dsimp only; repeat' (first|rfl|split)))))
  ·rfl
 ·unfold n6 at hi
  rw [ho] at hi
  simp only at hi
  split at hi
  ·repeat' (split at hi)
   all_goals (cases hi; done)
  ·rename_i hx; rw [hx]; repeat' (split at hi)
   all_goals first|exact hi|(cases hi; done)
  ·cases hi

theorem c5o {o:Oper} {c:Call} (ho:o.op=.call c) (hc:c.callee=.builtin .cap) {p:Prop} {v:AV} {s1:St} (h:(n6 E o s).get=some (p,v,s1)):C7 E o s p v:=by
 obtain ⟨x,T,ha,hT⟩:∃ x T,c.args.toList=[x]∧c.argTypes.toList=[T]:=by
  unfold n6 at h
  rw [ho] at h
  simp only [hc] at h
  split at h
  ·exact ⟨_,_,by assumption,by assumption⟩
  ·cases h
 have hx0:x∈o.op.operands.toList:=by rw [ho]; exact a1V (by rw [ha]; simp)
 refine .ro h (fun t hag=>?_) (fun i hi=>?_)
 ·obtain ⟨e1,e2⟩:=ag hag hx0
  unfold n6
  rw [ho]
  simp only [hc,ha,hT,e1]
  repeat' (first|rfl|split)
 ·exfalso
  unfold n6 at hi
  rw [ho] at hi
  simp only [hc,ha,hT] at hi
  repeat' (split at hi)
  all_goals (cases hi)

theorem c7e {v:AV} (h:Alike s t v):v.mp t=v.mp s:=by
 unfold AV.mp
 split
 ·rfl
 ·rename_i i p; simp only [H2 (h i (by simp [AV.i6]))]
 ·rfl

theorem b8x {o:Oper} {T:TypeId} {x y:Operand} {ok:Bool} (ho:o.op=.lookup T x y ok) {p:Prop} {v:AV} {s1:St} (h:(n6 E o s).get=some (p,v,s1)):C7 E o s p v:=by
 have hx:x∈o.op.operands.toList:=by rw [ho]; simp [Op.operands]
 have hy:y∈o.op.operands.toList:=by rw [ho]; simp [Op.operands]
 have hl:∀ t,n6 E o t=a1Y E T (t.ev x) (t.ev y) ok t:=fun t=>by unfold n6; rw [ho]
 refine .ro h (fun t ha=>?_) (fun i hi=>?_)
 ·rw [hl,hl,(ag ha hx).1,(ag ha hy).1]
  unfold a1Y
  rw [c7e (ag ha hx).2]
  repeat' (first|rfl|split)
 ·exfalso
  rw [hl] at hi
  unfold a1Y at hi
  repeat' (split at hi)
  all_goals (simp [OR.av,AV.i6] at hi)

theorem b5O {o:Oper} {T:TypeId} {r:Option Operand} (ho:o.op=.makeMap T r) {p:Prop} {v:AV} {s1:St} (h:(n6 E o s).get=some (p,v,s1)):C7 E o s p v:=by
 have key:∃ k u b d,r=none∧look T E.tt=some ⟨.map true k u,b⟩∧o.dst=some d:=by
  unfold n6 at h; rw [ho] at h
  simp only at h
  split at h
  ·exact ⟨_,_,_,_,rfl,by assumption,by assumption⟩
  ·cases h
 obtain ⟨k,u,b,d,rfl,h1,h2⟩:=key
 have he:∀ t,n6 E o t=t.lay d [] (.map true k u) (some ([]:List (k.den×u.den))):=fun t=>by unfold n6; rw [ho]; simp only [h1,h2]
 rw [he] at h
 cases hl:s.lay d [] (.map true k u) (some ([]:List (k.den×u.den))) with
 | fail y=>rw [hl] at h; cases h
 | E4 q v s'=>exact absurd hl S3
 | ok v' s' =>
  rw [hl] at h
  cases h
  obtain ⟨k1,rfl,rfl,k4⟩:=b0t hl
  exact C7.obj h2 (e:=.own (.map true k u) (some [])) (g:=[]) (fun i hi=>by simpa [AV.i6] using hi) k1 (by simp) (fun t ha hu hf=>by rw [he t,b3F hf k4]; rfl)

theorem c0I {o:Oper} {T:TypeId} {x:Operand} {lo hi mx:Option Operand} (ho:o.op=.slice T x lo hi mx) {p:Prop} {v:AV} {s1:St} (h:(n6 E o s).get=some (p,v,s1)):C7 E o s p v:=by
 have hops:∀ y,y=x∨lo=some y∨hi=some y∨mx=some y→y∈o.op.operands.toList:=by
  rw [ho]
  rintro y (rfl|rfl|rfl|rfl)<;>simp [Op.operands]
 have hxo:x∈o.op.operands.toList:=hops x (.inl rfl)
 have he:∀ t,n6 E o t=a2n E T (t.ev x) lo hi mx t:=fun t=>by unfold n6; rw [ho]
 refine .ro h (fun t ha=>?_) (fun i hi'=>⟨x,hxo,?_⟩)
 ·obtain ⟨e1,e2⟩:=ag ha hxo
  rw [he,he,e1]
  have b1:∀ d,X6 t d lo=X6 s d lo:=fun d=>b4o (fun y hy=>(ag ha (hops y (.inr (.inl hy)))).1)
  have b2:∀ d,X6 t d hi=X6 s d hi:=fun d=>b4o (fun y hy=>(ag ha (hops y (.inr (.inr (.inl hy))))).1)
  have b3:∀ d,X6 t d mx=X6 s d mx:=fun d=>b4o (fun y hy=>(ag ha (hops y (.inr (.inr (.inr hy))))).1)
  unfold a2n
  simp only [b1,b2,b3]
  split
  ·rfl
  ·split
   ·repeat' (first|rfl|split)
   ·repeat' (first|rfl|split)
   ·repeat' (first|rfl|split)
   ·repeat' (first|rfl|split)
   ·rename_i hx; rw [hx] at e2; (first|simp only [H2 (ob1 e2)]|simp only [H2 (ob2 e2)]) ; (generalize s.part _ _=pt; cases pt with|none=>rfl|some q=>(obtain ⟨u,z⟩:=q; cases u<;>first|rfl|(dsimp only; repeat' (first|rfl|split))|(rename_i o0 _; cases o0<;>first|rfl|(dsimp only; repeat' (first|rfl|split)))))
   ·rename_i hx; rw [hx] at e2; simp only [H2 (ob3 e2)] ; (generalize s.part _ _=pt; cases pt with|none=>rfl|some q=>(obtain ⟨u,z⟩:=q; cases u<;>first|rfl|(dsimp only; repeat' (first|rfl|split))|(rename_i o0 _; cases o0<;>first|rfl|(dsimp only; repeat' (first|rfl|split)))))
   ·rename_i hx; rw [hx] at e2; (first|simp only [H2 (ob1 e2)]|simp only [H2 (ob2 e2)]) ; (generalize s.part _ _=pt; cases pt with|none=>rfl|some q=>(obtain ⟨u,z⟩:=q; cases u<;>first|rfl|(dsimp only; repeat' (first|rfl|split))|(rename_i o0 _; cases o0<;>first|rfl|(dsimp only; repeat' (first|rfl|split)))))
   ·rfl
 ·rw [he] at hi'
  unfold a2n at hi'
  split at hi'
  ·cases hi'
  ·split at hi'
   ·repeat' (split at hi')
    all_goals (cases hi'; done)
   ·repeat' (split at hi')
    all_goals (cases hi'; done)
   ·repeat' (split at hi')
    all_goals (cases hi'; done)
   ·repeat' (split at hi')
    all_goals (cases hi'; done)
   ·rename_i hx; rw [hx]; repeat' (split at hi')
    all_goals first|exact hi'|(cases hi'; done)
   ·rename_i hx; rw [hx]; repeat' (split at hi')
    all_goals first|exact hi'|(cases hi'; done)
   ·rename_i hx; rw [hx]; repeat' (split at hi')
    all_goals first|exact hi'|(cases hi'; done)
   ·cases hi'

theorem c5c {o:Oper} {c:Call} (ho:o.op=.call c) (hc:c.callee=.builtin .len) {p:Prop} {v:AV} {s1:St} (h:(n6 E o s).get=some (p,v,s1)):C7 E o s p v:=by
 obtain ⟨x,T,ha,hT⟩:∃ x T,c.args.toList=[x]∧c.argTypes.toList=[T]:=by
  unfold n6 at h
  rw [ho] at h
  simp only [hc] at h
  split at h
  ·exact ⟨_,_,by assumption,by assumption⟩
  ·cases h
 have hx0:x∈o.op.operands.toList:=by rw [ho]; exact a1V (by rw [ha]; simp)
 refine .ro h (fun t hag=>?_) (fun i hi=>?_)
 ·obtain ⟨e1,e2⟩:=ag hag hx0
  unfold n6
  rw [ho]
  simp only [hc,ha,hT,e1]
  split
  ·repeat' (first|rfl|split)
  ·repeat' (first|rfl|split)
  ·repeat' (first|rfl|split)
  ·repeat' (first|rfl|split)
  ·rename_i hx; rw [hx] at e2; (first|simp only [H2 (ob1 e2)]|simp only [H2 (ob2 e2)]) ; (generalize s.part _ _=pt; cases pt with|none=>rfl|some q=>(obtain ⟨u,z⟩:=q; cases u<;>first|rfl|(dsimp only; repeat' (first|rfl|split))|(rename_i o0 _; cases o0<;>first|rfl|(dsimp only; repeat' (first|rfl|split)))|(rename_i o0 _ _; cases o0<;>first|rfl|(dsimp only; repeat' (first|rfl|split)))))
  ·rename_i hx; rw [hx] at e2; simp only [a69 (ob3 e2)] ; (generalize s.view _ _ _ _=pt; cases pt with|none=>rfl|some q=>(obtain ⟨u,z⟩:=q; dsimp only; repeat' (first|rfl|split)))
  ·repeat' (first|rfl|split)
  ·rfl
 ·exfalso
  unfold n6 at hi
  rw [ho] at hi
  simp only [hc,ha,hT] at hi
  repeat' (split at hi)
  all_goals (cases hi)

theorem b3P {k:IntKind} {f:Int→Int→Int}:∀ {l:List Operand} {n:Int},(∀ x∈l,t.ev x=s.ev x)→foldI t k f n l=(foldI s k f n l).a0z t
 | [],n,_=>rfl
 | x::l,n,h=>by
  simp only [foldI,h x (by simp)]
  split
  ·split
   ·exact b3P (fun y hy=>h y (by simp [hy]))
   ·rfl
  ·rfl

theorem a5j {k:IntKind} {f:Int→Int→Int} {i:Nat}:∀ {l:List Operand} {n:Int},(foldI s k f n l).av.i6 i=true→False
 | [],n,h=>by cases h
 | x::l,n,h=>by
  simp only [foldI] at h
  split at h
  ·split at h
   ·exact a5j h
   ·cases h
  ·cases h

theorem a9m {o:Oper} {c:Call} (ho:o.op=.call c) (hc:c.callee=.builtin .max∨c.callee=.builtin .min) {p:Prop} {v:AV} {s1:St} (h:(n6 E o s).get=some (p,v,s1)):C7 E o s p v:=by
 have hxo:∀ x∈c.args.toList,x∈o.op.operands.toList:=fun x hx=>by rw [ho]; exact a1V hx
 refine .ro h (fun t hag=>?_) (fun i hi=>?_)
 ·unfold n6
  rw [ho]
  rcases hc with hc|hc <;>
  ·simp only [hc]
   split
   ·rename_i x l ha
    rw [(hag x (hxo x (by rw [ha]; simp))).1]
    split
    ·exact b3P (fun y hy=>(hag y (hxo y (by rw [ha]; simp [hy]))).1)
    ·rfl
   ·rfl
 ·exfalso
  unfold n6 at hi
  rw [ho] at hi
  rcases hc with hc|hc
  ·simp only [hc] at hi
   split at hi
   ·split at hi
    ·exact a5j hi
    ·cases hi
   ·cases hi
  ·simp only [hc] at hi
   split at hi
   ·split at hi
    ·exact a5j hi
    ·cases hi
   ·cases hi

theorem c1A {o:Oper} {T:TypeId} {parts:Array (Nat×Operand)} (ho:o.op=.build T parts) {p:Prop} {v:AV} {s1:St} (h:(n6 E o s).get=some (p,v,s1)):C7 E o s p v:=by
 have hps:∀ t,V5 s t o.op.operands.toList→∀ q∈parts.toList,t.ev q.2=s.ev q.2∧Alike s t (s.ev q.2):=fun t ha q hq=>ag ha (by rw [ho]; simp only [Op.operands]; simpa using ⟨q.1,by simpa using hq⟩)
 have key:∃ t0 r g,look T E.tt=some t0∧(t0.ty.agg && parts.toList.all (fun q=>a1C t0.ty q.1))=true∧O7 s ⟨t0.ty,t0.ty.o7⟩ parts.toList=some (r,g):=by
  unfold n6 at h; rw [ho] at h
  simp only at h
  split at h
  ·split at h
   ·split at h
    ·exact ⟨_,_,_,by assumption,by assumption,by assumption⟩
    ·exact ⟨_,_,_,by assumption,by assumption,by assumption⟩
    ·cases h
   ·cases h
  ·cases h
 obtain ⟨t0,⟨u,y⟩,g,h1,h2,h3⟩:=key
 have hb:∀ t,V5 s t o.op.operands.toList→O7 t ⟨t0.ty,t0.ty.o7⟩ parts.toList=some (⟨u,y⟩,g):=fun t ha=>(a3V (s:=s) (t:=t) (hps t ha)).trans h3
 cases g with
 | nil =>
  have he:∀ t,V5 s t o.op.operands.toList→n6 E o t=.ok (.val u y) t:=fun t ha=>by unfold n6; rw [ho]; simp only [h1,h2,hb t ha]
  refine .ro h (fun t ha=>?_) (fun i hi=>?_)
  ·rw [he t ha,he s (.refl _ _)]; rfl
  ·rw [he s (.refl _ _)] at hi; cases hi
 | cons g0 g =>
  cases hd:o.dst with
  | none =>
   exfalso
   unfold n6 at h; rw [ho] at h
   simp only [h1,h2,h3,hd] at h
   cases h
  | some d =>
   refine C7.lay hd (g:=g0::g) (u:=u) (x:=y) (W:=fun r=>r) (p:=p) (v:=v) (s1:=s1) ?_ (fun _=>rfl) ?_ h (fun t ha=>by unfold n6; rw [ho]; simp only [h1,h2,hb t ha,hd])
   ·have hp:p=True:=by
     unfold n6 at h; rw [ho] at h
     simp only [h1,h2,h3,hd] at h
     cases hl:s.lay d (g0::g) u y<;>rw [hl] at h
     ·cases h
     ·cases h; rfl
     ·exact absurd hl S3
    intro v s; rw [hp]; rfl
   ·intro i hi
    obtain ⟨q,hq,hm⟩:=a2f h3 i hi
    unfold l5
    rw [ho]
    exact G5.2 (a8j (List.mem_map.2 ⟨q,hq,rfl⟩) hm)

theorem b0M {o:Oper} {T:TypeId} {n:Nat} {parts:Array (Nat×Operand)} (ho:o.op=.buildSlice T n parts) {p:Prop} {v:AV} {s1:St} (h:(n6 E o s).get=some (p,v,s1)):C7 E o s p v:=by
 have hps:∀ t,V5 s t o.op.operands.toList→∀ q∈parts.toList,t.ev q.2=s.ev q.2∧Alike s t (s.ev q.2):=fun t ha q hq=>ag ha (by rw [ho]; simp only [Op.operands]; simpa using ⟨q.1,by simpa using hq⟩)
 have key:∃ t0 b d m t' l g,look T E.tt=some ⟨.d0 true t0,b⟩∧o.dst=some d∧(s.fresh d && parts.toList.all (fun q=>Nat.blt q.1 n) && Nat.ble (n*t0.size) 16777216)=true∧b0N s n t0 parts.toList=some (⟨.arr m t',l⟩,g):=by
  unfold n6 at h; rw [ho] at h
  simp only at h
  split at h
  ·split at h
   ·split at h
    ·exact ⟨_,_,_,_,_,_,_,by assumption,by assumption,by assumption,by assumption⟩
    ·cases h
   ·cases h
  ·cases h
 obtain ⟨t0,b,d,m,t',l,g,h1,h2,h4,h5⟩:=key
 have hb:∀ t,V5 s t o.op.operands.toList→b0N t n t0 parts.toList=some (⟨.arr m t',l⟩,g):=fun t ha=>by
  rw [← h5]; unfold b0N; rw [a3V (s:=s) (t:=t) (hps t ha),a3V (s:=s) (t:=t) (hps t ha)]
 obtain ⟨t9,_,h9⟩:=b4n h5
 have he:∀ t,V5 s t o.op.operands.toList→t.fresh d=true→n6 E o t=t.lay d g (.d0 true t') l:=fun t ha hf=>by
  simp only [Bool.and_eq_true] at h4
  unfold n6; rw [ho]; simp only [h1,h2,hf,h4.1.2,h4.2,hb t ha,Bool.and_self]
 have hf:s.fresh d=true:=by simp only [Bool.and_eq_true] at h4; exact h4.1.1
 have hgT:∀ i∈g,i∈l5 E o s:=by
  intro i hi
  obtain ⟨q,hq,hm⟩:=a2f h9 i hi
  unfold l5
  rw [ho]
  exact G5.2 (a8j (List.mem_map.2 ⟨q,hq,rfl⟩) hm)
 rw [he s (.refl _ _) hf] at h
 cases hl:s.lay d g (.d0 true t') l with
 | fail y=>rw [hl] at h; cases h
 | E4 q v s'=>exact absurd hl S3
 | ok v' s' =>
  rw [hl] at h
  cases h
  obtain ⟨k1,rfl,rfl,k4⟩:=b0t hl
  exact C7.obj h2 (e:=.own (.d0 true t') l) (g:=g) (fun i hi=>by simpa [AV.i6] using hi) k1 hgT (fun t ha hu hf=>by rw [he t ha hf,b3F hf k4]; rfl)

theorem c5r {o:Oper} {T:TypeId} {x:Operand} (ho:o.op=.box T x) {p:Prop} {v:AV} {s1:St} (h:(n6 E o s).get=some (p,v,s1)):C7 E o s p v:=by
 have hxo:x∈o.op.operands.toList:=by rw [ho]; simp [Op.operands]
 have hT:l5 E o s=(s.ev x).E6:=by unfold l5; rw [ho]
 have key:∃ t0 d,look T E.tt=some t0∧o.dst=some d∧s.fresh d=true:=by
  unfold n6 at h; rw [ho] at h
  simp only at h
  split at h
  ·split at h
   ·exact ⟨_,_,by assumption,by assumption,by assumption⟩
   ·cases h
  ·cases h
 obtain ⟨t0,d,h1,h2,h3⟩:=key
 have he:∀ t,t.fresh d=true→n6 E o t=(match (t.ev x).a0w t with
    | some (⟨u,y⟩,g)=>if u.N6.sh=t0.ty.N6.sh then (match a1v g && !g.contains d && g.all fun i=>!pinned i with
     | true=>.ok (.ptr d []) ((St.s7 g t).s8 d (.var u y))
     | false=>.fail "box: objects") else .fail "box: value"
    | none=>(match t.ev x,t0.ty with
     | .raw (.slice none 0 0),.d0 o u=>.ok (.ptr d []) (t.s8 d (.var (.d0 o u) ([]:List u.den)))
     | .ptr i p,.box _ none _=>.ok (.bx (.ptr i p)) t
     | _,_=>.fail "box: what")):=fun t ht=>by unfold n6; rw [ho]; simp only [h1,h2,ht]; rfl
 rw [he s h3] at h
 split at h
 ·rename_i u y g hgv
  split at h
  ·rename_i hsh
   split at h
   ·rename_i hc
    cases h
    refine C7.obj h2 (e:=.var u y) (g:=g) (fun i hi=>by simpa [AV.i6] using hi) h3 (fun i hi=>by rw [hT]; exact G5.2 (a2T hgv i hi)) (fun t ha hu hf=>?_)
    obtain ⟨e1,e2⟩:=ag ha hxo
    rw [he t hf,e1]
    simp only [(a1b e2).trans hgv,hsh,if_true,hc]
    rfl
   ·cases h
  ·cases h
 ·rename_i hgv
  split at h
  ·rename_i o' u hx ht0
   cases h
   refine C7.obj h2 (e:=.var (.d0 o' u) ([]:List u.den)) (g:=[]) (fun i hi=>by simpa [AV.i6] using hi) h3 (by simp) (fun t ha hu hf=>?_)
   obtain ⟨e1,e2⟩:=ag ha hxo
   have hgt:=(a1b e2).trans hgv
   rw [hx] at e1 hgt
   rw [he t hf,e1]
   simp only [hgt,ht0]
   rfl
  ·rename_i i q o0 u0 hx ht0
   cases h
   refine ⟨[d],fun u=>u,fun j=>if j=d then none else look j s.hp,Trim.id _,b1r h3,by simp [h2],fun j hj=>.inl ⟨x,hxo,by rw [hx]; exact hj⟩,fun t hu ha hn=>?_⟩
   have hf:=b3O hu hn
   obtain ⟨e1,e2⟩:=ag ha hxo
   have hgt:=(a1b e2).trans hgv
   rw [hx] at e1 hgt
   refine ⟨t,?_,hu,⟨fun n=>by simp,fun j=>?_⟩⟩
   ·rw [he t hf,e1]; simp only [hgt,ht0]; rfl
   ·by_cases hj:j=d
    ·subst hj
     rw [if_pos (.inr (by simp)),if_pos rfl]
     exact (hn j (by simp)).1
    ·by_cases hj2:j∈l5 E o s
     ·rw [if_pos (.inl hj2),if_neg hj]; exact a1h ha hj2
     ·rw [if_neg (by simp [hj2,hj])]
  ·cases h

theorem b57 {o:Oper} {T' T:TypeId} {x:Operand} (ho:o.op=.convert T' T x) {p:Prop} {v:AV} {s1:St} (h:(n6 E o s).get=some (p,v,s1)):C7 E o s p v:=by
 have hxo:x∈o.op.operands.toList:=by rw [ho]; simp [Op.operands]
 by_cases hs:(∃ y,s.ev x=.val .str y)∧(∃ b,look T' E.tt=some ⟨.str,b⟩)∧(∃ b,look T E.tt=some ⟨.d0 true (.int .u8),b⟩)
 ·obtain ⟨⟨y,hy⟩,⟨b,hb⟩,⟨b',hb'⟩⟩:=hs
  cases hd:o.dst with
  | none =>
   exfalso
   unfold n6 at h; rw [ho] at h
   simp only [hy,hb,hb',hd] at h
   cases h
  | some d =>
   have he:∀ t,t.ev x=s.ev x→n6 E o t=t.lay d [] (.d0 true (.int .u8)) (List.map (fun b:UInt8=>(b.toNat:Int)) y:List Int):=fun t ht=>by
    unfold n6; rw [ho]; simp only [ht,hy,hb,hb',hd]
   have hp:p=True:=by
    rw [he s rfl] at h
    cases hl:s.lay d [] (.d0 true (.int .u8)) (List.map (fun b:UInt8=>(b.toNat:Int)) y:List Int)<;>rw [hl] at h
    ·cases h
    ·cases h; rfl
    ·exact absurd hl S3
   exact C7.lay hd (g:=[]) (W:=fun r=>r) (fun v s=>by rw [hp]; rfl) (fun _=>rfl) (by simp) h (fun t ha=>he t (ag ha hxo).1)
 ·refine .ro h (fun t ha=>?_) (fun i hi=>?_)
  ·obtain ⟨e1,e2⟩:=ag ha hxo
   unfold n6; rw [ho]; simp only [e1]
   split
   ·rfl
   ·rename_i hx ht1 ht2
    exact absurd ⟨⟨_,hx⟩,⟨_,ht1⟩,⟨_,ht2⟩⟩ hs
   ·rw [b3U e2]
    repeat' (first|rfl|split)
   ·rfl
  ·exfalso
   unfold n6 at hi; rw [ho] at hi
   simp only at hi
   split at hi
   ·cases hi
   ·rename_i hx ht1 ht2
    exact absurd ⟨⟨_,hx⟩,⟨_,ht1⟩,⟨_,ht2⟩⟩ hs
   ·repeat' (split at hi)
    all_goals (cases hi)
   ·cases hi

theorem b2s {o:Oper} {T:TypeId} {x y:Operand} (ho:o.op=.makeSlice T x y) {p:Prop} {v:AV} {s1:St} (h:(n6 E o s).get=some (p,v,s1)):C7 E o s p v:=by
 have hxo:x∈o.op.operands.toList:=by rw [ho]; simp [Op.operands]
 have hyo:y∈o.op.operands.toList:=by rw [ho]; simp [Op.operands]
 have key:∃ t0 b d k n k' m,look T E.tt=some ⟨.d0 true t0,b⟩∧o.dst=some d∧s.ev x=.val (.int k) n∧s.ev y=.val (.int k') m:=by
  unfold n6 at h; rw [ho] at h
  simp only at h
  split at h
  ·unfold a9W at h
   split at h
   ·exact ⟨_,_,_,_,_,_,_,by assumption,by assumption,by assumption,by assumption⟩
   ·cases h
  ·split at h
   ·exact ⟨_,_,_,_,_,_,_,by assumption,by assumption,by assumption,by assumption⟩
   ·cases h
 obtain ⟨t0,b,d,k,n,k',m,h1,h2,h3,h4⟩:=key
 cases hmsl:E.rs.any Ty.b8H with
 | true =>
  have he:∀ t,t.ev x=s.ev x→t.ev y=s.ev y→n6 E o t=(t.lay d [] (.w5 t0) (2,List.replicate (Int.toNat n) t0.o7,List.replicate (Int.toNat m - Int.toNat n) t0.o7)).f6 (@LE.le Int Int.instLEInt 1 m∧@LE.le Int Int.instLEInt 0 n∧@LE.le Int Int.instLEInt n m∧@LE.le Int Int.instLEInt m 140737488355328∧@LE.le Int Int.instLEInt (@HMul.hMul Int Int Int _ m (t0.wb:Nat)) 140737488355328):=fun t e1 e2=>by
   unfold n6; rw [ho]; simp only [e1,e2,hmsl]; unfold a9W; simp only [h1,h2,h3,h4]
  have h0:=h
  rw [he s rfl rfl] at h
  obtain rfl:=a3j h (fun _ _ _=>S3)
  exact C7.lay h2 (g:=[]) (W:=OR.f6 _) (fun _ _=>rfl) (fun _=>rfl) (by simp) h0 (fun t ha=>he t (ag ha hxo).1 (ag ha hyo).1)
 | false =>
  have he:∀ t,t.ev x=s.ev x→t.ev y=s.ev y→n6 E o t=(t.lay d [] (.d0 true t0) (List.replicate (Int.toNat n) t0.o7)).f6 (@LE.le Int Int.instLEInt 0 n∧@LE.le Int Int.instLEInt n m∧@LE.le Int Int.instLEInt m 140737488355328∧@LE.le Int Int.instLEInt (@HMul.hMul Int Int Int _ m (t0.wb:Nat)) 140737488355328):=fun t e1 e2=>by
   unfold n6; rw [ho]; simp only [e1,e2,hmsl,h1,h2,h3,h4]
  have h0:=h
  rw [he s rfl rfl] at h
  obtain rfl:=a3j h (fun _ _ _=>S3)
  exact C7.lay h2 (g:=[]) (W:=OR.f6 _) (fun _ _=>rfl) (fun _=>rfl) (by simp) h0 (fun t ha=>he t (ag ha hxo).1 (ag ha hyo).1)

theorem b7a {v:AV} (h:Alike s t v):v.a2H t=v.a2H s:=by
 unfold AV.a2H
 split
 ·rw [H2 (ob2 h)]
 ·rw [H2 (ob3 h)]
 ·rfl
theorem b1y {v:AV} {i:Nat} {p:List Step} {lo hi:Int} (h:v.a2H s=some (i,p,lo,hi)):v.i6 i=true:=by
 unfold AV.a2H at h
 split at h
 ·split at h
  ·cases h; simp [AV.i6]
  ·cases h
 ·split at h
  ·cases h; simp [AV.i6]
  ·cases h
 ·cases h
theorem c3n {o:Oper} {c:Call} (ho:o.op=.call c) (hc:c.callee=.builtin .copy) {p:Prop} {v:AV} {s1:St} (h:(n6 E o s).get=some (p,v,s1)):C7 E o s p v:=by
 have hxo:∀ x∈c.args.toList,x∈o.op.operands.toList:=fun x hx=>by rw [ho]; exact a1V hx
 have hT:l5 E o s=(s.H9 c.args.toList).E6:=by unfold l5; rw [ho]; simp only [hc]
 have key:∃ x y T,c.args.toList=[x,y]∧∀ t,n6 E o t=a7o E T (t.ev x) (t.ev y) t:=by
  unfold n6 at h
  rw [ho] at h
  simp only [hc] at h
  split at h
  ·rename_i x y T U hargs htys
   exact ⟨x,y,T,hargs,fun t=>by unfold n6; rw [ho]; simp only [hc,hargs,htys]⟩
  ·cases h
 obtain ⟨x,y,T,hargs,he⟩:=key
 rw [he] at h
 have hxm:x∈o.op.operands.toList:=hxo x (by rw [hargs]; simp)
 have hym:y∈o.op.operands.toList:=hxo y (by rw [hargs]; simp)
 unfold a7o at h
 split at h
 ·rename_i i q lo hi u m hd hels
  split at h
  ·rename_i s' hf hck
   simp only [OR.get,Option.some.injEq,Prod.mk.injEq] at h
   obtain ⟨rfl,rfl,_⟩:=h
   obtain ⟨ow,e',hfl⟩:=a6p hf
   have hm:=b1y hd
   refine C7.fill (i:=i) (ow:=ow) (e':=e') (by rw [hT,G5,hargs]; simp [St.H9,AV.i6,hm]) (fun _=>rfl) (fun t ha=>?_)
   rw [he,(ha x hxm).1,(ha y hym).1]
   unfold a7o
   rw [b7a (ha x hxm).2,b3U (ha y hym).2,hd,hels]
   simp only [hfl t ((ha x hxm).2 i hm),hck]
   rfl
  ·cases h
 ·cases h
theorem c1s {o:Oper} {c:Call} (ho:o.op=.call c) (hc:c.callee=.builtin .clear) {p:Prop} {v:AV} {s1:St} (h:(n6 E o s).get=some (p,v,s1)):C7 E o s p v:=by
 have hxo:∀ x∈c.args.toList,x∈o.op.operands.toList:=fun x hx=>by rw [ho]; exact a1V hx
 have hT:l5 E o s=(s.H9 c.args.toList).E6:=by unfold l5; rw [ho]; simp only [hc]
 have key:∃ x T,c.args.toList=[x]∧∀ t,n6 E o t=a4G E T (t.ev x) t:=by
  unfold n6 at h
  rw [ho] at h
  simp only [hc] at h
  split at h
  ·rename_i x T hargs htys
   exact ⟨x,T,hargs,fun t=>by unfold n6; rw [ho]; simp only [hc,hargs,htys]⟩
  ·cases h
 obtain ⟨x,T,hargs,he⟩:=key
 rw [he] at h
 have hxm:x∈o.op.operands.toList:=hxo x (by rw [hargs]; simp)
 unfold a4G at h
 split at h
 ·rename_i i q lo hi b u bts hd hlk
  split at h
  ·rename_i s' hf
   simp only [OR.get,Option.some.injEq,Prod.mk.injEq] at h
   obtain ⟨rfl,rfl,_⟩:=h
   obtain ⟨ow,e',hfl⟩:=a6p hf
   have hm:=b1y hd
   refine C7.fill (i:=i) (ow:=ow) (e':=e') (by rw [hT,G5,hargs]; simp [St.H9,AV.i6,hm]) (fun _=>rfl) (fun t ha=>?_)
   rw [he,(ha x hxm).1]
   unfold a4G
   rw [b7a (ha x hxm).2,hd,hlk]
   simp only [hfl t ((ha x hxm).2 i hm)]
   rfl
  ·cases h
 ·cases h

theorem b7R {o:Oper} {T:TypeId} {m x y:Operand} (ho:o.op=.mapUpdate T m x y) {p:Prop} {v:AV} {s1:St} (h:(n6 E o s).get=some (p,v,s1)):C7 E o s p v:=by
 have hm:m∈o.op.operands.toList:=by rw [ho]; simp [Op.operands]
 have hx:x∈o.op.operands.toList:=by rw [ho]; simp [Op.operands]
 have hy:y∈o.op.operands.toList:=by rw [ho]; simp [Op.operands]
 have hl:∀ t,n6 E o t=a5V E T (t.ev m) (t.ev x) (t.ev y) t:=fun t=>by unfold n6; rw [ho]
 have hT:l5 E o s=(s.ev m).E6:=by unfold l5; rw [ho]
 rw [hl] at h
 have key:∃ j e',s.ev m=.at_ j []∧p=True∧v=.raw undef∧∀ t:St,t.obj j=s.obj j→a5V E T (s.ev m) (s.ev x) (s.ev y) t=.ok (.raw undef) ((t.T6 j true).s8 j e'):=by
  unfold a5V at h
  split at h
  ·rename_i j u a u' z e1 e2 e3
   split at h
   ·rename_i k w l hob
    split at h
    ·rename_i hu
     split at h
     ·rename_i hu'
      split at h
      ·rename_i hmt
       simp only [OR.get,Option.some.injEq,Prod.mk.injEq] at h
       obtain ⟨rfl,rfl,_⟩:=h
       refine ⟨j,.own (.map true k w) (some (a6e (H7 k) (G1 hu a) (G1 hu' z) l)),e1,rfl,rfl,fun t ht=>?_⟩
       unfold a5V
       rw [e1,e2,e3]
       subst hu hu'
       simp only [ht,hob,hmt,dif_pos]
      ·cases h
     ·cases h
    ·cases h
   ·cases h
  ·cases h
 obtain ⟨j,e',e1,rfl,rfl,hk⟩:=key
 refine C7.fill (i:=j) (ow:=true) (e':=e') (by rw [hT,e1]; simp [AV.E6]) (fun _=>rfl) (fun t ha=>?_)
 rw [hl,(ag ha hm).1,(ag ha hx).1,(ag ha hy).1,hk t ((ag ha hm).2 j (by rw [e1]; simp [AV.i6]))]
 rfl

theorem c5B {o:Oper} (hpick:∀ a b c,o.op≠.pick a b c) {p:Prop} {v:AV} {s1:St} (h:(n6 E o s).get=some (p,v,s1)):C7 E o s p v:=by
 have hin:∀ x,x∈o.op.operands.toList↔x∈o.op.operands.toList:=fun _=>Iff.rfl
 cases ho:o.op with
 | move x =>
  have hx:x∈o.op.operands.toList:=by rw [ho]; simp [Op.operands]
  refine .ro h (fun t ha=>?_) (fun i hi=>⟨x,hx,?_⟩)
  ·unfold n6; rw [ho]; simp only [(ag ha hx).1]; rfl
  ·unfold n6 at hi; rw [ho] at hi; exact hi
 | assign x =>
  have hx:x∈o.op.operands.toList:=by rw [ho]; simp [Op.operands]
  refine .ro h (fun t ha=>?_) (fun i hi=>⟨x,hx,?_⟩)
  ·unfold n6; rw [ho]; simp only [(ag ha hx).1]; rfl
  ·unfold n6 at hi; rw [ho] at hi; exact hi
 | load T x =>
  have hx:x∈o.op.operands.toList:=by rw [ho]; simp [Op.operands]
  have hl:∀ t,n6 E o t=a05 E T (t.ev x) t:=fun t=>by unfold n6; rw [ho]
  refine .ro h (fun t ha=>?_) (fun i hi=>⟨x,hx,?_⟩)
  ·obtain ⟨e1,e2⟩:=ag ha hx
   rw [hl,hl,e1]; exact c2L e2
  ·rw [hl] at hi; exact b8A hi
 | nilCheck x =>
  have hx:x∈o.op.operands.toList:=by rw [ho]; simp [Op.operands]
  refine .ro h (fun t ha=>?_) (fun i hi=>⟨x,hx,?_⟩)
  ·unfold n6; rw [ho]; simp only [(ag ha hx).1]; split<;>rfl
  ·unfold n6 at hi; rw [ho] at hi
   simp only at hi
   split at hi<;>first|(cases hi; done)|(rename_i e; rw [e]; exact hi)
 | binOp op T x y T' =>
  have hx:x∈o.op.operands.toList:=by rw [ho]; simp [Op.operands]
  have hy:y∈o.op.operands.toList:=by rw [ho]; simp [Op.operands]
  have hl:∀ t,n6 E o t=a5v E T op (t.ev x) (t.ev y) t:=fun t=>by unfold n6; rw [ho]
  refine .ro h (fun t ha=>?_) (fun i hi=>?_)
  ·rw [hl,hl,(ag ha hx).1,(ag ha hy).1]; exact c5x ..
  ·exfalso
   rw [hl] at hi
   unfold a5v b3B a8D eqA a8A a8C a8B arith at hi
   repeat' (split at hi)
   all_goals (cases hi)
 | unOp op T x =>
  have hx:x∈o.op.operands.toList:=by rw [ho]; simp [Op.operands]
  have hl:∀ t,n6 E o t=unA op (t.ev x) t:=fun t=>by unfold n6; rw [ho]
  refine .ro h (fun t ha=>?_) (fun i hi=>?_)
  ·rw [hl,hl,(ag ha hx).1]; exact c6a ..
  ·exfalso
   rw [hl] at hi
   unfold unA arith at hi
   repeat' (split at hi)
   all_goals (cases hi)
 | convert T' T x=>exact b57 ho h
 | fieldAddr T x n=>exact b2w ho h
 | indexAddr T x y=>exact b2v ho h
 | index T x y=>exact c1d ho h
 | field T x n=>exact c1g ho h
 | slice T x lo hi mx=>exact c0I ho h
 | makeSlice T x y=>exact b2s ho h
 | build T parts=>exact c1A ho h
 | buildSlice T n parts=>exact b0M ho h
 | makeMap T r=>exact b5O ho h
 | lookup T x y ok=>exact b8x ho h
 | mapUpdate T m x y=>exact b7R ho h
 | box T x=>exact c5r ho h
 | store T a x=>exact c0F ho h
 | extract x n =>
  have hx:x∈o.op.operands.toList:=by rw [ho]; simp [Op.operands]
  refine .ro h (fun t ha=>?_) (fun i hi=>⟨x,hx,?_⟩)
  ·unfold n6; rw [ho]; simp only [(ag ha hx).1]
   split
   ·split<;>rfl
   ·rfl
  ·unfold n6 at hi; rw [ho] at hi
   simp only at hi
   split at hi
   ·rename_i l e
    split at hi
    ·rename_i v hv
     rw [e]; show l.i6 i=true; exact a8f hv hi
    ·cases hi
   ·cases hi
 | makeFunc fn first caps =>
  have hcm:∀ x∈caps.toList,x∈o.op.operands.toList:=fun x hx=>by rw [ho]; simp only [Op.operands]; simp at hx ⊢; exact .inr hx
  have hcs:∀ t,V5 s t o.op.operands.toList→t.H9 caps.toList=s.H9 caps.toList:=fun t ha=>a4y (fun x hx=>(ag ha (hcm x hx)).1)
  refine .ro h (fun t ha=>?_) (fun i hi=>?_)
  ·unfold n6; rw [ho]
   cases fn with
   | func f=>simp only [hcs t ha]; split<;>rfl
   | _=>rfl
  ·unfold n6 at hi; rw [ho] at hi
   cases fn with
   | func f =>
    simp only at hi
    split at hi
    ·obtain ⟨x,hx,hi⟩:=X3 (s:=s) (i:=i) (xs:=caps.toList) hi
     exact ⟨x,hcm x hx,hi⟩
    ·cases hi
   | _=>cases hi
 | alloc T =>
  have key:∃ t0 d,look T E.tt=some t0∧o.dst=some d∧s.fresh d=true:=by
   unfold n6 at h; rw [ho] at h
   simp only at h
   split at h
   ·split at h
    ·exact ⟨_,_,by assumption,by assumption,by assumption⟩
    ·cases h
   ·cases h
  obtain ⟨t0,d,h1,h2,h3⟩:=key
  have he:∀ t,t.fresh d=true→n6 E o t=.ok (.ptr d []) (t.s8 d (.var t0.ty t0.ty.o7)):=fun t ht=>by unfold n6; rw [ho]; simp only [h1,h2,ht]
  rw [he s h3] at h
  simp only [OR.get,Option.some.injEq,Prod.mk.injEq] at h
  obtain ⟨rfl,rfl,rfl⟩:=h
  exact .obj h2 (g:=[]) (fun i hi=>by simpa [AV.i6] using hi) h3 (by simp) (fun t _ _ ht=>by rw [he t ht]; rfl)
 | call c =>
  cases hc:c.callee with
  | value f=>exact c3w ho hc h
  | builtin b =>
   cases b<;>first
    | (exact c5c ho hc h)
    | (exact c5o ho hc h)
    | (exact b9L ho hc h)
    | (exact c3n ho hc h)
    | (exact c1s ho hc h)
    | (exact a9m ho (.inl hc) h)
    | (exact a9m ho (.inr hc) h)
    | (exfalso; unfold n6 at h; rw [ho] at h; simp only [hc] at h; cases h)
  | _=>exfalso; unfold n6 at h; rw [ho] at h; simp only [hc] at h; cases h
 | pick a b c=>exact absurd ho (hpick a b c)
 | _=>exfalso; unfold n6 at h; rw [ho] at h; cases h

end
end Go.Ex

namespace Go.Ex

def M2 (s t:St):Prop:=(∀ n,look n s.fr=look n t.fr)∧(∀ i,look i s.hp=look i t.hp)

theorem M2.refl (s:St):M2 s s:=⟨fun _=>rfl,fun _=>rfl⟩
theorem M2.symm {s t:St} (h:M2 s t):M2 t s:=⟨fun n=>(h.1 n).symm,fun n=>(h.2 n).symm⟩
theorem M2.trans {s t u:St} (h:M2 s t) (k:M2 t u):M2 s u:=⟨fun n=>(h.1 n).trans (k.1 n),fun n=>(h.2 n).trans (k.2 n)⟩

theorem a0H {m:Nat} {s:St} {d:Option Nat} {v:AV}:look m (s.put d v).fr=if d=some m then some v else look m s.fr:=by
 cases d with
 | none=>simp [St.put]
 | some d =>
  simp only [St.put,o5,Option.some.injEq]
  by_cases e:m=d
  ·subst e; simp
  ·rw [if_neg e,if_neg (fun h=>e h.symm)]

theorem a10 {s:St} {d:Option Nat} {v:AV}:(s.put d v).hp=s.hp:=by cases d<;>rfl

theorem a0A {s:St} {d:Option Nat} {v:AV} (h:uniq s.fr):uniq (s.put d v).fr:=by
 cases d with
 | none=>exact h
 | some d=>exact b2Z _ _ h

theorem M2.put {s t:St} (h:M2 s t) (d:Option Nat) (v:AV):M2 (s.put d v) (t.put d v) :=
 ⟨fun n=>by rw [a0H,a0H,h.1 n],fun i=>by rw [a10,a10,h.2 i]⟩

theorem M2.get {s t:St} (h:M2 s t) (m:Nat):s.get m=t.get m:=by simp only [St.get,h.1 m]
theorem M2.ev {s t:St} (h:M2 s t) (x:Operand):s.ev x=t.ev x:=by cases x<;>first|exact a0J (h.get _)|rfl

theorem O8.eqv {s t:St} (h:M2 s t) {ids:List Nat} (hf:O8 s ids):O8 t ids :=
 fun n hn=>⟨(h.2 n).symm.trans (hf n hn).1,fun m v hv=>(hf n hn).2 m v ((h.1 m).trans hv)⟩

def a68 (s t:St) (L:List Nat):Prop:=∀ m∈L,t.get m=s.get m∧∀ i,(s.get m).i6 i=true→t.obj i=s.obj i

theorem a6d (v:Value) (i:Nat):(ofConst v).i6 i=false:=by
 unfold ofConst
 split
 ·split<;>rfl
 ·rfl
 ·split<;>rfl
 ·rfl

theorem a4z {s:St} {x:Operand} {i:Nat} (h:(s.ev x).i6 i=true):∃ m,x=.tmp m∧(s.get m).i6 i=true:=by
 cases x with
 | tmp m=>exact ⟨m,rfl,a2c h⟩
 | const v=>simp [St.ev,a6d] at h
 | global g=>cases h
 | func f=>cases h

theorem a68.agree {s t:St} {L:List Nat} (h:a68 s t L) {xs:List Operand} (hL:∀ m,Operand.tmp m∈xs→m∈L):V5 s t xs:=by
 intro x hx
 refine ⟨?_,fun i hi=>?_⟩
 ·cases x with
  | tmp m=>exact a0J (h m (hL m hx)).1
  | _=>rfl
 ·obtain ⟨m,rfl,hm⟩:=a4z hi
  exact (h m (hL m hx)).2 i hm

structure Put (s s1:St) (d:Option Nat) (T ids:List Nat) (f:AV→AV) (h:Nat→Option g8) (v:AV):Prop where
 fr:∀ n,look n s1.fr=if d=some n then some v else (look n s.fr).map f
 hp:∀ i,look i s1.hp=if i∈T∨i∈ids then h i else look i s.hp

section
variable {s t s1 t1:St} {d:Option Nat} {T ids:List Nat} {f:AV→AV} {h:Nat→Option g8} {v:AV}
theorem Put.eqv (hp:Put s s1 d T ids f h v) (he:M2 s t):Put t s1 d T ids f h v :=
 ⟨fun n=>by rw [hp.fr,he.1 n],fun i=>by rw [hp.hp,he.2 i]⟩
theorem Put.det (hp:Put s s1 d T ids f h v) (hp':Put t t1 d T ids f h v) (he:M2 s t):M2 s1 t1 :=
 ⟨fun n=>by rw [hp.fr,hp'.fr,he.1 n],fun i=>by rw [hp.hp,hp'.hp,he.2 i]⟩
theorem Put.get (hp:Put s s1 d T ids f h v) (hf:Trim T f) {m:Nat} (hm:d≠some m):s1.get m=f (s.get m):=by
 simp only [St.get,hp.fr,if_neg hm]
 cases look m s.fr with
 | none=>exact (hf.plain _ rfl).symm
 | some u=>rfl
end

theorem c2n {T:List Nat} {f:AV→AV} (hf:Trim T f):∀ {j:Nat} {l:AV},n6.nth j (f l)=(n6.nth j l).map f:=by
 have nope:∀ {j:Nat} {l:AV},(∀ a b,l≠.cons a b)→n6.nth j l=none:=by
  intro j l h
  cases l with
  | cons a b=>exact absurd rfl (h a b)
  | _=>cases j<;>rfl
 have hn:∀ u:AV,(∀ a b,u≠.cons a b)→∀ a b,f u≠.cons a b:=by
  intro u hu a b e
  cases u with
  | cons a b=>exact absurd rfl (hu a b)
  | J6 l=>rw [hf.J6] at e; cases e
  | B8 g l=>rw [hf.B8] at e; cases e
  | bx l=>rw [hf.bx] at e; cases e
  | rc g l=>rw [hf.rc] at e; cases e
  | ptr i p=>rcases hf.atom _ (rfl:(AV.ptr i p).ref=true) with h|h<;>rw [h] at e<;>cases e
  | at_ i p=>rcases hf.atom _ (rfl:(AV.at_ i p).ref=true) with h|h<;>rw [h] at e<;>cases e
  | sub i p x y=>rcases hf.atom _ (rfl:(AV.sub i p x y).ref=true) with h|h<;>rw [h] at e<;>cases e
  | _=>rw [hf.plain _ rfl] at e; cases e
 intro j
 induction j with
 | zero =>
  intro l
  cases l with
  | cons a b=>rw [hf.cons]; rfl
  | _=>rw [nope (hn _ (by intro a b e; cases e)),nope (by intro a b e; cases e)]; rfl
 | succ j ih =>
  intro l
  cases l with
  | cons a b=>rw [hf.cons]; exact ih
  | _=>rw [nope (hn _ (by intro a b e; cases e)),nope (by intro a b e; cases e)]; rfl

theorem a2k (o:Oper):(∀ v,H8 o v=v)∨(o.guard=none∧∃ x j,o.op=.extract x j∧∀ v,H8 o v=(match v with
  | .J6 l=>(match n6.nth j l with
   | some v=>.J6 (.cons v .nil)
   | none=>.any)
  | _=>.any)):=by
 unfold H8
 split
 ·rename_i x j hg ho; exact .inr ⟨hg,x,j,ho,fun _=>rfl⟩
 ·exact .inl fun _=>rfl

theorem a73 {T:List Nat} {f:AV→AV} (hf:Trim T f) (o:Oper) (v:AV):H8 o (f v)=f (H8 o v):=by
 rcases a2k o with h|⟨_,x,j,_,h⟩
 ·rw [h,h]
 ·rw [h,h]
  have hany:f .any=.any:=hf.plain _ rfl
  cases v with
  | J6 l =>
   rw [hf.J6]
   simp only [c2n hf]
   cases hn:n6.nth j l with
   | none=>exact hany.symm
   | some u =>
    show AV.J6 (.cons (f u) .nil)=f (.J6 (.cons u .nil))
    rw [hf.J6,hf.cons,hf.plain .nil rfl]
  | cons a b=>rw [hf.cons]; exact hany.symm
  | B8 g l=>rw [hf.B8]; exact hany.symm
  | bx l=>rw [hf.bx]; exact hany.symm
  | rc g l=>rw [hf.rc]; exact hany.symm
  | ptr i p=>rcases hf.atom _ (rfl:(AV.ptr i p).ref=true) with e|e<;>rw [e]<;>exact hany.symm
  | at_ i p=>rcases hf.atom _ (rfl:(AV.at_ i p).ref=true) with e|e<;>rw [e]<;>exact hany.symm
  | sub i p x y=>rcases hf.atom _ (rfl:(AV.sub i p x y).ref=true) with e|e<;>rw [e]<;>exact hany.symm
  | _=>rw [hf.plain _ rfl]; try exact hany.symm

theorem a3a {o:Oper} {v:AV} {i:Nat} (h:(H8 o v).i6 i=true):v.i6 i=true:=by
 rcases a2k o with e|⟨_,x,j,_,e⟩
 ·rwa [e] at h
 ·rw [e] at h
  split at h
  ·rename_i l
   split at h
   ·rename_i u hu
    have:u.i6 i=true:=by simpa [AV.i6] using h
    show l.i6 i=true
    exact a8f hu this
   ·cases h
  ·cases h

def a2C (o:Oper) (s t:St) (L:List Nat):Prop:=∀ m∈L,H8 o (t.get m)=H8 o (s.get m)∧∀ i,(H8 o (s.get m)).i6 i=true→t.obj i=s.obj i

theorem a2C.plain {o:Oper} (h:∀ v,H8 o v=v) {s t:St} {L:List Nat} (ha:a2C o s t L):a68 s t L:=fun m hm=>by
 have:=ha m hm
 simpa only [h] using this
theorem M2.a6Q {s t:St} (h:M2 s t) (o:Oper) (L:List Nat):a2C o s t L:=fun m _=>⟨by rw [h.get m],fun i _=>(h.2 i).symm⟩

def Eff (o:Oper) (run:St→Option (Prop×St)) (d:Option Nat) (L T:List Nat) (s:St) (p:Prop):Prop :=
 ∃ v ids f h,Trim T f∧O8 s ids∧(∀ n∈ids,n % 1000=(d.getD 0) % 1000) ∧
  (∀ i,v.i6 i=true→(∃ m∈L,(H8 o (s.get m)).i6 i=true)∨i∈ids) ∧
  ∀ t,uniq t.fr→a2C o s t L→O8 t ids→∃ t1,run t=some (p,t1)∧uniq t1.fr∧Put t t1 d T ids f h v

section
variable {E:Env} {ops:Array Oper} {s t:St}

theorem b3g {o:Oper} {p:Prop} {s1:St} (h:a0q E o s=some (p,s1)) {L:List Nat} (hL:∀ m,Operand.tmp m∈o.op.operands.toList→m∈L):Eff o (a0q E o) o.dst L (l5 E o s) s p:=by
 rcases a2k o with hvw|⟨hgn,x,j,hop,hvw⟩
 rotate_left
 ·have hd:J4 E.nt o.dst=true:=by
   unfold a0q at h
   split at h
   ·cases h
   ·assumption
  have hr:∀ t,a0q E o t=(match (match t.ev x with|.J6 l=>(match n6.nth j l with|some v=>OR.ok v t|none=>.fail "extract")|_=>.fail "extract").get with|none=>none|some (p,v,s')=>some (p,s'.put o.dst v)):=by
   intro t
   unfold a0q n6
   rw [hd,hop]
   rfl
  have hT:l5 E o s=[]:=by unfold l5; rw [hop]
  rw [hT]
  rw [hr] at h
  have key:∃ m l v,x=.tmp m∧Nat.beq m H4=false∧s.get m=.J6 l∧n6.nth j l=some v∧p=True:=by
   cases x with
   | tmp m =>
    cases hv:s.ev (.tmp m) with
    | J6 l =>
     rw [hv] at h
     cases hn:n6.nth j l with
     | some v =>
      simp only [hn,OR.get,Option.some.injEq,Prod.mk.injEq] at h
      exact ⟨m,l,v,rfl,b8S hv nofun,a2t hv nofun,hn,h.1.symm⟩
     | none=>simp only [hn,OR.get] at h; cases h
    | _ =>
     rw [hv] at h
     cases h
   | const c =>
    exfalso
    have:∀ l,s.ev (.const c)≠.J6 l:=by
     intro l e
     simp only [St.ev] at e
     unfold ofConst at e
     repeat' split at e
     all_goals cases e
    revert h
    cases hv:s.ev (.const c) with
    | J6 l=>exact absurd hv (this l)
    | _=>intro h; cases h
   | global g=>cases h
   | func f=>cases h
  obtain ⟨m,l,v,rfl,hmg,hm,hn,rfl⟩:=key
  have hmL:m∈L:=hL m (by rw [hop]; simp [Op.operands])
  have hvm:H8 o (s.get m)=.J6 (.cons v .nil):=by rw [hvw,hm]; simp only [hn]
  refine ⟨v,[],fun u=>u,fun _=>none,Trim.id _,by simp [O8],by simp,fun i hi=>.inl ⟨m,hmL,by rw [hvm]; simpa [AV.i6] using hi⟩,fun t hu ha _=>?_⟩
  have e1:=(ha m hmL).1
  rw [hvm,hvw] at e1
  have htv:∃ l',t.get m=.J6 l'∧n6.nth j l'=some v:=by
   split at e1
   ·rename_i l' hl'
    split at e1
    ·rename_i v' hv'
     cases e1
     exact ⟨l',hl',hv'⟩
    ·cases e1
   ·cases e1
  obtain ⟨l',f1,f2⟩:=htv
  have hte:t.ev (.tmp m)=.J6 l':=c5i hmg f1
  exact ⟨t.put o.dst v,by rw [hr,hte]; simp only [f2]; rfl,a0A hu,⟨fun n=>by rw [a0H]; simp,fun i=>by rw [a10]; simp⟩⟩
 have hvS:∀ {t:St},a2C o s t L→a68 s t L:=fun ha=>ha.plain hvw
 by_cases hp:∃ a b c,o.op=.pick a b c
 ·obtain ⟨c,a,b,ho⟩:=hp
  have hd:J4 E.nt o.dst=true:=by
   unfold a0q at h
   split at h
   ·cases h
   ·assumption
  have hr:∀ t,a0q E o t=(match t.ev c with|.val .bool g=>some (True,t.put o.dst (match g with|true=>t.ev a|false=>t.ev b))|_=>none):=by
   intro t
   unfold a0q
   rw [hd,ho]
   rfl
  have hT:l5 E o s=[]:=by unfold l5; rw [ho]
  rw [hT]
  rw [hr] at h
  have hops:o.op.operands.toList=[c,a,b]:=by rw [ho]; rfl
  rw [hops] at hL
  have key:∃ g:Bool,s.ev c=.val .bool g:=by
   split at h
   ·exact ⟨_,by assumption⟩
   ·cases h
  obtain ⟨g,hg⟩:=key
  rw [hg] at h
  simp only [Option.some.injEq,Prod.mk.injEq] at h
  obtain ⟨rfl,rfl⟩:=h
  refine ⟨(if g=true then s.ev a else s.ev b),[],fun u=>u,fun _=>none,Trim.id _,by simp [O8],by simp,?_,?_⟩
  ·intro i hi
   cases g with
   | true=>obtain ⟨m,hm,hi⟩:=a4z hi; exact .inl ⟨m,hL m (by simp [← hm]),by rw [hvw]; exact hi⟩
   | false=>obtain ⟨m,hm,hi⟩:=a4z hi; exact .inl ⟨m,hL m (by simp [← hm]),by rw [hvw]; exact hi⟩
  ·intro t hu ha _
   have hag:=(hvS ha).agree hL
   have e1:=(hag c (by simp)).1
   have e2:=(hag a (by simp)).1
   have e3:=(hag b (by simp)).1
   refine ⟨_,by rw [hr,e1,hg,e2,e3],a0A hu,⟨fun n=>by rw [a0H]; cases g<;>simp,fun i=>by rw [a10]; simp⟩⟩
 ·have hp':∀ a b c,o.op≠.pick a b c:=fun a b c e=>hp ⟨a,b,c,e⟩
  have hd:J4 E.nt o.dst=true:=by
   unfold a0q at h
   split at h
   ·cases h
   ·assumption
  have hr:∀ t,a0q E o t=(match (n6 E o t).get with|none=>none|some (p,v,s')=>some (p,s'.put o.dst v)):=by
   intro t
   unfold a0q
   rw [hd]
   cases ho:o.op<;>first|rfl|exact absurd ho (hp' _ _ _)
  rw [hr] at h
  split at h
  ·cases h
  ·rename_i p' v s' hg
   cases h
   obtain ⟨ids,f,h,k1,k2,k3,k4,k5⟩:=c5B hp' hg
   refine ⟨v,ids,f,h,k1,k2,k3,?_,?_⟩
   ·intro i hi
    rcases k4 i hi with ⟨x,hx,hm⟩|hm
    ·obtain ⟨m,rfl,hm⟩:=a4z hm
     exact .inl ⟨m,hL m hx,by rw [hvw]; exact a2c hm⟩
    ·exact .inr hm
   ·intro t hu ha hf
    obtain ⟨t1,e1,e2,e3⟩:=k5 t hu ((hvS ha).agree hL) hf
    exact ⟨t1.put o.dst v,by rw [hr,e1],a0A e2,⟨fun n=>by rw [a0H,e3.fr],fun i=>by rw [a10,e3.hp]⟩⟩

theorem a8d {g:Nat} {v:AV} (hv:s.get g=v) (hn:v≠.any):M2 s (s.put (some g) v):=by
 refine ⟨fun n=>?_,fun i=>rfl⟩
 rw [a0H]
 split
 ·rename_i e
  cases e
  simp only [St.get] at hv
  cases hl:look g s.fr with
  | none=>rw [hl] at hv; exact absurd hv.symm hn
  | some w=>rw [hl] at hv; simp at hv; rw [hv]
 ·rfl

theorem a1Z {o:Oper} {m:Nat} (hm:Operand.tmp m∈o.op.operands.toList):m∈looks ops o:=List.mem_append_left _ (List.mem_filterMap.2 ⟨_,hm,rfl⟩)

theorem a8Z {o:Oper} {i:Nat} (hi:i∈l5 E o s):∃ m∈looks ops o,(s.get m).i6 i=true:=by
 obtain ⟨x,hx,hm⟩:=a4S hi
 obtain ⟨m,rfl,hm⟩:=a4z hm
 exact ⟨m,a1Z hx,a2c hm⟩

theorem c0C {o:Oper} (h:∀ m∈looks ops o,t.get m=s.get m):l5 E o t=l5 E o s :=
 a79 (fun x hx=>by
  cases x with
  | tmp m=>exact a0J (h m (a1Z hx))
  | _=>rfl)

theorem b5E {o:Oper} {i:Nat} (hi:i∈l5 E o s):∃ m∈looks ops o,(H8 o (s.get m)).i6 i=true:=by
 rcases a2k o with h|⟨_,x,j,hop,_⟩
 ·obtain ⟨m,hm,hmi⟩:=a8Z (ops:=ops) hi
  exact ⟨m,hm,by rw [h]; exact hmi⟩
 ·unfold l5 at hi; rw [hop] at hi; cases hi

theorem a80 {o:Oper} (h:∀ m∈looks ops o,H8 o (t.get m)=H8 o (s.get m)):l5 E o t=l5 E o s:=by
 rcases a2k o with e|⟨_,x,j,hop,_⟩
 ·exact c0C (fun m hm=>by have:=h m hm; simpa only [e] using this)
 ·unfold l5; rw [hop]

theorem a3J {o:Oper} (_hu:uniq s.fr) {p:Prop} {s1:St} (h:K0 E ops o s=some (p,s1)):Eff o (K0 E ops o) o.dst (looks ops o) (l5 E o s) s p:=by
 have hL:∀ m,Operand.tmp m∈o.op.operands.toList→m∈looks ops o:=fun m hm=>a1Z hm
 cases hg:o.guard with
 | none =>
  have hr:∀ t,K0 E ops o t=a0q E o t:=fun t=>by unfold K0; rw [hg]
  rw [hr] at h
  have:=b3g h hL
  rwa [← (funext hr:K0 E ops o=a0q E o)] at this
 | some jw =>
  obtain ⟨j,want⟩:=jw
  have hvw:∀ v,H8 o v=v:=by
   rcases a2k o with e|⟨hgn,_⟩
   ·exact e
   ·rw [hg] at hgn; cases hgn
  have hvS:∀ {t:St} {L:List Nat},a2C o s t L→a68 s t L:=fun ha=>ha.plain hvw
  cases hs:a1n ops j with
  | none=>unfold K0 at h; rw [hg] at h; simp [hs] at h
  | some g =>
   have hgL:g∈looks ops o:=by unfold looks; rw [hg]; simp [hs]
   have hr:∀ t,K0 E ops o t=(match t.ev (.tmp g) with
    | .raw (.tuple _)=>match J4 E.nt o.dst with
     | true=>some (True,t.put o.dst (.raw undef))
     | false=>none
    | .val .bool b=>match J4 E.nt o.dst with
     | false=>none
     | true=>match b == want with
      | true=>a0q E o (t.put (some g) (.val .bool b))
      | false=>some (True,(t.put (some g) (.val .bool b)).put o.dst (.raw undef))
    | _=>none):=fun t=>by unfold K0; rw [hg]; dsimp only; rw [hs]; rfl
   have skip:(∀ t,uniq t.fr→t.ev (.tmp g)=s.ev (.tmp g)→∃ t1,K0 E ops o t=some (True,t1)∧uniq t1.fr∧M2 t1 (t.put o.dst (.raw undef)))→Eff o (K0 E ops o) o.dst (looks ops o) (l5 E o s) s True:=by
    intro hrun
    refine ⟨.raw undef,[],fun u=>u,fun i=>look i s.hp,Trim.id _,by simp [O8],by simp,fun i hi=>by simp [AV.i6] at hi,fun t hut ha _=>?_⟩
    have ha:=hvS ha
    obtain ⟨t1,e1,e2,e3⟩:=hrun t hut (a0J (ha g hgL).1)
    refine ⟨t1,e1,e2,⟨fun n=>by rw [e3.1,a0H]; simp,fun i=>?_⟩⟩
    rw [e3.2,a10]
    split
    ·rename_i hi
     obtain ⟨m,hm,hmi⟩:=a8Z (ops:=ops) (by simpa using hi:i∈l5 E o s)
     exact (ha m hm).2 i hmi
    ·rfl
   rw [hr] at h
   cases hv:s.ev (.tmp g) with
   | raw w =>
    rw [hv] at h
    cases w with
    | tuple vs =>
     simp only at h
     cases hd:J4 E.nt o.dst with
     | false=>rw [hd] at h; cases h
     | true =>
      rw [hd] at h
      simp only [Option.some.injEq,Prod.mk.injEq] at h
      obtain ⟨rfl,rfl⟩:=h
      exact skip (fun t hut ht=>⟨_,by rw [hr,ht,hv]; simp only [hd],a0A hut,M2.refl _⟩)
    | _=>cases h
   | val u b =>
    rw [hv] at h
    cases u with
    | bool =>
     simp only at h
     cases hd:J4 E.nt o.dst with
     | false=>rw [hd] at h; cases h
     | true =>
      rw [hd] at h
      simp only at h
      cases hb:(b == want) with
      | false =>
       rw [hb] at h
       simp only [Option.some.injEq,Prod.mk.injEq] at h
       obtain ⟨rfl,rfl⟩:=h
       exact skip (fun t hut ht=>⟨_,by rw [hr,ht,hv]; simp only [hd,hb],a0A (a0A hut),((a8d (a2t (ht.trans hv) (by simp)) (by simp)).symm.put _ _)⟩)
      | true =>
       rw [hb] at h
       simp only at h
       have hsame:=a8d (a2t hv (by simp)) (by simp)
       obtain ⟨v,ids,f,hh,k1,k2,k3,k4,k5⟩:=b3g h hL
       have hTe:l5 E o (s.put (some g) (.val .bool b))=l5 E o s:=a79 (fun x _=>(hsame.ev x).symm)
       rw [hTe] at k1 k5
       refine ⟨v,ids,f,hh,k1,k2.eqv hsame.symm,k3,?_,?_⟩
       ·intro i hi
        rcases k4 i hi with ⟨m,hm,hmi⟩|hm
        ·exact .inl ⟨m,hm,by rw [hsame.get]; exact hmi⟩
        ·exact .inr hm
       ·intro t hut ha hf
        have ha:=hvS ha
        have htg:t.ev (.tmp g)=.val .bool b:=(a0J (ha g hgL).1).trans hv
        have hst:=a8d (a2t htg (by simp)) (by simp)
        obtain ⟨t1,e1,e2,e3⟩:=k5 (t.put (some g) (.val .bool b)) (a0A hut) (fun m hm=>by
         rw [← hst.get,← hsame.get,hvw,hvw]
         refine ⟨(ha m hm).1,fun i hi=>?_⟩
         have:=(ha m hm).2 i hi
         simpa [St.obj,a10] using this) (hf.eqv hst)
        refine ⟨t1,by rw [hr,htg]; simp only [hd,hb,e1],e2,e3.eqv hst.symm⟩
    | _=>cases h
   | _=>rw [hv] at h; cases h

theorem b1e {o:Oper} (hu:uniq s.fr) (he:M2 s t) (ht:uniq t.fr) {p:Prop} {s1:St} (h:K0 E ops o s=some (p,s1)):∃ t1,K0 E ops o t=some (p,t1)∧uniq t1.fr∧M2 s1 t1:=by
 obtain ⟨v,ids,f,hh,k1,k2,k3,k4,k5⟩:=a3J hu h
 obtain ⟨s1',e1,_,e3⟩:=k5 s hu ((M2.refl s).a6Q _ _) k2
 rw [h] at e1; cases e1
 obtain ⟨t1,f1,f2,f3⟩:=k5 t ht (he.a6Q _ _) (k2.eqv he)
 exact ⟨t1,f1,f2,e3.det f3 he⟩

theorem Z9 {o:Oper} (hu:uniq s.fr) {p:Prop} {s1:St} (h:K0 E ops o s=some (p,s1)):uniq s1.fr:=by
 obtain ⟨t1,h1,h2,_⟩:=b1e hu (M2.refl s) hu h
 rw [h] at h1; cases h1; exact h2

theorem a9J:∀ {v:AV} {i:Nat},v.clean=true→v.i6 i=false:=by
 intro v
 induction v with
 | cons a b iha ihb =>
  intro i h
  simp only [AV.clean,Bool.and_eq_true] at h
  simp [AV.i6,iha h.1,ihb h.2]
 | J6 l ih=>intro i h; exact ih h
 | B8 f l ih=>intro i h; exact ih h
 | bx l ih=>intro i h; exact ih h
 | rc f l ih=>intro i h; exact ih h
 | ptr i p=>intro i h; cases h
 | at_ i p=>intro i h; cases h
 | sub i p a b=>intro i h; cases h
 | _=>intro i h; rfl

theorem b5L {o:Oper} (hu:uniq s.fr) {p:Prop} {s1:St} (h:K0 E ops o s=some (p,s1)) {m:Nat} (hm:o.dst≠some m) (hc:(s.get m).clean=true):(s1.get m).clean=true:=by
 obtain ⟨v,ids,f,hh,k1,k2,k3,k4,k5⟩:=a3J hu h
 obtain ⟨s1',e1,_,e3⟩:=k5 s hu ((M2.refl s).a6Q _ _) k2
 rw [h] at e1; cases e1
 rw [e3.get k1 hm,k1.fix _ (fun i _=>a9J hc)]
 exact hc

end
end Go.Ex

namespace Go.Ex

section
variable {E:Env} {ops:Array Oper} {s t:St}

theorem get_some {m:Nat} {v:AV} (h:look m s.fr=some v):s.get m=v:=by simp [St.get,h]
theorem c2V {m i:Nat} (h:(s.get m).i6 i=true):∃ v,look m s.fr=some v∧v.i6 i=true:=by
 simp only [St.get] at h
 cases hl:look m s.fr with
 | none=>rw [hl] at h; cases h
 | some v=>rw [hl] at h; exact ⟨v,rfl,h⟩

theorem b8I {x y:Oper} (h:indep ops x y=true):(∀ d,x.dst=some d→d∉looks ops y)∧(∀ d,y.dst=some d→d∉looks ops x)∧(x.dst.getD 0) % 1000≠(y.dst.getD 0) % 1000:=by
 simp only [indep,Bool.and_eq_true,Bool.not_eq_true',c1N] at h
 obtain ⟨⟨h3,h4⟩,h5⟩:=h
 refine ⟨?_,?_,fun e=>?_⟩
 ·intro d hd
  rw [hd] at h3
  simp only [Bool.and_eq_true,Bool.not_eq_true'] at h3
  intro hm
  have:=h3.1
  simp [hm] at this
 ·intro d hd
  rw [hd] at h4
  simp only [Bool.not_eq_true'] at h4
  intro hm
  simp [hm] at h4
 ·rw [e] at h5
  simp at h5

theorem a44 {ids:List Nat} (hn:O8 s ids) {n m:Nat} (h:n∈ids):(s.get m).i6 n=false:=by
 cases hm:(s.get m).i6 n with
 | false=>rfl
 | true =>
  obtain ⟨v,hv,hvi⟩:=c2V hm
  rw [(hn n h).2 m v hv] at hvi; cases hvi

theorem c4R {u:AV} (hr:u.ref=true) {i j:Nat} (h1:u.i6 i=true) (h2:u.i6 j=true):i=j:=by
 cases u<;>simp only [AV.ref] at hr<;>first|(cases hr; done)|(simp only [AV.i6] at h1 h2; exact (Nat.eq_of_beq_eq_true h1).trans (Nat.eq_of_beq_eq_true h2).symm)

theorem b8k {u:AV} (h:u.plain=true) {i:Nat}:u.i6 i=false:=by
 cases u<;>simp only [AV.plain] at h<;>first|rfl|(cases h; done)

theorem Trim.stay {T:List Nat} {f:AV→AV} (hf:Trim T f) {n:Nat} (hn:n∉T):∀ u:AV,u.i6 n=true→(f u).i6 n=true:=by
 refine AV.shape _ (fun u hu h=>?_) (fun u hu h=>?_) ?_ ?_ ?_ ?_ ?_
 ·rw [b8k hu] at h; cases h
 ·rw [hf.a8o u hu (fun i hi=>?_)]
  ·exact h
  ·cases hm:u.i6 i with
   | false=>rfl
   | true=>exact absurd (c4R hu hm h▸hi) hn
 ·intro a b ha hb h
  rw [hf.cons]
  simp only [AV.i6,Bool.or_eq_true] at h ⊢
  exact h.imp ha hb
 ·intro l hl h; rw [hf.J6]; exact hl h
 ·intro k l hl h; rw [hf.B8]; exact hl h
 ·intro l hl h; rw [hf.bx]; exact hl h
 ·intro k l hl h; rw [hf.rc]; exact hl h

theorem swap {x y:Oper} (hi:indep ops x y=true) (hu:uniq s.fr) (hx:∀ d,x.dst=some d→(s.get d).clean=true) {p q:Prop} {s1 s2:St} (h1:K0 E ops x s=some (p,s1)) (h2:K0 E ops y s1=some (q,s2))
  (hP:a22 ops x s (l5 E x s) y (l5 E y s1)) :
  ∃ s1' s2',K0 E ops y s=some (q,s1')∧K0 E ops x s1'=some (p,s2')∧uniq s1'.fr∧uniq s2'.fr∧M2 s2' s2∧l5 E y s=l5 E y s1∧l5 E x s1'=l5 E x s ∧
   (∀ m∈looks ops x,H8 x (s1'.get m)=H8 x (s.get m))∧∀ (z:Oper) m,∀ i∈l5 E x s,(H8 z (s1'.get m)).i6 i=true→(H8 z (s.get m)).i6 i=true:=by
 obtain ⟨ax,ay,hmod⟩:=b8I hi
 obtain ⟨P1,P2,P3⟩:=hP
 have hu1:=Z9 hu h1
 obtain ⟨v,ids,f,g,k1,k2,k3,k4,k5⟩:=a3J hu h1
 obtain ⟨_,e1,_,hs1⟩:=k5 s hu ((M2.refl s).a6Q _ _) k2
 rw [h1] at e1; cases e1
 obtain ⟨v',ids',f',g',m1,m2,m3,m4,m5⟩:=a3J hu1 h2
 obtain ⟨_,e2,_,hs2⟩:=m5 s1 hu1 ((M2.refl s1).a6Q _ _) m2
 rw [h2] at e2; cases e2
 have hdd:∀ d,x.dst=some d→y.dst=some d→False:=fun d e1 e2=>hmod (by rw [e1,e2])
 -- what y looks at has not turned
 have hget:∀ m∈looks ops y,H8 y (s1.get m)=H8 y (s.get m):=by
  intro m hm
  rw [hs1.get k1 (fun e=>ax m e hm),a73 k1,k1.fix _ (fun i hi=>P1 m hm i hi)]
 have hTy:l5 E y s=l5 E y s1:=(a80 hget).symm
 have hTy2:∀ i∈l5 E y s1,∃ m∈looks ops y,(H8 y (s.get m)).i6 i=true:=by
  intro i hi
  obtain ⟨m,hm,hmi⟩:=b5E (ops:=ops) hi
  exact ⟨m,hm,by rw [← hget m hm]; exact hmi⟩
 have d1:∀ i∈l5 E x s,i∉l5 E y s1:=by
  intro i hi hj
  obtain ⟨m,hm,hmi⟩:=hTy2 i hj
  rw [P1 m hm i hi] at hmi; cases hmi
 have d2:∀ i∈ids,i∉l5 E y s1:=by
  intro i hi hj
  obtain ⟨m,hm,hmi⟩:=hTy2 i hj
  have hmi:=a3a hmi
  rw [a44 k2 hi] at hmi; cases hmi
 have d3:∀ i∈l5 E x s,i∉ids':=fun i hi hj=>P3 i hi (m3 i hj)
 have d4:∀ i∈ids,i∉ids':=fun i hi hj=>hmod ((k3 i hi).symm.trans (m3 i hj))
 have hlook:∀ i,i∉l5 E x s→i∉ids→look i s1.hp=look i s.hp:=fun i h1 h2=>by rw [hs1.hp,if_neg (by rintro (h|h); exact h1 h; exact h2 h)]
 have hag:a2C y s1 s (looks ops y):=by
  intro m hm
  refine ⟨(hget m hm).symm,fun i hi=>?_⟩
  rw [hget m hm] at hi
  refine (hlook i (fun h=>?_) (fun h=>?_)).symm
  ·rw [P1 m hm i h] at hi; cases hi
  ·have hi:=a3a hi
   rw [a44 k2 h] at hi; cases hi
 have hfr':O8 s ids':=by
  intro n hn
  refine ⟨?_,fun m w hw=>?_⟩
  ·rw [← hlook n (fun h=>d3 n h hn) (fun h=>d4 n h hn)]; exact (m2 n hn).1
  ·by_cases hd:x.dst=some m
   ·have:=hx m hd
    rw [get_some hw] at this
    exact a9J this
   ·cases hwn:w.i6 n with
    | false=>rfl
    | true =>
     have:=k1.stay (fun h=>d3 n h hn) w hwn
     have h3:=(m2 n hn).2 m (f w) (by rw [hs1.fr,if_neg hd,hw]; rfl)
     rw [this] at h3; cases h3
 obtain ⟨s1',f1,fu,hs1'⟩:=m5 s hu hag hfr'
 have hget2:∀ m∈looks ops x,H8 x (s1'.get m)=H8 x (s.get m):=by
  intro m hm
  rw [hs1'.get m1 (fun e=>ay m e hm),a73 m1,m1.fix _ (fun i hi=>P2 m hm i hi)]
 have hag2:a2C x s s1' (looks ops x):=by
  intro m hm
  refine ⟨hget2 m hm,fun i hi=>?_⟩
  show look i s1'.hp=look i s.hp
  rw [hs1'.hp,if_neg]
  rintro (h|h)
  ·rw [P2 m hm i h] at hi; cases hi
  ·have hi:=a3a hi
   rw [a44 hfr' h] at hi; cases hi
 -- what y yields speaks of nothing that x takes or lays
 have hv':∀ i,v'.i6 i=true→i∉l5 E x s∧i∉ids:=by
  intro i hi
  rcases m4 i hi with ⟨m,hm,hmi⟩|hmi
  ·rw [hget m hm] at hmi
   refine ⟨fun h=>?_,fun h=>?_⟩
   ·rw [P1 m hm i h] at hmi; cases hmi
   ·have hmi:=a3a hmi
    rw [a44 k2 h] at hmi; cases hmi
  ·exact ⟨fun h=>d3 i h hmi,fun h=>d4 i h hmi⟩
 have hv:∀ i,v.i6 i=true→i∉l5 E y s1:=by
  intro i hi
  rcases k4 i hi with ⟨m,hm,hmi⟩|hmi
  ·exact fun h=>by rw [P2 m hm i h] at hmi; cases hmi
  ·exact d2 i hmi
 have hfr2:O8 s1' ids:=by
  intro n hn
  refine ⟨?_,fun m w hw=>?_⟩
  ·rw [hs1'.hp,if_neg]
   ·exact (k2 n hn).1
   ·rintro (h|h)
    ·exact d2 n hn h
    ·exact d4 n hn h
  ·rw [hs1'.fr] at hw
   split at hw
   ·cases hw
    cases hm:v'.i6 n with
    | false=>rfl
    | true=>exact absurd hn (hv' n hm).2
   ·cases hl:look m s.fr with
    | none=>rw [hl] at hw; cases hw
    | some u =>
     rw [hl] at hw
     cases hw
     cases hm:(f' u).i6 n with
     | false=>rfl
     | true=>have:=m1.i6 u hm; rw [(k2 n hn).2 m u hl] at this; cases this
 obtain ⟨s2',g1,gu,hs2'⟩:=k5 s1' fu hag2 hfr2
 refine ⟨s1',s2',f1,g1,fu,gu,⟨fun n=>?_,fun i=>?_⟩,hTy,a80 hget2,hget2,?_⟩
 ·rw [hs2'.fr,hs2.fr,hs1'.fr,hs1.fr]
  by_cases a:x.dst=some n
  ·rw [if_pos a,if_neg (fun b=>hdd n a b),if_pos a,Option.map_some,m1.fix v]
   intro i hi
   cases hm:v.i6 i with
   | false=>rfl
   | true=>exact absurd hi (hv i hm)
  ·rw [if_neg a,if_neg a]
   by_cases b:y.dst=some n
   ·rw [if_pos b,if_pos b,Option.map_some,k1.fix v']
    intro i hi
    cases hm:v'.i6 i with
    | false=>rfl
    | true=>exact absurd hi (hv' i hm).1
   ·rw [if_neg b,if_neg b,Option.map_map,Option.map_map]
    congr 1
    funext u
    exact k1.comm m1 u
 ·rw [hs2'.hp,hs2.hp,hs1'.hp,hs1.hp]
  by_cases a:i∈l5 E x s∨i∈ids
  ·rw [if_pos a,if_neg,if_pos a]
   rintro (b|b)
   ·rcases a with a|a
    ·exact d1 i a b
    ·exact d2 i a b
   ·rcases a with a|a
    ·exact d3 i a b
    ·exact d4 i a b
  ·rw [if_neg a,if_neg a]
 ·intro z m i hi hm
  by_cases b:y.dst=some m
  ·have:s1'.get m=v':=get_some (by rw [hs1'.fr,if_pos b])
   rw [this] at hm
   exact absurd hi (hv' i (a3a hm)).1
  ·rw [hs1'.get m1 b,a73 m1] at hm
   exact m1.i6 _ hm

end
end Go.Ex

namespace Go.Ex

section
variable {E:Env} {ops:Array Oper} {M:Nat→Nat} {s t:St}

def rem (ops:Array Oper) (l:List Nat):List Oper:=l.filterMap fun i=>ops[i]?

theorem a40 {i:Nat} {o:Oper} {l:List Nat} (h:ops[i]?=some o):rem ops (i::l)=o::rem ops l:=by simp [rem,h]
theorem b0k {l m:List Nat}:rem ops (l++m)=rem ops l++rem ops m:=by simp [rem,List.filterMap_append]

def T1 (s:St) (l:List Oper):Prop:=∀ o∈l,∀ d,o.dst=some d→(s.get d).clean=true

def W9:List Oper→Prop
 | []=>True
 | o::l=>(∀ d,o.dst=some d→∀ x∈l,x.dst≠some d)∧W9 l

theorem T1.sub {l l':List Oper} (h:T1 s l) (hs:∀ o∈l',o∈l):T1 s l':=fun o ho=>h o (hs o ho)

def nl (ops:Array Oper) (l:List Nat):List Nat:=l.filter (fun j=>!a11 ops j)
theorem c0T {l m:List Nat}:nl ops (l++m)=nl ops l++nl ops m:=by simp [nl]
theorem c6n {l:List Nat} {i:Nat} (hi:i<ops.size) (h:∀ j∈l,j<i) (hm:∀ j∈l,((P0 ops.toList []).getD i 0).testBit j=false):nl ops l=l :=
 List.filter_eq_self.2 (fun j hj=>by
  cases e:a11 ops j with
  | false=>rfl
  | true =>
   unfold a11 at e
   rw [List.all_eq_true] at e
   have:=e i (List.mem_range.2 hi)
   rw [hm j hj,show Nat.blt j i=true by rw [Nat.blt_eq]; exact h j hj] at this
   cases this)
theorem b5Y {j:Nat} (h:a11 ops j=false):j+1<ops.size:=by
 rcases Nat.lt_or_ge (j+1) ops.size with h1|h1
 ·exact h1
 ·exfalso
  have:a11 ops j=true:=by
   unfold a11
   rw [List.all_eq_true]
   intro i hi
   have:=List.mem_range.1 hi
   have:Nat.blt j i=false:=by
    cases e:Nat.blt j i with
    | false=>rfl
    | true=>rw [Nat.blt_eq] at e; omega
   rw [this]; rfl
  rw [this] at h; cases h
theorem c6m {l:List Nat}:∀ o∈rem ops (nl ops l),o∈rem ops l:=fun o ho=>by
 obtain ⟨j,h1,h2⟩:=List.mem_filterMap.1 ho
 exact List.mem_filterMap.2 ⟨j,(List.mem_filter.1 h1).1,h2⟩

theorem T1.step {o:Oper} {l:List Oper} (hu:uniq s.fr) (hc:T1 s l) (hd:∀ x∈l,∀ d,x.dst=some d→o.dst≠some d) {p:Prop} {s1:St} (h:K0 E ops o s=some (p,s1)):T1 s1 l :=
 fun x hx d hxd=>b5L hu h (hd x hx d hxd) (hc x hx d hxd)

def c65 (E:Env) (ops:Array Oper) (acc acc':List (Nat×St)):Prop :=
 ∀ e'∈acc',∃ e∈acc,e.1=e'.1∧∀ x,ops[e.1]?=some x→(∀ m∈looks ops x,H8 x (e'.2.get m)=H8 x (e.2.get m))∧l5 E x e'.2=l5 E x e.2∧∀ (z:Oper) m,∀ k∈l5 E x e.2,(H8 z (e'.2.get m)).i6 k=true→(H8 z (e.2.get m)).i6 k=true

theorem a22.b3J {x:Oper} {sx sx':St} {y:Oper} {Ty Ty':List Nat} (h:a22 ops x sx (l5 E x sx) y Ty) (h1:∀ m∈looks ops x,H8 x (sx'.get m)=H8 x (sx.get m)) (h2:l5 E x sx'=l5 E x sx) (h3:∀ (z:Oper) m,∀ k∈l5 E x sx,(H8 z (sx'.get m)).i6 k=true→(H8 z (sx.get m)).i6 k=true) (hT:Ty'=Ty) :
  a22 ops x sx' (l5 E x sx') y Ty':=by
 subst hT
 obtain ⟨P1,P2,P3⟩:=h
 rw [h2]
 refine ⟨fun m hm i hi=>?_,fun m hm i hi=>by rw [h1 m hm]; exact P2 m hm i hi,P3⟩
 cases hh:(H8 y (sx'.get m)).i6 i with
 | false=>rfl
 | true=>have:=h3 y m i hi hh; rw [P1 m hm i hi] at this; cases this

theorem b09 {o:Oper} (h:M2 s t):l5 E o t=l5 E o s:=a79 (fun x _=>(h.ev x).symm)

theorem a4U:∀ {l:List Nat} {acc acc':List (Nat×St)} {s t s':St},c65 E ops acc acc'→uniq s.fr→M2 s t→uniq t.fr→a2Y E ops M acc l s s'→∃ t',a2Y E ops M acc' l t t'∧M2 s' t'
 | [],acc,acc',s,t,s',_,_,he,_,h=>⟨t,rfl,by rw [← show s=s' from h]; exact he⟩
 | i::l,acc,acc',s,t,s',hg,hu,he,ht,⟨o,ho,hc,p,s1,h1,h2,h3⟩=>by
  obtain ⟨t1,k1,k2,k3⟩:=b1e hu he ht h1
  obtain ⟨t',m1,m2⟩:=a4U (acc:=(i,s)::acc) (acc':=(i,t)::acc') (fun e' he'=>by
   rcases List.mem_cons.1 he' with rfl|he'
   ·exact ⟨(i,s),by simp,rfl,fun x _=>⟨fun m _=>by show H8 x (t.get m)=H8 x (s.get m); rw [he.get m],b09 he,fun z m k _ hm=>by have hm:(H8 z (t.get m)).i6 k=true:=hm; rw [← he.get m] at hm; exact hm⟩⟩
   ·obtain ⟨e,h4,h5,h6⟩:=hg e' he'; exact ⟨e,by simp [h4],h5,h6⟩) (Z9 hu h1) k3 k2 h3
  refine ⟨t',⟨o,ho,fun e' he'=>?_,p,t1,k1,h2,m1⟩,m2⟩
  obtain ⟨e,h4,h5,h6⟩:=hg e' he'
  rw [← h5]
  rcases hc e h4 with h|⟨x,hx,hP⟩
  ·exact .inl h
  ·obtain ⟨g1,g2,g3⟩:=h6 x hx
   exact .inr ⟨x,hx,hP.b3J g1 g2 g3 (b09 he)⟩

theorem c1B {i:Nat} {o:Oper} (ho:ops[i]?=some o) {post:List Nat}:∀ {pre:List Nat} {acc:List (Nat×St)} {s s':St},W9 (rem ops (pre++i::post))→(∀ j∈pre,(M i).testBit j=false∧∀ x,ops[j]?=some x→indep ops x o=true)→uniq s.fr→T1 s (rem ops pre) →
  a2Y E ops M acc (pre++i::post) s s' →
  ∃ p s1 s2,K0 E ops o s=some (p,s1)∧p∧a2Y E ops M acc (pre++post) s1 s2∧M2 s2 s'∧∀ e∈acc,(M i).testBit e.1=true∨∃ x,ops[e.1]?=some x∧a22 ops x e.2 (l5 E x e.2) o (l5 E o s)
 | [],acc,s,s',_,_,hu,_,⟨o',ho',hc,p,s1,h1,h2,h3⟩=>by
  rw [ho] at ho'; cases ho'
  obtain ⟨t',m1,m2⟩:=a4U (acc:=(i,s)::acc) (acc':=acc) (fun e he=>⟨e,by simp [he],rfl,fun x _=>⟨fun _ _=>rfl,rfl,fun _ _ _ _ h=>h⟩⟩) (Z9 hu h1) (M2.refl s1) (Z9 hu h1) h3
  exact ⟨p,s1,t',h1,h2,m1,m2.symm,hc⟩
 | j::pre,acc,s,s',hap,hin,hu,hcl,⟨x,hx,hc,p,s1,h1,h2,h3⟩=>by
  have hu1:=Z9 hu h1
  have er:rem ops (j::pre++i::post)=x::rem ops (pre++i::post):=a40 hx
  rw [er] at hap
  rw [a40 hx] at hcl
  have hdj:∀ y∈rem ops pre,∀ d,y.dst=some d→x.dst≠some d:=fun y hy d hyd hxd=>hap.1 d hxd y (by rw [b0k]; exact List.mem_append_left _ hy) hyd
  have hcl1:T1 s1 (rem ops pre):=T1.step hu (fun y hy=>hcl y (by simp [hy])) hdj h1
  obtain ⟨q,sa,sb,k1,k2,k3,k4,k5⟩:=c1B ho (pre:=pre) (acc:=(j,s)::acc) hap.2 (fun y hy=>hin y (by simp [hy])) hu1 hcl1 h3
  obtain ⟨hnb,hind⟩:=hin j (by simp)
  have hP:a22 ops x s (l5 E x s) o (l5 E o s1):=by
   rcases k5 (j,s) (by simp) with h|⟨x',hx',hP⟩
   ·rw [hnb] at h; cases h
   ·have hx':ops[j]?=some x':=hx'
    rw [hx] at hx'; cases hx'; exact hP
  obtain ⟨s1',s2',m1,m2,m3,m4,m5,m6,m7,m8,m9⟩:=swap (hind x hx) hu (fun d hd=>hcl x (by simp) d hd) h1 k1 hP
  obtain ⟨t',n1,n2⟩:=a4U (acc:=(j,s)::acc) (acc':=(j,s1')::acc) (fun e' he'=>by
   rcases List.mem_cons.1 he' with rfl|he'
   ·refine ⟨(j,s),by simp,rfl,fun y hy=>?_⟩
    have hy:ops[j]?=some y:=hy
    rw [hx] at hy; cases hy
    exact ⟨m8,m7,m9⟩
   ·exact ⟨e',by simp [he'],rfl,fun y _=>⟨fun _ _=>rfl,rfl,fun _ _ _ _ h=>h⟩⟩) (Z9 hu1 k1) m5.symm m4 k3
  refine ⟨q,s1',t',m1,k2,⟨x,hx,fun e he=>?_,p,s2',m2,h2,n1⟩,n2.symm.trans k4,fun e he=>?_⟩
  ·rcases hc e he with h|⟨y,hy,hP⟩
   ·exact .inl h
   ·exact .inr ⟨y,hy,by rw [m7]; exact hP⟩
  ·rcases k5 e (by simp [he]) with h|⟨y,hy,hP⟩
   ·exact .inl h
   ·exact .inr ⟨y,hy,by rw [m6]; exact hP⟩

end
end Go.Ex

namespace Go.Ex

section
variable {E:Env} {ops:Array Oper} {B:D4} {S:Nat→Prop} {ι:Ix} {s:St} {a:Act} {w:World}

def idxs (n:Nat) (listed:Array Bool):List Nat:=(List.range n).filter fun i=>!listed.getD i true

theorem a3k {n i:Nat} {listed:Array Bool}:i∈idxs n listed↔i<n∧listed.getD i true=false:=by
 simp [idxs]

theorem a7F (n:Nat) (listed:Array Bool):(idxs n listed).Pairwise (·<·):=List.Pairwise.filter _ List.pairwise_lt_range

theorem c2U {n i:Nat} {listed:Array Bool} (hs:listed.size=n) (hi:i<n):idxs n (listed.setIfInBounds i true)=(idxs n listed).filter (fun k=>!(k == i)):=by
 unfold idxs
 rw [List.filter_filter]
 refine List.filter_congr (fun k hk=>?_)
 by_cases e:k=i
 ·subst e
  have:k<listed.size:=by omega
  simp [this]
 ·have:(listed.setIfInBounds i true).getD k true=listed.getD k true:=getD_set_ne true (Ne.symm e)
  rw [this]
  simp [e]

theorem b8J {n i:Nat} {listed:Array Bool} (hi:i∈idxs n listed):∃ pre post,idxs n listed=pre++i::post∧(∀ j∈pre,j<i)∧(idxs n listed).filter (fun k=>!(k == i))=pre++post:=by
 obtain ⟨pre,post,e⟩:=List.append_of_mem hi
 have hp:=a7F n listed
 rw [e,List.pairwise_append] at hp
 obtain ⟨h1,h2,h3⟩:=hp
 have hlt:∀ j∈pre,j<i:=fun j hj=>h3 j hj i (by simp)
 have hgt:∀ j∈post,i<j:=fun j hj=>(List.pairwise_cons.1 h2).1 j hj
 refine ⟨pre,post,e,hlt,?_⟩
 rw [e,List.filter_append,List.filter_cons]
 simp only [beq_self_eq_true,Bool.not_true,Bool.false_eq_true,if_false]
 rw [List.filter_eq_self.2 (fun j hj=>by have:=hlt j hj; simp; omega),List.filter_eq_self.2 (fun j hj=>by have:=hgt j hj; simp; omega)]

theorem c1o (h:a3o ops=true):∀ i o,ops[i]?=some o→(∀ e∈o.after,Region.binds .any e=true→e.on<i) ∧
  (∀ j,j<ops.size→((P0 ops.toList []).getD i 0).testBit j=true→∃ e∈o.after,Region.binds .any e=true∧(e.on=j∨((P0 ops.toList []).getD e.on 0).testBit j=true)) ∧
  (∀ j x,j<i→ops[j]?=some x→((P0 ops.toList []).getD i 0).testBit j=true∨indep ops x o=true):=by
 intro i o ho
 have hi:i<ops.toList.length:=by
  have:=(Array.getElem?_eq_some_iff.1 ho).1
  simpa using this
 simp only [a3o,List.all_eq_true,List.mem_range] at h
 have h1:=h i hi
 have hl:ops.toList[i]?=some o:=by simpa using ho
 rw [hl] at h1
 simp only [Bool.and_eq_true,List.all_eq_true,List.mem_range] at h1
 obtain ⟨⟨k1,k2⟩,k3⟩:=h1
 refine ⟨?_,?_,?_⟩
 ·intro e he hb
  simp only [c4A,List.all_eq_true] at k1
  have:=k1 e (by simpa using he)
  rw [hb] at this
  simpa [Nat.blt_eq] using this
 ·intro j hj hm
  simp only [c0Z,List.all_eq_true,List.mem_range] at k2
  have:=k2 j (by simpa using hj)
  rw [hm] at this
  simp only [Bool.not_true,Bool.false_or,List.any_eq_true,Bool.and_eq_true,Bool.or_eq_true] at this
  obtain ⟨e,he,hb,h3⟩:=this
  exact ⟨e,by simpa using he,hb,h3.imp Nat.eq_of_beq_eq_true id⟩
 ·intro j x hj hx
  have:=k3 j hj
  have hx':ops.toList[j]?=some x:=by simpa using hx
  rw [hx'] at this
  simpa using this

def a4L (ops:Array Oper) (listed:Array Bool):Prop:=∀ k o,ops[k]?=some o→listed.getD k true=true→∀ e∈o.after,Region.binds .any e=true→listed.getD e.on false=true

theorem b1q {listed:Array Bool} {k:Nat} (h:listed.getD k false=true):listed.getD k true=true:=by
 rcases Nat.lt_or_ge k listed.size with h'|h'
 ·simp [h'] at h ⊢; exact h
 ·simp [Array.getElem?_eq_none h'] at h

theorem b9P {M:Nat→Nat} (hM:∀ i o,ops[i]?=some o→(∀ e∈o.after,Region.binds .any e=true→e.on<i)∧(∀ j,j<ops.size→(M i).testBit j=true→∃ e∈o.after,Region.binds .any e=true∧(e.on=j∨(M e.on).testBit j=true)))
  {listed:Array Bool} (hc:a4L ops listed):∀ (i:Nat) (o:Oper),ops[i]?=some o→(∀ e∈o.after,Region.binds .any e=true→listed.getD e.on false=true)→∀ j,j<ops.size→(M i).testBit j=true→listed.getD j false=true:=by
 intro i
 induction i using Nat.strongRecOn with
 | _ i ih =>
  intro o ho hp j hj hm
  obtain ⟨e,he,hb,h3⟩:=(hM i o ho).2 j hj hm
  have hlt:=(hM i o ho).1 e he hb
  rcases h3 with rfl|h3
  ·exact hp e he hb
  ·have hi:i<ops.size:=(Array.getElem?_eq_some_iff.1 ho).1
   have hel:ops[e.on]?=some (ops[e.on]'(by omega)):=Array.getElem?_eq_getElem (by omega)
   exact ih e.on hlt _ hel (hc e.on _ hel (b1q (hp e he hb))) j hj h3

theorem a7L (hE:C2 E B) (hn:B.n=E.nt) (hd:a3o ops=true) {Q:Exit→Act→World→Prop} {s0:St} (hQ:∀ S ι a w,RS B S ι s0 a w→Q .normal a w) :
  ∀ (fuel:Nat) (listed:Array Bool) (S:Nat→Prop) (ι:Ix) (s s':St) (a:Act) (w:World),listed.size=ops.size→(idxs ops.size listed).length=fuel→a4L ops listed→W9 (rem ops (idxs ops.size listed))→uniq s.fr→T1 s (rem ops (nl ops (idxs ops.size listed))) →
   a2Y E ops (fun i=>(P0 ops.toList []).getD i 0) [] (idxs ops.size listed) s s'→M2 s' s0→RS B S ι s a w→wpAny E.P .any ops Q fuel listed a w:=by
 have hM:=c1o hd
 have c0M:∀ {S:Nat→Prop} {ι:Ix} {s t:St} {a:Act} {w:World},M2 s t→RS B S ι s a w→RS B S ι t a w:=by
  intro S ι s t a w he h
  have hvx:∀ {v:AV} {vs:List Value},VX w.heap S ι s.hp v vs→VX w.heap S ι t.hp v vs:=by
   intro v vs hv
   exact VX.other (fun i _=>(he.2 i).symm) (fun i _=>E0.refl ι i) hv
  exact ⟨⟨h.hs.os,h.hs.tape,h.hs.out,h.hs.size,h.hs.frame,h.hs.slt,h.hs.s0,h.hs.s1,fun i e hi=>h.hs.ob i e ((he.2 i).trans hi),fun i e hi=>h.hs.bl i e ((he.2 i).trans hi),fun i j ei ej hi hj=>h.hs.dj i j ei ej ((he.2 i).trans hi) ((he.2 j).trans hj),fun q hq=>by obtain ⟨r1,⟨e,r2⟩,r3⟩:=h.hs.pin q hq; exact ⟨r1,⟨e,(he.2 q.1).symm.trans r2⟩,r3⟩⟩,h.dfr,h.sz,
   fun m v hv=>hvx (h.fr m v ((he.1 m).trans hv))⟩
 intro fuel
 induction fuel with
 | zero =>
  intro listed S ι s s' a w hsz hlen hcl hap hu hcf hrun he hrs
  have hnil:idxs ops.size listed=[]:=List.length_eq_zero_iff.1 hlen
  rw [hnil] at hrun
  have hss:s=s':=hrun
  subst hss
  refine ⟨?_,hQ S ι a w (c0M he hrs)⟩
  rw [List.eq_nil_iff_forall_not_mem]
  intro i hi
  obtain ⟨h1,o,h2,_⟩:=mem_ready.1 hi
  have:i∈idxs ops.size listed:=a3k.2 ⟨(Array.getElem?_eq_some_iff.1 h2).1,h1⟩
  rw [hnil] at this
  cases this
 | succ fuel ih =>
  intro listed S ι s s' a w hsz hlen hcl hap hu hcf hrun he hrs
  refine ⟨fun hr=>?_,fun i hi=>?_⟩
  ·exfalso
   cases hix:idxs ops.size listed with
   | nil=>rw [hix] at hlen; cases hlen
   | cons i l =>
    have hmem:i∈idxs ops.size listed:=by rw [hix]; simp
    obtain ⟨h1,h2⟩:=a3k.1 hmem
    have ho:ops[i]?=some ops[i]:=Array.getElem?_eq_getElem h1
    have:i∈Region.ready .any ops listed:=by
     refine mem_ready.2 ⟨h2,ops[i],ho,fun e he hb=>?_⟩
     have hlt:=(hM i _ ho).1 e he hb
     cases hle:listed.getD e.on true with
     | true =>
      have:e.on<listed.size:=by omega
      simp [this] at hle ⊢; exact hle
     | false =>
      exfalso
      have hm2:e.on∈idxs ops.size listed:=a3k.2 ⟨by omega,hle⟩
      have hs:=a7F ops.size listed
      rw [hix] at hs hm2
      rcases List.mem_cons.1 hm2 with e1|e1
      ·omega
      ·have:=(List.pairwise_cons.1 hs).1 _ e1; omega
    rw [hr] at this
    cases this
  ·obtain ⟨h1,o,ho,hpre⟩:=mem_ready.1 hi
   have hin:i<ops.size:=(Array.getElem?_eq_some_iff.1 ho).1
   have hmem:i∈idxs ops.size listed:=a3k.2 ⟨hin,h1⟩
   obtain ⟨pre,post,e1,hlt,e2⟩:=b8J hmem
   have er:rem ops (pre++i::post)=rem ops pre++o::rem ops post:=by simp [rem,List.filterMap_append,ho]
   have er2:rem ops (pre++post)=rem ops pre++rem ops post:=by simp [rem,List.filterMap_append]
   rw [e1] at hap hcf hrun
   have hind:∀ j∈pre,((P0 ops.toList []).getD i 0).testBit j=false∧∀ x,ops[j]?=some x→indep ops x o=true:=by
    intro j hj
    have hnm:((P0 ops.toList []).getD i 0).testBit j=false:=by
     cases hm:((P0 ops.toList []).getD i 0).testBit j with
     | false=>rfl
     | true =>
      exfalso
      have hjl:=b9P (M:=fun i=>(P0 ops.toList []).getD i 0) (fun i o ho=>⟨(hM i o ho).1,(hM i o ho).2.1⟩) hcl i o ho hpre j (by have:=hlt j hj; omega) hm
      have:j∈idxs ops.size listed:=by rw [e1]; simp [hj]
      have:=(a3k.1 this).2
      rw [b1q hjl] at this
      cases this
    refine ⟨hnm,fun x hx=>?_⟩
    rcases (hM i o ho).2.2 j x (hlt j hj) hx with hm|hm
    ·rw [hnm] at hm; cases hm
    ·exact hm
   have hcl0:T1 s (rem ops (nl ops (pre++post))):=hcf.sub (fun y hy=>by
    rw [c0T,b0k] at hy ⊢
    rcases List.mem_append.1 hy with hy|hy
    ·exact List.mem_append_left _ hy
    ·refine List.mem_append_right _ ?_
     obtain ⟨j,j1,j2⟩:=List.mem_filterMap.1 hy
     obtain ⟨j3,j4⟩:=List.mem_filter.1 j1
     exact List.mem_filterMap.2 ⟨j,List.mem_filter.2 ⟨List.mem_cons_of_mem _ j3,j4⟩,j2⟩)
   obtain ⟨p,s1,s2,k1,k2,k3,k4,_⟩:=c1B ho hap hind hu (hcf.sub (fun y hy=>by
    rw [c0T,b0k,c6n hin hlt (fun j hj=>(hind j hj).1)]; exact List.mem_append_left _ hy)) hrun
   rw [er] at hap
   have hset:=(c2U hsz hin).trans e2
   have hap2:W9 (rem ops pre++rem ops post)∧∀ x∈rem ops pre++rem ops post,∀ d,x.dst=some d→o.dst≠some d:=by
    have:∀ {A C:List Oper},W9 (A++o::C)→W9 (A++C)∧∀ x∈A++C,∀ d,x.dst=some d→o.dst≠some d:=by
     intro A
     induction A with
     | nil=>intro C h; exact ⟨h.2,fun x hx d hxd hod=>h.1 d hod x hx hxd⟩
     | cons y A ih =>
      intro C h
      obtain ⟨m1,m2⟩:=ih h.2
      refine ⟨⟨fun d hd x hx=>h.1 d hd x (by simp at hx ⊢; rcases hx with hx|hx<;>simp [hx]),m1⟩,fun x hx d hxd hod=>?_⟩
      rcases List.mem_cons.1 hx with rfl|hx
      ·exact h.1 d hxd o (by simp) hod
      ·exact m2 x hx d hxd hod
    exact this hap
   have hps:=a7z hE hn hrs (ops:=ops) o (k:=fun x=>Tree.cut .skip [] x) (L:=fun _ _ x=>x=s1) (Rt:=fun _=>True) (b3t.2 ⟨p,s1,k1,k2,rfl⟩)
    (next:=wpAny E.P .any ops Q fuel (listed.setIfInBounds i true)) (Q:=Q) (fun S' ι' x a' w' hx hxe=>by
     have hxe:x=s1:=hxe
     subst hxe
     refine ih (listed.setIfInBounds i true) S' ι' x s2 a' w' (by simp [hsz]) ?_ ?_ ?_ (Z9 hu k1) ?_ ?_ (k4.trans he) hx
     ·rw [hset]; rw [e1] at hlen; simp at hlen ⊢; omega
     ·intro k y hy hk e' he' hb'
      by_cases hki:k=i
      ·subst hki
       rw [ho] at hy; cases hy
       exact getD_set_true (hpre e' he' hb')
      ·rw [getD_set_ne true (Ne.symm hki)] at hk
       exact getD_set_true (hcl k y hy hk e' he' hb')
     ·rw [hset,er2]; exact hap2.1
     ·rw [hset]
      exact T1.step hu hcl0 (fun y hy=>hap2.2 y (by rw [← er2]; exact c6m y hy)) k1
     ·rw [hset]; exact k3)
   unfold wpOp
   rw [ho]
   simp only
   split
   ·rename_i hw; rw [if_pos hw] at hps; exact .inl hps
   ·rename_i hw; rw [if_neg hw] at hps; exact hps

theorem filterMap_some {α β:Type _} {f:α→Option β} {g:α→β}:∀ {l:List α},(∀ i∈l,f i=some (g i))→l.filterMap f=l.map g
 | [],_=>rfl
 | x::l,h=>by rw [List.filterMap_cons,h x (by simp)]; simp [filterMap_some (l:=l) (fun i hi=>h i (by simp [hi]))]

theorem b6P:rem ops (idxs ops.size (Array.replicate ops.size false))=ops.toList:=by
 have:idxs ops.size (Array.replicate ops.size false)=List.range ops.size:=by
  unfold idxs
  refine List.filter_eq_self.2 (fun i hi=>?_)
  have:i<ops.size:=List.mem_range.1 hi
  simp [this]
 rw [this]
 unfold rem
 apply List.ext_getElem?
 intro i
 have e:(List.range ops.size).filterMap (fun i=>ops[i]?)=(List.range ops.size).map (fun i=>ops.getD i default):=filterMap_some (fun i hi=>by
  have:i<ops.size:=List.mem_range.1 hi
  simp [this])
 rw [e]
 by_cases hi:i<ops.size
 ·simp [hi]
 ·simp [hi]

theorem a5z:∀ {l:List Oper},a2u (a2G l)=true→W9 l
 | [],_=>trivial
 | o::l,h=>by
  cases hd:o.dst with
  | none =>
   have:a2G (o::l)=a2G l:=by simp [a2G,hd]
   rw [this] at h
   exact ⟨fun d hd'=>(by rw [hd] at hd'; cases hd'),a5z h⟩
  | some d =>
   have:a2G (o::l)=d::a2G l:=by simp [a2G,hd]
   rw [this] at h
   simp only [a2u,Bool.and_eq_true,Bool.not_eq_true'] at h
   refine ⟨fun d' hd' x hx hxd=>?_,a5z h.2⟩
   rw [hd] at hd'
   cases hd'
   have:d∈a2G l:=List.mem_filterMap.2 ⟨x,hx,hxd⟩
   have h1:=h.1
   simp [this] at h1

theorem a5e:idxs ops.size (Array.replicate ops.size false)=List.range ops.size:=by
 unfold idxs
 refine List.filter_eq_self.2 (fun i hi=>?_)
 have:i<ops.size:=List.mem_range.1 hi
 simp [this]

theorem c1m {o:Oper} {l:List Nat} (ho:o∈rem ops (nl ops l)) {d:Nat} (hd:o.dst=some d):d∈a2G ops.toList.dropLast:=by
 obtain ⟨j,j1,j2⟩:=List.mem_filterMap.1 ho
 have j4:j+1<ops.size:=b5Y (by simpa using (List.mem_filter.1 j1).2)
 refine List.mem_filterMap.2 ⟨o,List.mem_of_getElem? (i:=j) ?_,hd⟩
 rw [List.getElem?_dropLast,if_pos (by simp; omega)]
 simpa using j2

theorem b3V (hE:C2 E B) (hn:B.n=E.nt) {id:Nat} (hd:(a3o ops && b0z ops s && E.P.follows .mixedOrders)=true) {Q:Exit→Act→World→Prop} {s':St} (hr:a2Y E ops (fun i=>(P0 ops.toList []).getD i 0) [] (List.range' 0 ops.toList.length) s s')
  (hQ:∀ S ι a w,RS B S ι s' a w→Q .normal a w) (h:RS B S ι s a w):(Code.region id ops true).wp E.P Q a w:=by
 simp only [Bool.and_eq_true,b0z,List.all_eq_true] at hd
 obtain ⟨⟨h1,⟨h2,h3⟩,h4⟩,h5⟩:=hd
 refine wp_region_any h5 ?_
 have hlen:(idxs ops.size (Array.replicate ops.size false)).length=ops.size:=by
  rw [a5e]; simp
 refine a7L hE hn h1 hQ ops.size _ S ι s s' a w.drew (by simp) hlen ?_ ?_ (u3 h2) ?_ ?_ (M2.refl _) (h.V7 C9.nil y8.drew)
 ·intro k o hk hl
  have:k<ops.size:=(Array.getElem?_eq_some_iff.1 hk).1
  simp [this] at hl
 ·rw [b6P]; exact a5z h3
 ·intro o ho d hd
  exact h4 d (c1m ho hd)
 ·rw [a5e,List.range_eq_range']
  simpa using hr

theorem b2x (hE:C2 E B) (hn:B.n=E.nt) {id:Nat} (hd:(a3o ops && a8t ops s && E.P.follows .mixedOrders)=true) {Q:Exit→Act→World→Prop} {s':St} (hr:a2Y E ops (fun i=>(P0 ops.toList []).getD i 0) [] (List.range' 0 ops.toList.length) s s')
  (hQ:∀ S ι a w,RS B S ι s' a w→Q .normal a w) (h:RS B S ι s a w):(Code.region id ops true).wp E.P Q a w:=by
 simp only [Bool.and_eq_true,a8t,List.all_eq_true,List.mem_range] at hd
 obtain ⟨⟨h1,⟨h2,h3⟩,h4⟩,h5⟩:=hd
 refine wp_region_any h5 ?_
 have hlen:(idxs ops.size (Array.replicate ops.size false)).length=ops.size:=by
  rw [a5e]; simp
 refine a7L hE hn h1 hQ ops.size _ S ι s s' a w.drew (by simp) hlen ?_ ?_ (u3 h2) ?_ ?_ (M2.refl _) (h.V7 C9.nil y8.drew)
 ·intro k o hk hl
  have:k<ops.size:=(Array.getElem?_eq_some_iff.1 hk).1
  simp [this] at hl
 ·rw [b6P]; exact a5z h3
 ·intro o ho d hd
  obtain ⟨j,j1,j2⟩:=List.mem_filterMap.1 ho
  have j3:=(List.mem_filter.1 j1).2
  have hj:j<ops.size:=(Array.getElem?_eq_some_iff.1 j2).1
  have:=h4 j hj
  simp only [Bool.not_eq_true'] at j3
  simp only [j2,hd,j3,Bool.false_or] at this
  exact this
 ·rw [a5e,List.range_eq_range']
  simpa using hr

theorem a6a {M:List Nat} {k:St→Tree (E.rs++F3 E.ps)} {L:Code→List Item→St→Prop} {R:DL (E.rs++F3 E.ps)→Prop}:∀ {l:List Oper} {n:Nat} {s:St} {acc:List Met} {acc':List (Nat×St)},ops.toList.drop n=l →
  (∀ e∈acc',∃ m∈acc,m.i=e.1∧ops[e.1]?=some m.o∧m.s=e.2∧m.T=l5 E m.o e.2)→(b3m E ops M n l s acc k).holds L R →
  ∃ s',a2Y E ops (fun i=>M.getD i 0) acc' (List.range' n l.length) s s'∧(k s').holds L R
 | [],n,s,acc,acc',_,_,h=>⟨s,rfl,h⟩
 | o::l,n,s,acc,acc',hl,ha,h=>by
  obtain ⟨ho,hl',_⟩:=c1n hl
  simp only [b3m] at h
  split at h
  ·exact h.elim
  ·rename_i hall
   obtain ⟨p,s1,h1,h2,h3⟩:=b3t.1 h
   obtain ⟨s',k1,k2⟩:=a6a (acc':=(n,s)::acc') hl' (fun e he=>by
    rcases List.mem_cons.1 he with rfl|he
    ·exact ⟨_,List.mem_cons_self ..,rfl,ho,rfl,rfl⟩
    ·obtain ⟨m,hm,r⟩:=ha e he; exact ⟨m,List.mem_cons_of_mem _ hm,r⟩) h3
   refine ⟨s',⟨o,ho,fun e he=>?_,p,s1,h1,h2,k1⟩,k2⟩
   obtain ⟨m,hm,m1,m2,m3,m4⟩:=ha e he
   have:=(List.all_eq_true.1 hall) m hm
   simp only [Bool.or_eq_true] at this
   rcases this with this|this
   ·exact .inl (by rw [← m1]; exact this)
   ·have hp:=c4X this
    rw [m3,m4] at hp
    exact .inr ⟨m.o,m2,hp⟩

end
end Go.Ex
