import Derived.Test.YtekbamiaenbhjaaExK6
import Derived.Orders

namespace Go.Ex

section
variable {E:Env} {s t:St}

theorem a48 {o:Oper} {i:Nat} (h:i∈i7 E o s):∃ x∈o.op.operands.toList,(s.ev x).g8 i=true:=by
 have parts:∀ {T:TypeId} {ps:Array (Nat×Operand)},i∈(s.K5 (ps.toList.map (·.2))).E6→∃ x∈ps.toList.map (·.2),(s.ev x).g8 i=true:=by
  intro T ps h
  obtain ⟨x,hx,hm⟩:=W3 (G5.1 h)
  exact ⟨x,by simpa using hx,hm⟩
 unfold i7 at h
 cases ho:o.op with
 | store T a x =>
  rw [ho] at h
  simp only [List.mem_append,G5] at h
  rcases h with h|h
  ·exact ⟨a,by simp [Op.operands],h⟩
  ·exact ⟨x,by simp [Op.operands],h⟩
 | box T x=>rw [ho] at h; exact ⟨x,by simp [Op.operands],G5.1 h⟩
 | mapUpdate T m x y=>rw [ho] at h; exact ⟨m,by simp [Op.operands],G5.1 h⟩
 | build T ps=>rw [ho] at h; simp only [Op.operands]; exact parts (T:=T) h
 | buildSlice T n ps=>rw [ho] at h; simp only [Op.operands]; exact parts (T:=T) h
 | call c =>
  rw [ho] at h
  have hop:∀ x∈c.args.toList,x∈(Op.call c).operands.toList:=fun x hx=>by simp only [Op.operands,Call.operands]; simp at hx ⊢; first|exact .inr hx|exact .inl hx
  simp only at h
  split at h
  ·rename_i f hc
   split at h
   ·rename_i g caps hg
    split at h
    ·split at h
     ·cases h
     ·rcases a5F (G5.1 h) with h|h
      ·obtain ⟨x,hx,hm⟩:=W3 h
       exact ⟨x,hop x hx,hm⟩
      ·exact ⟨f,by simp [Op.operands,Call.operands,hc],by rw [hg]; exact h⟩
    ·cases h
   ·split at h
    ·split at h
     ·cases h
     ·rcases a5F (G5.1 h) with h|h
      ·obtain ⟨x,hx,hm⟩:=W3 h
       exact ⟨x,hop x hx,hm⟩
      ·cases h
    ·cases h
   ·split at h
    ·split at h
     ·cases h
     ·rcases a5F (G5.1 h) with h|h
      ·obtain ⟨x,hx,hm⟩:=W3 h
       exact ⟨x,hop x hx,hm⟩
      ·cases h
    ·cases h
   ·cases h
  ·obtain ⟨x,hx,hm⟩:=W3 (G5.1 h)
   exact ⟨x,hop x hx,hm⟩
  ·obtain ⟨x,hx,hm⟩:=W3 (G5.1 h)
   exact ⟨x,hop x hx,hm⟩
  ·obtain ⟨x,hx,hm⟩:=W3 (G5.1 h)
   exact ⟨x,hop x hx,hm⟩
  ·cases h
 | _=>rw [ho] at h; cases h

theorem a8f {o:Oper} (h:∀ x∈o.op.operands.toList,t.ev x=s.ev x):i7 E o t=i7 E o s:=by
 unfold i7
 cases ho:o.op with
 | store T a x=>rw [ho] at h; simp only [h a (by simp [Op.operands]),h x (by simp [Op.operands])]
 | box T x=>rw [ho] at h; simp only [h x (by simp [Op.operands])]
 | mapUpdate T m x y=>rw [ho] at h; simp only [h m (by simp [Op.operands])]
 | build T ps =>
  rw [ho] at h
  simp only
  rw [a4Q (s:=s) (t:=t) (fun x hx=>h x (by simp only [Op.operands]; simpa using hx))]
 | buildSlice T n ps =>
  rw [ho] at h
  simp only
  rw [a4Q (s:=s) (t:=t) (fun x hx=>h x (by simp only [Op.operands]; simpa using hx))]
 | call c =>
  rw [ho] at h
  have hop:∀ x∈c.args.toList,x∈(Op.call c).operands.toList:=fun x hx=>by simp only [Op.operands,Call.operands]; simp at hx ⊢; first|exact .inr hx|exact .inl hx
  have he:=a4Q (s:=s) (t:=t) (fun x hx=>h x (hop x hx))
  simp only [he]
  split
  ·rename_i f hc
   rw [h f (by simp [Op.operands,Call.operands,hc])]
  ·rfl
  ·rfl
  ·rfl
  ·rfl
 | _=>rfl

def C3 (E:Env) (o:Oper) (s:St) (p:Prop) (v:AV):Prop :=
 ∃ ids f h,Trim (i7 E o s) f∧N7 s ids∧(∀ n∈ids,n % 1000=(o.dst.getD 0) % 1000) ∧
  (∀ i,v.g8 i=true→(∃ x∈o.op.operands.toList,(s.ev x).g8 i=true)∨i∈ids) ∧
  ∀ t,uniq t.fr→U4 s t o.op.operands.toList→N7 t ids→∃ t1,(j9 E o t).get=some (p,v,t1)∧uniq t1.fr∧c3i t t1 (i7 E o s) ids f h

theorem a1o {o:Oper} (ha:U4 s t o.op.operands.toList) {i:Nat} (hi:i∈i7 E o s):look i t.hp=look i s.hp:=by
 obtain ⟨x,hx,hm⟩:=a48 hi
 exact (ha x hx).2 i hm

theorem C3.ro {o:Oper} {p:Prop} {v:AV} {s1:St} (h:(j9 E o s).get=some (p,v,s1)) (h1:∀ t,U4 s t o.op.operands.toList→j9 E o t=(j9 E o s).a0r t) (h2:∀ i,(j9 E o s).av.g8 i=true→∃ x∈o.op.operands.toList,(s.ev x).g8 i=true):C3 E o s p v:=by
 refine ⟨[],fun u=>u,fun i=>look i s.hp,Trim.id _,by simp [N7],by simp,?_,?_⟩
 ·intro i hi
  refine .inl (h2 i ?_)
  cases hr:j9 E o s<;>rw [hr] at h<;>simp [OR.get] at h
  ·rw [← h.2.1] at hi; exact hi
  ·rw [← h.2.1] at hi; exact hi
 ·intro t hu ha _
  refine ⟨t,?_,hu,⟨fun n=>by simp,fun i=>?_⟩⟩
  ·rw [h1 t ha]
   cases hr:j9 E o s<;>rw [hr] at h<;>simp only [OR.get,Option.some.injEq,Prod.mk.injEq] at h
   ·cases h
   ·obtain ⟨rfl,rfl,_⟩:=h; rfl
   ·obtain ⟨rfl,rfl,_⟩:=h; rfl
  ·split
   ·rename_i hi; exact a1o ha (by simpa using hi)
   ·rfl

theorem b3z {d:Nat} (hu:uniq t.fr) (h:N7 t [d]):t.fresh d=true:=by
 simp only [St.fresh,Bool.and_eq_true,Option.isNone_iff_eq_none]
 exact ⟨(h d (by simp)).1,a31 hu (h d (by simp)).2⟩

theorem b1n {d:Nat} (h:s.fresh d=true):N7 s [d]:=by
 obtain ⟨k1,k2⟩:=a4a h
 intro n hn
 simp only [List.mem_cons,List.not_mem_nil,or_false] at hn
 subst hn
 exact ⟨k1,k2⟩

theorem b9z {T g:List Nat} {d:Nat} {e:f7} (hg:∀ i∈g,i∈T) (ha:∀ i∈T,look i t.hp=look i s.hp):c3i t ((St.t6 g t).s6 d e) T [d] (a1S g) (fun i=>if i=d then some e else if i∈g then none else look i s.hp):=by
 refine ⟨fun n=>a1M,fun i=>?_⟩
 show look i (Ex.put d e (St.t6 g t).hp)=_
 rw [p7,H8]
 by_cases h1:i=d
 ·simp [h1]
 ·by_cases h3:i∈g
  ·have:=hg i h3; simp [h1,h3,this]
  ·by_cases h2:i∈T
   ·simp [h1,h3,h2,ha i h2]
   ·simp [h1,h2,h3]

theorem C3.obj {o:Oper} {p:Prop} {d:Nat} (hd:o.dst=some d) {e:f7} {v:AV} {g:List Nat} (hv:∀ i,v.g8 i=true→i=d) (hf:s.fresh d=true) (hg:∀ i∈g,i∈i7 E o s)
  (h:∀ t,U4 s t o.op.operands.toList→uniq t.fr→t.fresh d=true→(j9 E o t).get=some (p,v,(St.t6 g t).s6 d e)):C3 E o s p v:=by
 refine ⟨[d],a1S g,(fun i=>if i=d then some e else if i∈g then none else look i s.hp),(Trim.t6 g).mono hg,b1n hf,by simp [hd],fun i hi=>.inr (by simp [hv i hi]),?_⟩
 intro t hu ha hn
 exact ⟨_,h t ha hu (b3z hu hn),a1C (g:=g) hu,b9z hg (fun i hi=>a1o ha hi)⟩

theorem b0y {d:Nat} {g:List Nat} {u:Ty} {x:u.den} {v:AV} {s':St} (hl:s.lay d g u x=.ok v s'):s.fresh d=true∧v=.at_ d []∧s'=(St.t6 g s).s6 d (.own u x)∧(a1J g && (g.all fun i=>!pinned i))=true:=by
 unfold St.lay at hl
 split at hl
 ·cases hl
 ·rename_i hc
  simp only [Bool.and_eq_true] at hc
  split at hl
  ·cases hl; exact ⟨hc.2,rfl,rfl,by simp only [Bool.and_eq_true]; exact hc.1⟩
  ·cases hl

theorem b3q {d:Nat} {g:List Nat} {u:Ty} {x:u.den} (hf:t.fresh d=true) (hg:(a1J g && (g.all fun i=>!pinned i))=true):t.lay d g u x=.ok (.at_ d []) ((St.t6 g t).s6 d (.own u x)):=by
 unfold St.lay
 have h2:(St.t6 g t).fresh d=true:=by
  simp only [St.fresh,Bool.and_eq_true,Option.isNone_iff_eq_none] at hf ⊢
  refine ⟨by rw [H8]; split<;>first|rfl|exact hf.1,a3L hf.2⟩
 simp only [hg,hf,h2,Bool.and_self]

theorem C3.lay {o:Oper} {p:Prop} {v:AV} {s1:St} {d:Nat} (hd:o.dst=some d) {g:List Nat} {u:Ty} {x:u.den} {W:OR→OR} (hW:∀ v s,(W (.ok v s)).get=some (p,v,s)) (hF:∀ y,(W (.fail y)).get=none) (hg:∀ i∈g,i∈i7 E o s)
  (h:(j9 E o s).get=some (p,v,s1)) (h1:∀ t,U4 s t o.op.operands.toList→j9 E o t=W (t.lay d g u x)):C3 E o s p v:=by
 rw [h1 s (.refl _ _)] at h
 cases hl:s.lay d g u x with
 | fail y=>rw [hl,hF] at h; cases h
 | E0 q v s'=>exact absurd hl R3
 | ok v' s' =>
  rw [hl,hW] at h
  cases h
  obtain ⟨k1,rfl,rfl,k4⟩:=b0y hl
  refine C3.obj hd (e:=.own u x) (g:=g) (fun i hi=>by simpa [AV.g8] using hi) k1 hg (fun t ha hu hf=>?_)
  rw [h1 t ha,b3q hf k4,hW]

theorem a3A {q p:Prop} {r:OR} {v:AV} {s1:St} (h:(r.e8 q).get=some (p,v,s1)) (hr:∀ q' v' s',r≠.E0 q' v' s'):p=q:=by
 cases r with
 | fail y=>cases h
 | ok v s=>simp only [OR.e8,OR.get,Option.some.injEq,Prod.mk.injEq] at h; exact h.1.symm
 | E0 q' v' s'=>exact absurd rfl (hr q' v' s')


theorem c1p {T:TypeId} {a:AV} (h:Alike s t a):U2 E T a t=(U2 E T a s).a0r t:=by
 unfold U2
 cases a with
 | ptr i p =>
  simp only [H2 (h i (by simp [AV.g8]))]
  repeat' (first|rfl|split)
 | _=>first|rfl|(dsimp only; split<;>rfl)

theorem b7w {T:TypeId} {a:AV} {i:Nat} (h:(U2 E T a s).av.g8 i=true):a.g8 i=true:=by
 unfold U2 at h
 cases a with
 | ptr j p =>
  simp only at h
  repeat' (split at h)
  all_goals first|exact h|(cases h; done)
 | _ =>
  simp only at h
  repeat' (split at h)
  all_goals first|exact h|(cases h; done)

theorem a8n {i:Nat}:∀ {n:Nat} {l v:AV},j9.nth n l=some v→v.g8 i=true→l.g8 i=true
 | 0,l,v,h,hv=>by
  cases l<;>simp only [j9.nth] at h<;>first|cases h|skip
  simp [AV.g8,hv]
 | n+1,l,v,h,hv=>by
  cases l<;>simp only [j9.nth] at h<;>first|cases h|skip
  simp [AV.g8,a8n h hv]

theorem c3t (d k:Nat):K9 d k % 1000=d % 1000:=by unfold K9; omega
theorem b5Z {d j k:Nat} (h:K9 d j=K9 d k):j=k:=by unfold K9 at h; omega

theorem a5t:∀ {ts:List Ty} {x:DL ts} {d j:Nat} {hp:List (Nat×f7)} {l:AV} {hp':List (Nat×f7)},T5 ts x d j hp=some (l,hp') →
  (∀ i,l.g8 i=true→∃ k,j≤k∧k<j+ts.length∧i=K9 d k) ∧
  ∃ h:Nat→Option f7,∀ h2,(∀ k,j≤k→k<j+ts.length→look (K9 d k) h2=none)→∃ h2',T5 ts x d j h2=some (l,h2')∧∀ i,look i h2'=(match h i with|some e=>some e|none=>look i h2)∧((h i).isSome→∃ k,j≤k∧k<j+ts.length∧i=K9 d k)
 | [],x,d,j,hp,l,hp',h=>by
  simp only [T5,Option.some.injEq,Prod.mk.injEq] at h
  obtain ⟨rfl,rfl⟩:=h
  exact ⟨by simp [AV.g8],fun _=>none,fun h2 _=>⟨h2,rfl,fun i=>⟨rfl,by simp⟩⟩⟩
 | u::ts,x,d,j,hp,l,hp',h=>by
  simp only [T5] at h
  split at h
  ·rename_i hs
   split at h
   ·rename_i l' hp2 hl'
    cases h
    obtain ⟨k1,h,k2⟩:=a5t hl'
    refine ⟨fun i hi=>?_,h,fun h2 hh=>?_⟩
    ·obtain ⟨k,m1,m2,m3⟩:=k1 i (by simpa [AV.g8] using hi)
     exact ⟨k,by omega,by simp only [List.length_cons]; omega,m3⟩
    ·obtain ⟨h2',e1,e2⟩:=k2 h2 (fun k hk1 hk2=>hh k (by omega) (by simp only [List.length_cons]; omega))
     refine ⟨h2',by simp only [T5,hs,e1],fun i=>⟨(e2 i).1,fun hi=>?_⟩⟩
     obtain ⟨k,m1,m2,m3⟩:=(e2 i).2 hi
     exact ⟨k,by omega,by simp only [List.length_cons]; omega,m3⟩
   ·cases h
  ·rename_i hs
   split at h
   ·cases h
   ·rename_i hlk
    split at h
    ·rename_i l' hp2 hl'
     cases h
     obtain ⟨k1,h,k2⟩:=a5t hl'
     refine ⟨fun i hi=>?_,fun i=>if i=K9 d j then some (a1N u x.1 (K9 d j)).1 else h i,fun h2 hh=>?_⟩
     ·simp only [AV.g8,Bool.or_eq_true] at hi
      rcases hi with hi|hi
      ·refine ⟨j,Nat.le_refl _,by simp,?_⟩
       rcases a8t u x.1 (K9 d j) with e|⟨g,_,_,_,e⟩
       ·rw [e] at hi; exact Nat.eq_of_beq_eq_true hi
       ·rw [e] at hi
        cases g with
        | none=>exact Nat.eq_of_beq_eq_true hi
        | some f =>
         have hi:(Nat.beq i (K9 d j) || false)=true:=hi
         rw [Bool.or_false] at hi
         exact Nat.eq_of_beq_eq_true hi
      ·obtain ⟨k,m1,m2,m3⟩:=k1 i hi
       exact ⟨k,by omega,by simp only [List.length_cons]; omega,m3⟩
     ·have e0:look (K9 d j) h2=none:=hh j (Nat.le_refl _) (by simp)
      obtain ⟨h2',e1,e2⟩:=k2 (put (K9 d j) (a1N u x.1 (K9 d j)).1 h2) (fun k hk1 hk2=>by
       rw [p7,if_neg (fun e=>by have:=b5Z e; omega)]
       exact hh k (by omega) (by simp only [List.length_cons]; omega))
      refine ⟨h2',by simp only [T5,hs,e0,e1],fun i=>⟨?_,fun hi=>?_⟩⟩
      ·rw [(e2 i).1,p7]
       by_cases he:i=K9 d j
       ·simp only [he,if_true]
        cases hh2:h (K9 d j) with
        | none=>rfl
        | some e =>
         exfalso
         obtain ⟨k,m1,m2,m3⟩:=(e2 (K9 d j)).2 (by rw [hh2]; rfl)
         have:=b5Z m3; omega
       ·simp only [if_neg he]
      ·by_cases he:i=K9 d j
       ·exact ⟨j,Nat.le_refl _,by simp,he⟩
       ·simp only [if_neg he] at hi
        obtain ⟨k,m1,m2,m3⟩:=(e2 i).2 hi
        exact ⟨k,by omega,by simp only [List.length_cons]; omega,m3⟩
    ·cases h

theorem a5n {d:Nat}:∀ {n:Nat} {fr:List (Nat×AV)},(∀ k,k<n→X6 (K9 d k) fr=true)→a0L d n fr=true
 | 0,_,_=>rfl
 | n+1,fr,h=>by
  simp only [a0L,Bool.and_eq_true]
  exact ⟨h n (by omega),a5n (fun k hk=>h k (by omega))⟩

theorem a5m {d:Nat}:∀ {n:Nat} {hp:List (Nat×f7)},a4J d n hp=true↔∀ k,k<n→look (K9 d k) hp=none
 | 0,_=>by simp [a4J]
 | n+1,hp=>by
  simp only [a4J,Bool.and_eq_true,Option.isNone_iff_eq_none,a5m (n:=n)]
  constructor
  ·rintro ⟨h1,h2⟩ k hk
   by_cases e:k=n
   ·subst e; exact h1
   ·exact h2 k (by omega)
  ·intro h; exact ⟨h n (by omega),fun k hk=>h k (by omega)⟩

theorem c07 {i:Nat} {l:AV} (h:l.one.g8 i=true):l.g8 i=true:=by
 unfold AV.one at h
 split at h
 ·simp [AV.g8,h]
 ·exact h

theorem a2A:∀ {ks:List PK} {y:DL (C9 ks)} {m:List Nat} {s1:St},wr ks y m s=some s1 →
  (m=[]∧∀ t,wr ks y m t=some t)∨∃ i ow e,m=[i]∧∀ t,wr ks y m t=some ((t.U3 i ow).s6 i e)
 | [],y,m,s1,h=>by
  cases m with
  | nil=>exact .inl ⟨rfl,fun t=>rfl⟩
  | cons i m=>cases h
 | k::ks,y,m,s1,h=>by
  cases k with
  | rw u =>
   match m,h with
   | [],h=>cases h
   | [i],h =>
    simp only [wr] at h
    split at h
    ·rename_i hw
     exact .inr ⟨i,false,.var u y.1,rfl,fun t=>by simp only [wr,hw]⟩
    ·cases h
   | i::j::m,h=>cases h
  | mu u =>
   match m,h with
   | [],h=>cases h
   | [i],h =>
    simp only [wr] at h
    split at h
    ·rename_i hw
     exact .inr ⟨i,true,.own (.d0 true u) y.1,rfl,fun t=>by simp only [wr,hw]⟩
    ·cases h
   | i::j::m,h=>cases h
  | v u=>cases m<;>exact a2A (ks:=ks) h
  | R4=>cases m<;>exact a2A (ks:=ks) h
  | X5 f n=>cases m<;>exact a2A (ks:=ks) h
  | el q=>cases m<;>exact a2A (ks:=ks) h
  | rd u=>cases m<;>exact a2A (ks:=ks) h
  | s4 f ts=>cases m<;>exact a2A (ks:=ks) h
  | own u=>cases m<;>exact a2A (ks:=ks) h

end
end Go.Ex

namespace Go.Ex

section
variable {E:Env} {s t:St}

theorem a0K {c:Call} {x:Operand} (hx:x∈c.args.toList):x∈(Op.call c).operands.toList:=by
 simp only [Op.operands,Call.operands]; simp at hx ⊢; first|exact .inr hx|exact .inl hx

def gq (m:Nat) (v:AV):AV:=match Nat.beq m F8 with|true=>.any|false=>v
theorem a2I {s:St} {m:Nat}:s.ev (.tmp m)=gq m (s.get m):=rfl
theorem a2t {s:St} {m i:Nat} (h:(s.ev (.tmp m)).g8 i=true):(s.get m).g8 i=true:=by
 rw [a2I] at h
 unfold gq at h
 split at h
 ·cases h
 ·exact h
theorem M8 {s t:St} {m:Nat} (h:t.get m=s.get m):t.ev (.tmp m)=s.ev (.tmp m):=congrArg (gq m) h
theorem b6o {s:St} {m:Nat} {v:AV} (hb:Nat.beq m F8=false) (h:s.get m=v):s.ev (.tmp m)=v:=by
 rw [a2I,h]; unfold gq; rw [hb]
theorem V4 {s:St} {m:Nat} {v:AV} (h:s.ev (.tmp m)=v) (hv:v≠.any):s.get m=v:=by
 rw [a2I] at h
 unfold gq at h
 split at h
 ·exact absurd h.symm hv
 ·exact h
theorem a9P {s:St} {m:Nat} {v:AV} (h:s.ev (.tmp m)=v) (hv:v≠.any):Nat.beq m F8=false:=by
 rw [a2I] at h
 unfold gq at h
 split at h
 ·exact absurd h.symm hv
 ·assumption

theorem a6N {o:Oper} {c:Call} (ho:o.op=.call c) {f:Operand} (hc:c.callee=.value f) {W:OR→OR} {π:Prop→Prop} (hW:∀ r,(W r).get=r.get.map (fun x=>(π x.1,x.2.1,x.2.2))) {g:FuncId} {caps fv:AV} (hg:s.ev f=fv) (hcm:∀ i,caps.g8 i=true→fv.g8 i=true)
  (he:∀ t,t.ev f=fv→j9 E o t=W (R7 E g ((t.K5 c.args.toList).app caps) o.dst t))
  (hT:i7 E o s=(match look g E.F2 with
    | some c'=>(match c'.ps.any PK.i7 with
     | false=>[]
     | true=>((s.K5 c.args.toList).app caps).E6)
    | none=>[])) {p:Prop} {v:AV} {s1:St} (h:(j9 E o s).get=some (p,v,s1)):C3 E o s p v:=by
 have hfo:f∈o.op.operands.toList:=by rw [ho]; simp [Op.operands,Call.operands,hc]
 have hxo:∀ x∈c.args.toList,x∈o.op.operands.toList:=fun x hx=>by rw [ho]; exact a0K hx
 rw [he s hg,hW] at h
 obtain ⟨q,h,hq⟩:∃ q,(R7 E g ((s.K5 c.args.toList).app caps) o.dst s).get=some (q,v,s1)∧π q=p:=by
  cases hr:(R7 E g ((s.K5 c.args.toList).app caps) o.dst s).get with
  | none=>rw [hr] at h; cases h
  | some x =>
   rw [hr] at h
   simp only [Option.map_some,Option.some.injEq,Prod.mk.injEq] at h
   exact ⟨x.1,by rw [← h.2.1,← h.2.2],h.1⟩
 have hargs:∀ i,((s.K5 c.args.toList).app caps).g8 i=true→∃ x∈o.op.operands.toList,(s.ev x).g8 i=true:=by
  intro i hi
  rcases a5F hi with hi|hi
  ·obtain ⟨x,hx,hi⟩:=W3 hi; exact ⟨x,hxo x hx,hi⟩
  ·exact ⟨f,hfo,by rw [hg]; exact hcm i hi⟩
 generalize hav:(s.K5 c.args.toList).app caps=av at h hargs hT
 unfold R7 at h
 split at h
 ·cases h
 ·rename_i c' hlk
  rw [hlk] at hT
  simp only at hT
  split at h
  ·cases h
  ·rename_i x gs m hx
   obtain ⟨hm1,hm2⟩:=b1D hx
   have hgT:∀ i,i∈gs++m→i∈i7 E o s:=by
    intro i hi
    rw [hT]
    cases hp:c'.ps.any PK.i7 with
    | true=>exact G5.2 (hm1 i hi)
    | false=>obtain ⟨r1,r2⟩:=hm2 hp; rw [r1,r2] at hi; cases hi
   split at h
   ·cases h
   ·rename_i hcond
    obtain ⟨hcond1,hcond2⟩:=(Bool.and_eq_true_iff).1 hcond
    obtain ⟨hnm,hnr⟩:=(Bool.and_eq_true_iff).1 hcond2
    split at h
    ·cases h
    ·rename_i s2 hwr
     split at h
     ·cases h
     ·rename_i hm
      split at h
      ·rename_i l hp hlay
       simp only [OR.get,Option.some.injEq,Prod.mk.injEq] at h
       obtain ⟨rfl,rfl,_⟩:=h
       obtain ⟨k3,h3,k4⟩:=a5t hlay
       simp only [Nat.zero_add,Nat.zero_le,true_and] at k3 k4
       have hids:∀ {t:St},N7 t ((List.range c'.rs.length).map (K9 (o.dst.getD 0)))→∀ k,k<c'.rs.length→look (K9 (o.dst.getD 0) k) t.hp=none:=fun hn k hk=>(hn _ (List.mem_map.2 ⟨k,by simpa using hk,rfl⟩)).1
       -- what is written, and by what the slots turn
       have hw:∃ (f:AV→AV) (h:Nat→Option f7),Trim (i7 E o s) f∧(∀ i,i∉i7 E o s→h i=none)∧∀ t,uniq t.fr→(∀ i∈i7 E o s,look i t.hp=look i s.hp)→∃ t2,wr c'.ps (c'.out x) m (St.t6 gs t)=some t2∧uniq t2.fr∧(∀ n,look n t2.fr=(look n t.fr).map f)∧∀ i,look i t2.hp=if i∈i7 E o s then h i else look i t.hp:=by
        rcases a2A hwr with ⟨rfl,hw⟩|⟨i0,ow,e,rfl,hw⟩
        ·refine ⟨a1S gs,fun i=>if i∈i7 E o s then (if i∈gs then none else look i s.hp) else none,(Trim.t6 gs).mono (fun i hi=>hgT i (by simp [hi])),fun i hi=>by simp [hi],fun t hu ha=>⟨_,hw _,a1C hu,fun n=>a1M,fun i=>?_⟩⟩
         rw [H8]
         by_cases h1:i∈gs
         ·simp [h1,hgT i (by simp [h1])]
         ·by_cases h2:i∈i7 E o s
          ·simp [h1,h2,ha i h2]
          ·simp [h1,h2]
        ·have hi0:i0∈i7 E o s:=hgT i0 (by simp)
         refine ⟨fun u=>AV.map (AV.a1O i0 ow) (a1S gs u),fun i=>if i∈i7 E o s then (if i=i0 then some e else if i∈gs then none else look i s.hp) else none,
          Trim.comp (Trim.t6 gs) (Trim.U3 i0 ow) (fun i hi=>hgT i (by simp [hi])) (by simpa using hi0),fun i hi=>by simp [hi],fun t hu ha=>⟨_,hw _,a2B (a1C hu),fun n=>?_,fun i=>?_⟩⟩
         ·show look n (mapA _ (St.t6 gs t).fr)=_
          rw [H6,a1M,Option.map_map]; rfl
         ·show look i (Ex.put i0 e (St.t6 gs t).hp)=_
          rw [p7,H8]
          by_cases h0:i=i0
          ·subst h0; simp [hi0]
          ·by_cases h1:i∈gs
           ·simp [h0,h1,hgT i (by simp [h1])]
           ·by_cases h2:i∈i7 E o s
            ·simp [h0,h1,h2,ha i h2]
            ·simp [h0,h1,h2]
       obtain ⟨f0,h0,w1,w2,w3⟩:=hw
       refine ⟨(List.range c'.rs.length).map (K9 (o.dst.getD 0)),f0,fun i=>match h3 i with|some e=>some e|none=>h0 i,w1,?_,?_,?_,?_⟩
       ·intro n hn
        obtain ⟨k,hk,rfl⟩:=List.mem_map.1 hn
        exact ⟨a5m.1 hnr k (by simpa using hk),fun m w hw=>a05 (a2r hnm k (by simpa using hk)) hw⟩
       ·intro n hn
        obtain ⟨k,_,rfl⟩:=List.mem_map.1 hn
        exact c3t _ _
       ·intro i hi
        obtain ⟨k,m2,rfl⟩:=k3 i (c07 hi)
        exact .inr (List.mem_map.2 ⟨k,by simpa using m2,rfl⟩)
       ·intro t hu ha hn
        have hal:Alike s t av:=fun i hi=>by obtain ⟨x,hx,hm⟩:=hargs i hi; exact (ha x hx).2 i hm
        obtain ⟨t2,e1,e2,e3,e4⟩:=w3 t hu (fun i hi=>a1o ha hi)
        have hT0:∀ k,k<c'.rs.length→K9 (o.dst.getD 0) k∉i7 E o s:=by
         intro k hk hmem
         obtain ⟨x,hx,hm⟩:=a48 hmem
         obtain ⟨m',rfl,hm'⟩:∃ m',x=.tmp m'∧(s.get m').g8 (K9 (o.dst.getD 0) k)=true:=by
          cases x with
          | tmp m'=>exact ⟨m',rfl,a2t hm⟩
          | const v =>
           exfalso
           simp only [St.ev] at hm
           unfold ofConst at hm
           split at hm
           ·split at hm<;>cases hm
           ·cases hm
           ·split at hm<;>cases hm
           ·cases hm
          | global g=>cases hm
          | func f=>cases hm
         simp only [St.get] at hm'
         cases hl:look m' s.fr with
         | none=>rw [hl] at hm'; cases hm'
         | some w =>
          rw [hl] at hm'
          have:=a05 (a2r hnm k hk) hl
          simp only [Option.getD_some] at hm'
          rw [hm'] at this; cases this
        have hnone:∀ k,k<c'.rs.length→look (K9 (o.dst.getD 0) k) t2.hp=none:=by
         intro k hk
         rw [e4,if_neg (hT0 k hk)]
         exact hids hn k hk
        obtain ⟨h2',r1,r2⟩:=k4 t2.hp (fun k _ hk=>hnone k hk)
        have hm':a0L (o.dst.getD 0) c'.rs.length t2.fr=true:=a5n (fun k hk=>a31 e2 (fun n w hw=>by
         rw [e3] at hw
         cases hl:look n t.fr with
         | none=>rw [hl] at hw; cases hw
         | some u =>
          rw [hl] at hw
          cases hw
          cases hmm:(f0 u).g8 (K9 (o.dst.getD 0) k) with
          | false=>rfl
          | true =>
           have:=(hn (K9 (o.dst.getD 0) k) (List.mem_map.2 ⟨k,by simpa using hk,rfl⟩)).2 n u hl
           rw [w1.g8 u hmm] at this; cases this))
        have hnm':a0L (o.dst.getD 0) c'.rs.length t.fr=true:=a5n (fun k hk=>a31 hu (hn _ (List.mem_map.2 ⟨k,by simpa using hk,rfl⟩)).2)
        have hnr':a4J (o.dst.getD 0) c'.rs.length t.hp=true:=a5m.2 (fun k hk=>hids hn k hk)
        have hev:(t.K5 c.args.toList).app caps=av:=by
         rw [a4Q (s:=s) (t:=t) (fun x hx=>(ha x (hxo x hx)).1)]; exact hav
        have hca:R7 E g av o.dst t=.E0 (c'.pre x) l.one { t2 with hp:=h2' }:=by
         unfold R7
         simp only [hlk,b6x (s:=s) (t:=t) hal,hx,hcond1,hnm',hnr',Bool.and_self,e1,hm',r1]
        refine ⟨{ t2 with hp:=h2' },?_,e2,⟨e3,fun i=>?_⟩⟩
        ·rw [he t ((ha f hfo).1.trans hg),hW,hev,hca]; simp only [OR.get,Option.map_some,hq]
        ·show look i h2'=_
         rw [(r2 i).1,e4]
         cases hh:h3 i with
         | some e =>
          obtain ⟨k,hk,hik⟩:=(r2 i).2 (by rw [hh]; rfl)
          simp only
          rw [if_pos (.inr (List.mem_map.2 ⟨k,by simpa using hk,hik.symm⟩))]
         | none =>
          simp only
          by_cases h1:i∈i7 E o s
          ·rw [if_pos h1,if_pos (.inl h1)]
          ·rw [if_neg h1]
           split
           ·rename_i hi
            rcases hi with hi|hi
            ·exact absurd hi h1
            ·obtain ⟨k,hk,rfl⟩:=List.mem_map.1 hi
             rw [hids hn k (by simpa using hk),w2 _ h1]
           ·rfl
      ·cases h

theorem c1T {o:Oper} {c:Call} (ho:o.op=.call c) {f:Operand} (hc:c.callee=.value f) {p:Prop} {v:AV} {s1:St} (h:(j9 E o s).get=some (p,v,s1)):C3 E o s p v:=by
 have key:(∃ g caps,s.ev f=.s4 g caps)∨(∃ g b,s.ev f=.val (.fn g) b)∨∃ g t y,s.ev f=.val (.box false (some g) t) y:=by
  unfold j9 at h
  rw [ho] at h
  simp only [hc] at h
  split at h
  ·exact .inl ⟨_,_,by assumption⟩
  ·exact .inr (.inl ⟨_,_,by assumption⟩)
  ·exact .inr (.inr ⟨_,_,_,by assumption⟩)
  ·cases h
 rcases key with ⟨g,caps,hg⟩|⟨g,b,hg⟩|⟨g,t0,y0,hg⟩
 ·refine a6N ho hc (W:=fun r=>r) (π:=fun q=>q) (g:=g) (caps:=caps) (fun r=>by cases r<;>rfl) hg (fun i hi=>hi) (fun t ht=>?_) ?_ h
  ·unfold j9
   rw [ho]
   simp only [hc,ht]
  ·unfold i7; rw [ho]; simp only [hc,hg]; rfl
 ·refine a6N ho hc (W:=fun r=>r.a6T ((b:Bool)=true)) (π:=fun q=>(b:Bool)=true∧q) (g:=g) (caps:=.nil) (fun r=>by cases r<;>rfl) hg (fun i hi=>by cases hi) (fun t ht=>?_) ?_ h
  ·unfold j9
   rw [ho]
   simp only [hc,ht]
  ·unfold i7; rw [ho]; simp only [hc,hg]; rfl
 ·refine a6N ho hc (W:=fun r=>r.a6T ((y0:Option t0.den).isSome=true)) (π:=fun q=>(y0:Option t0.den).isSome=true∧q) (g:=g) (caps:=.cons (.u5 t0 (Option.getD (y0:Option t0.den) t0.p8)) .nil) (fun r=>by cases r<;>rfl) hg (fun i hi=>by cases hi) (fun t ht=>?_) ?_ h
  ·unfold j9
   rw [ho]
   simp only [hc,ht]
  ·unfold i7; rw [ho]; simp only [hc,hg]; rfl

end
end Go.Ex

namespace Go.Ex

section
variable {E:Env} {s t:St}

theorem b62 {T:TypeId} {i:Nat} {p:List Step} {x:AV} {q:Prop} {v:AV} {s1:St} (h:(F1 E T i p x s).get=some (q,v,s1)) :
  v=.raw undef∧∃ g ow e,(∀ j∈g,x.g8 j=true)∧∀ t:St,t.obj i=s.obj i→Alike s t x→(F1 E T i p x t).get=some (q,.raw undef,((St.t6 g t).kill i ow p).s6 i e):=by
 unfold F1 at h
 split at h
 ·cases h
 ·rename_i e hob
  split at h
  ·cases h
  ·rename_i u y hg
   split at h
   ·cases h
   ·rename_i hck
    have base:∀ t:St,t.obj i=s.obj i→t.obj i=some e:=fun t ht=>ht.trans hob
    split at h
    ·split at h
     ·split at h
      ·rename_i r hset
       cases h
       refine ⟨rfl,[],e.kd,e.B0 r,by simp,fun t ht _=>?_⟩
       unfold F1
       simp only [base t ht,hg,hck,hset]
       rfl
      ·cases h
     ·split at h
      ·rename_i r hset
       cases h
       refine ⟨rfl,[],e.kd,e.B0 r,by simp,fun t ht _=>?_⟩
       unfold F1
       simp only [base t ht,hg,hck,hset]
       rfl
      ·cases h
     ·cases h
    ·rename_i j q' lo hi
     split at h
     ·split at h
      ·rename_i r hset
       split at h
       ·rename_i hij
        cases h
        refine ⟨rfl,[],e.kd,e.B0 r,by simp,fun t ht _=>?_⟩
        unfold F1
        simp only [base t ht,hg,hck,hset,hij]
        rfl
       ·cases h
      ·cases h
     ·cases h
    ·rename_i x' hx1 hx2
     split at h
     ·rename_i z g hgv
      split at h
      ·rename_i r hset
       split at h
       ·rename_i hij
        cases h
        refine ⟨rfl,g,e.kd,e.B0 r,a3e hgv,fun t ht hal=>?_⟩
        have hgt:=(a1j hal).trans hgv
        unfold F1
        simp only [base t ht,hg,hck]
        simp only [hgt,hset,hij]
        rfl
       ·cases h
      ·cases h
     ·rename_i hgv
      split at h
      ·rename_i j q'
       split at h
       ·rename_i u' y' hpt
        split at h
        ·rename_i r hset
         split at h
         ·rename_i hij
          cases h
          refine ⟨rfl,[],e.kd,e.B0 r,by simp,fun t ht hal=>?_⟩
          have hgt:=(a1j hal).trans hgv
          have hpt2:=(H2 (p:=q') (hal j (by simp [AV.g8]))).trans hpt
          unfold F1
          simp only [base t ht,hg,hck]
          simp only [hgt,hpt2,hset,hij]
          rfl
         ·cases h
        ·cases h
       ·cases h
      ·cases h

theorem b9d {o:Oper} {T:TypeId} {a x:Operand} (ho:o.op=.store T a x) {p:Prop} {v:AV} {s1:St} (h:(j9 E o s).get=some (p,v,s1)):C3 E o s p v:=by
 have hptr:∃ i q,s.ev a=.ptr i q:=by
  unfold j9 at h
  rw [ho] at h
  simp only at h
  split at h
  ·exact ⟨_,_,by assumption⟩
  ·cases h
 obtain ⟨i,q,hp⟩:=hptr
 have ha:∀ t,t.ev a=.ptr i q→j9 E o t=F1 E T i q (t.ev x) t:=by
  intro t ht
  unfold j9
  rw [ho]
  simp only [ht]
 rw [ha s hp] at h
 obtain ⟨rfl,g,ow,e,hg,k⟩:=b62 h
 have hT:i7 E o s=(s.ev a).E6++(s.ev x).E6:=by unfold i7; rw [ho]
 have hiT:i∈i7 E o s:=by rw [hT,hp]; simp [AV.E6]
 have hgT:∀ j∈g,j∈i7 E o s:=fun j hj=>by rw [hT]; exact List.mem_append_right _ (G5.2 (hg j hj))
 have hao:a∈o.op.operands.toList:=by rw [ho]; simp [Op.operands]
 have hxo:x∈o.op.operands.toList:=by rw [ho]; simp [Op.operands]
 refine ⟨[],fun u=>AV.kill i ow q (a1S g u),fun j=>if j=i then some e else if j∈g then none else look j s.hp,Trim.comp (Trim.t6 g) (Trim.kill i ow q) hgT (by simpa using hiT),by simp [N7],by simp,by simp [AV.g8],?_⟩
 intro t hu hag _
 have hev:=(hag x hxo).1
 have hobj:t.obj i=s.obj i:=(hag a hao).2 i (by rw [hp]; simp [AV.g8])
 refine ⟨((St.t6 g t).kill i ow q).s6 i e,?_,a2B (a1C hu),⟨fun n=>?_,fun j=>?_⟩⟩
 ·rw [ha t ((hag a hao).1.trans hp),hev]
  exact k t hobj (fun j hj=>(hag x hxo).2 j hj)
 ·show look n (mapA _ (St.t6 g t).fr)=_
  rw [H6,a1M,Option.map_map]; rfl
 ·show look j (Ex.put i e (St.t6 g t).hp)=_
  rw [p7,H8]
  by_cases h0:j=i
  ·subst h0; simp [hiT]
  ·by_cases h1:j∈g
   ·simp [h0,h1,hgT j h1]
   ·by_cases h2:j∈i7 E o s
    ·simp [h0,h1,h2,a1o hag h2]
    ·simp [h0,h1,h2]

theorem a79 {T:TypeId} {x y:AV} {dst:Option Nat} {p:Prop} {v:AV} {s1:St} (h:(Y1 E T x y dst s).get=some (p,v,s1)) :
  ∃ d g u l,dst=some d∧(∀ j∈g,x.g8 j=true∨y.g8 j=true)∧∀ t,Alike s t x→Alike s t y→Y1 E T x y dst t=(St.lay t d g u l).e8 p:=by
 unfold Y1 at h
 split at h
 ·rename_i q t0 bts d hT
  split at h
  ·cases h
  ·rename_i tt m g happ
   have hgm:=b1F happ
   have ha:∀ t,Alike s t y→y.Y2 t t0=some (⟨tt,m⟩,g):=fun t ht=>(a7x ht).trans happ
   simp only at h
   split at h
   ·split at h
    ·rename_i hty
     obtain rfl:=a3A h (fun _ _ _=>R3)
     refine ⟨d,[]++g,.d0 true t0,(([]:List t0.den)++X0 hty m),rfl,by simpa using fun j hj=>.inr (hgm j hj),fun t _ hy=>?_⟩
     unfold Y1
     simp only [hT,ha t hy,hty,dif_pos]
    ·cases h
   ·split at h
    ·rename_i hck
     split at h
     ·rename_i hty
      obtain rfl:=a3A h (fun _ _ _=>R3)
      refine ⟨d,[]++g,.d0 true t0,(([]:List t0.den)++X0 hty m),rfl,by simpa using fun j hj=>.inr (hgm j hj),fun t _ hy=>?_⟩
      unfold Y1
      simp only [hT,ha t hy,hty,dif_pos,hck]
     ·cases h
    ·cases h
   ·rename_i hx1 hx2
    split at h
    ·rename_i u l f hgv
     split at h
     ·rename_i hu
      split at h
      ·rename_i hty
       obtain rfl:=a3A h (fun _ _ _=>R3)
       refine ⟨d,f++g,.d0 true t0,(X0 hu l++X0 hty m),rfl,?_,fun t hx hy=>?_⟩
       ·intro j hj
        rcases List.mem_append.1 hj with hj|hj
        ·exact .inl (a36 hgv j hj)
        ·exact .inr (hgm j hj)
       ·have hgt:=(a7r hx).trans hgv
        unfold Y1
        simp only [hT,ha t hy]
        simp only [hgt,hu,hty,dif_pos]
      ·cases h
     ·cases h
    ·cases h
 ·cases h

theorem c0g {T:TypeId} {x y:AV} {dst:Option Nat} {p:Prop} {v:AV} {s1:St} (h:(a5I E T x y dst s).get=some (p,v,s1)) :
  ∃ d g u l,dst=some d∧(∀ j∈g,x.g8 j=true∨y.g8 j=true)∧∀ t,Alike s t x→Alike s t y→a5I E T x y dst t=(St.lay t d g u l).e8 p:=by
 unfold a5I at h
 split at h
 ·rename_i q t0 bts d i hT
  split at h
  ·rename_i u z tt m hob happ
   split at h
   ·rename_i hu
    split at h
    ·rename_i ht
     split at h
     ·rename_i hsh
      obtain rfl:=a3A h (fun _ _ _=>R3)
      refine ⟨d,[i],.y7 t0,(2,X0 hu z.2.1++X0 ht m,(X0 hu z.2.2).drop m.length),rfl,by simp [AV.g8],fun t hx hy=>?_⟩
      have ho:t.obj i=some (.own (.y7 u) z):=(hx i (by simp [AV.g8])).trans hob
      have ha:y.Y2 t t0=some (⟨tt,m⟩,[]):=(a7x hy).trans happ
      unfold a5I
      simp only [hT,ho,ha,hu,ht,hsh,dif_pos]
     ·cases h
    ·cases h
   ·cases h
  ·cases h
 ·cases h
theorem c1W {T:TypeId} {x y:AV} {dst:Option Nat} {p:Prop} {v:AV} {s1:St} (h:(a5G E T x y dst s).get=some (p,v,s1)) :
  ∃ d g u l,dst=some d∧(∀ j∈g,x.g8 j=true∨y.g8 j=true)∧∀ t,Alike s t x→Alike s t y→a5G E T x y dst t=(St.lay t d g u l).e8 p:=by
 have hs:∀ t,Alike s t x→b2z t x=b2z s x:=fun t ht=>by
  unfold b2z
  split
  ·rw [ht _ (by simp [AV.g8])]
  ·rfl
 unfold a5G at h
 split at h
 ·rename_i hc
  obtain ⟨d,g,u,l,h1,h2,h3⟩:=c0g h
  exact ⟨d,g,u,l,h1,h2,fun t hx hy=>by unfold a5G; rw [hs t hx,hc]; exact h3 t hx hy⟩
 ·rename_i hc
  obtain ⟨d,g,u,l,h1,h2,h3⟩:=a79 h
  exact ⟨d,g,u,l,h1,h2,fun t hx hy=>by unfold a5G; rw [hs t hx,hc]; exact h3 t hx hy⟩

theorem a6H {i:Nat} {p:List Step} {lo:Nat} {u:Ty} {m:List u.den} {s1:St} (h:a0o s i p lo u m=some s1):∃ ow e',∀ t:St,t.obj i=s.obj i→a0o t i p lo u m=some ((t.U3 i ow).s6 i e'):=by
 unfold a0o at h
 split at h
 ·rename_i e he
  split at h
  ·rename_i u' l hg
   split at h
   ·rename_i hu
    split at h
    ·rename_i r hset
     split at h
     ·rename_i hc
      refine ⟨e.Z1,e.B0 r,fun t ht=>?_⟩
      unfold a0o
      rw [ht,he]
      simp only [hg,hu,dif_pos]
      subst hu
      simp only [hset,hc]
     ·cases h
    ·cases h
   ·cases h
  ·cases h
 ·cases h
theorem C3.c3c {o:Oper} {p:Prop} {v:AV} {i:Nat} {ow:Bool} {e':f7} (hi:i∈i7 E o s) (hv:∀ j,v.g8 j=true→∃ x∈o.op.operands.toList,(s.ev x).g8 j=true) (hr:∀ t,U4 s t o.op.operands.toList→(j9 E o t).get=some (p,v,(t.U3 i ow).s6 i e')):C3 E o s p v:=by
 refine ⟨[],AV.map (AV.a1O i ow),fun j=>if j=i then some e' else look j s.hp,(Trim.U3 i ow).mono (by simpa using hi),by simp [N7],by simp,fun j hj=>.inl (hv j hj),fun t hu ha _=>⟨_,hr t ha,a2B hu,fun n=>?_,fun j=>?_⟩⟩
 ·show look n (mapA _ t.fr)=_
  rw [H6]
 ·show look j (Ex.put i e' t.hp)=_
  rw [p7]
  by_cases h1:j=i
  ·subst h1; simp [hi]
  ·rw [if_neg h1]
   by_cases h2:j∈i7 E o s
   ·rw [if_pos (.inl h2),if_neg h1]; exact a1o ha h2
   ·rw [if_neg (by simp [h2])]
theorem C3.fill {o:Oper} {p:Prop} {v:AV} {i:Nat} {ow:Bool} {e':f7} (hi:i∈i7 E o s) (hv:∀ j,v.g8 j=false) (hr:∀ t,U4 s t o.op.operands.toList→(j9 E o t).get=some (p,v,(t.U3 i ow).s6 i e')):C3 E o s p v :=
 .c3c hi (fun j hj=>by rw [hv j] at hj; cases hj) hr

theorem b8m {o:Oper} {c:Call} (ho:o.op=.call c) (hc:c.callee=.builtin .append) {p:Prop} {v:AV} {s1:St} (h:(j9 E o s).get=some (p,v,s1)):C3 E o s p v:=by
 have hxo:∀ x∈c.args.toList,x∈o.op.operands.toList:=fun x hx=>by rw [ho]; exact a0K hx
 have hT:i7 E o s=(s.K5 c.args.toList).E6:=by unfold i7; rw [ho]; simp only [hc]
 have key:(∃ x y T F,(F=Y1 E T∨F=a5G E T)∧c.args.toList=[x,y]∧(∀ t,t.ev x=s.ev x→t.ev y=s.ev y→j9 E o t=F (t.ev x) (t.ev y) o.dst t))∨(∃ x y T,c.args.toList=[x,y]∧(∀ t,t.ev x=s.ev x→t.ev y=s.ev y→j9 E o t=Y0 E T (t.ev x) (t.ev y) t))∨(∃ x y T,c.args.toList=[x,y]∧∀ t,j9 E o t=a3n E T (t.ev x) (t.ev y) o.dst t):=by
  unfold j9 at h
  rw [ho] at h
  simp only [hc] at h
  split at h
  ·rename_i x y T U hargs htys
   split at h
   ·rename_i hU
    cases hs2:(s.ev x).c2N (s.ev y) with
    | true=>exact .inr (.inl ⟨x,y,T,hargs,fun t e1 e2=>by unfold j9; rw [ho]; simp only [hc,hargs,htys,hU]; rw [e1,e2,hs2]⟩)
    | false=>exact .inl ⟨x,y,T,_,.inr rfl,hargs,fun t e1 e2=>by unfold j9; rw [ho]; simp only [hc,hargs,htys,hU]; rw [e1,e2,hs2]⟩
   ·rename_i hU
    exact .inl ⟨x,y,T,_,.inl rfl,hargs,fun t _ _=>by unfold j9; rw [ho]; simp only [hc,hargs,htys,hU]⟩
   ·rename_i hU
    exact .inr (.inr ⟨x,y,T,hargs,fun t=>by unfold j9; rw [ho]; simp only [hc,hargs,htys,hU]⟩)
   ·cases h
  ·cases h
 rcases key with key|⟨x,y,T,hargs,he⟩|⟨x,y,T,hargs,he⟩
 rotate_left
 ·have hxm:x∈o.op.operands.toList:=hxo x (by rw [hargs]; simp)
  have hym:y∈o.op.operands.toList:=hxo y (by rw [hargs]; simp)
  rw [he s rfl rfl] at h
  have hI:=b5y h
  simp only at hI
  obtain ⟨i,lo,hi,q,t0,bts,u,m,l,hx,hT1,happ,hob,hf,hck,rfl,rfl⟩:=a78 hI
  obtain ⟨ow,e',hfl⟩:=a6H hf
  have hm:(s.ev x).g8 i=true:=by rw [hx]; simp [AV.g8]
  refine C3.c3c (i:=i) (ow:=ow) (e':=e') (by rw [hT,G5,hargs]; simp [St.K5,AV.g8,hm]) (fun j hj=>⟨x,hxm,by rw [hx]; exact hj⟩) (fun t ha=>?_)
  rw [he t (ha x hxm).1 (ha y hym).1,(ha x hxm).1,(ha y hym).1,hx]
  have hobt:t.obj i=some (.own (.d0 true u) l):=((ha x hxm).2 i hm).trans hob
  unfold Y0
  simp only [hT1,(a7x (u:=t0) (ha y hym).2).trans happ,hobt,hfl t ((ha x hxm).2 i hm),hck,decide_true]
  rfl
 ·have h0:=h
  rw [he] at h
  have hxm:x∈o.op.operands.toList:=hxo x (by rw [hargs]; simp)
  have hym:y∈o.op.operands.toList:=hxo y (by rw [hargs]; simp)
  unfold a3n at h
  split at h
  ·rename_i t0 bts d k n hT1 hd1 hx1 hy1
   obtain rfl:=a3A h (fun _ _ _=>R3)
   refine C3.lay hd1 (g:=[]) (u:=.d0 true t0) (x:=List.replicate n.toNat t0.p8) (W:=OR.e8 (0≤n∧n≤140737488355328∧n*(t0.wb:Nat)≤140737488355328)) (fun _ _=>rfl) (fun _=>rfl) (by simp) h0 (fun t ha=>?_)
   rw [he,(ha x hxm).1,(ha y hym).1]
   unfold a3n
   simp only [hT1,hd1,hx1,hy1]
  ·cases h
 obtain ⟨x,y,T,F,hF,hargs,he⟩:=key
 have h0:=h
 rw [he s rfl rfl] at h
 have hloc:∃ d g u l,o.dst=some d∧(∀ j∈g,(s.ev x).g8 j=true∨(s.ev y).g8 j=true)∧∀ t,Alike s t (s.ev x)→Alike s t (s.ev y)→F (s.ev x) (s.ev y) o.dst t=(St.lay t d g u l).e8 p:=by
  rcases hF with rfl|rfl
  ·exact a79 h
  ·exact c1W h
 obtain ⟨d,g,u,l,hd,hg,k⟩:=hloc
 have hxm:x∈o.op.operands.toList:=hxo x (by rw [hargs]; simp)
 have hym:y∈o.op.operands.toList:=hxo y (by rw [hargs]; simp)
 refine C3.lay hd (g:=g) (u:=u) (x:=l) (W:=OR.e8 p) (fun _ _=>rfl) (fun _=>rfl) ?_ h0 (fun t ha=>?_)
 ·intro j hj
  rw [hT,G5,hargs]
  rcases hg j hj with h|h<;>simp [St.K5,AV.g8,h]
 ·rw [he t (ha x hxm).1 (ha y hym).1,(ha x hxm).1,(ha y hym).1]
  exact k t (ha x hxm).2 (ha y hym).2

end
end Go.Ex

namespace Go.Ex

section
variable {E:Env} {s t:St}

theorem ag {o:Oper} {x:Operand} (h:U4 s t o.op.operands.toList) (hx:x∈o.op.operands.toList):t.ev x=s.ev x∧Alike s t (s.ev x):=⟨(h x hx).1,(h x hx).2⟩

theorem ob1 {i:Nat} {p:List Step} (h:Alike s t (.ptr i p)):t.obj i=s.obj i:=h i (by simp [AV.g8])
theorem ob2 {i:Nat} {p:List Step} (h:Alike s t (.at_ i p)):t.obj i=s.obj i:=h i (by simp [AV.g8])
theorem ob3 {i:Nat} {p:List Step} {a b:Int} (h:Alike s t (.sub i p a b)):t.obj i=s.obj i:=h i (by simp [AV.g8])

theorem b2i {o:Oper} {T:TypeId} {x:Operand} {n:Nat} (ho:o.op=.fieldAddr T x n) {p:Prop} {v:AV} {s1:St} (h:(j9 E o s).get=some (p,v,s1)):C3 E o s p v:=by
 have hx:x∈o.op.operands.toList:=by rw [ho]; simp [Op.operands]
 refine .ro h (fun t ha=>?_) (fun i hi=>⟨x,hx,?_⟩)
 ·obtain ⟨e1,e2⟩:=ag ha hx
  unfold j9
  rw [ho]
  simp only [e1]
  cases hx:s.ev x with
  | ptr i q =>
   rw [hx] at e2
   simp only [H2 (e2 i (by simp [AV.g8]))]
   repeat' (first|rfl|split)
  | val u z =>
   cases u with
   | box o0 g0 u0=>cases o0<;>cases g0<;>first|rfl|(dsimp only; repeat' (first|rfl|split))
   | _=>first|rfl|(dsimp only; repeat' (first|rfl|split))
  | _=>first|rfl|(dsimp only; split<;>rfl)
 ·unfold j9 at hi
  rw [ho] at hi
  simp only at hi
  cases hx:s.ev x with
  | ptr j q =>
   rw [hx] at hi
   simp only at hi
   repeat' (split at hi)
   all_goals first|exact hi|(cases hi; done)
  | val u z =>
   rw [hx] at hi
   exfalso
   cases u with
   | box o0 g0 u0=>cases o0<;>cases g0<;>first|(cases hi; done)|(simp only at hi; repeat' (split at hi))<;>(cases hi)
   | _=>first|(cases hi; done)|(simp only at hi; repeat' (split at hi))<;>(cases hi)
  | _ =>
   rw [hx] at hi
   simp only at hi
   repeat' (split at hi)
   all_goals first|exact hi|(cases hi; done)

theorem b2g {o:Oper} {T:TypeId} {x y:Operand} (ho:o.op=.indexAddr T x y) {p:Prop} {v:AV} {s1:St} (h:(j9 E o s).get=some (p,v,s1)):C3 E o s p v:=by
 have hxo:x∈o.op.operands.toList:=by rw [ho]; simp [Op.operands]
 have hyo:y∈o.op.operands.toList:=by rw [ho]; simp [Op.operands]
 refine .ro h (fun t ha=>?_) (fun i hi=>⟨x,hxo,?_⟩)
 ·obtain ⟨e1,e2⟩:=ag ha hxo
  have e3:=(ag ha hyo).1
  unfold j9
  rw [ho]
  simp only [e1,e3]
  split
  ·rename_i hx _; rw [hx] at e2; (first|simp only [H2 (ob1 e2)]|simp only [H2 (ob2 e2)]) ; (generalize s.part _ _=pt; cases pt with|none=>rfl|some q=>(obtain ⟨u,z⟩:=q; cases u<;>first|rfl|(dsimp only; repeat' (first|rfl|split))|(rename_i o0 _; cases o0<;>first|rfl|(dsimp only; repeat' (first|rfl|split)))))
  ·repeat' (first|rfl|split)
  ·repeat' (first|rfl|split)
  ·rename_i hx _; rw [hx] at e2; (first|simp only [H2 (ob1 e2)]|simp only [H2 (ob2 e2)]) ; (generalize s.part _ _=pt; cases pt with|none=>rfl|some q=>(obtain ⟨u,z⟩:=q; cases u<;>first|rfl|(dsimp only; repeat' (first|rfl|split))|(rename_i o0 _; cases o0<;>first|rfl|(dsimp only; repeat' (first|rfl|split)))))
  ·rename_i hx _; rw [hx] at e2; simp only [a7d (ob3 e2)] ; (generalize s.view _ _ _ _=pt; cases pt with|none=>rfl|some q=>(obtain ⟨u,z⟩:=q; dsimp only; repeat' (first|rfl|split)))
  ·rfl
 ·unfold j9 at hi
  rw [ho] at hi
  simp only at hi
  split at hi
  ·rename_i hx _; rw [hx]; repeat' (split at hi)
   all_goals first|exact hi|(cases hi; done)
  ·repeat' (split at hi)
   all_goals (cases hi; done)
  ·repeat' (split at hi)
   all_goals (cases hi; done)
  ·rename_i hx _; rw [hx]; repeat' (split at hi)
   all_goals first|exact hi|(cases hi; done)
  ·rename_i hx _; rw [hx]; repeat' (split at hi)
   all_goals first|exact hi|(cases hi; done)
  ·cases hi

theorem b9L {o:Oper} {T:TypeId} {x y:Operand} (ho:o.op=.index T x y) {p:Prop} {v:AV} {s1:St} (h:(j9 E o s).get=some (p,v,s1)):C3 E o s p v:=by
 have hxo:x∈o.op.operands.toList:=by rw [ho]; simp [Op.operands]
 have hyo:y∈o.op.operands.toList:=by rw [ho]; simp [Op.operands]
 refine .ro h (fun t ha=>?_) (fun i hi=>⟨x,hxo,?_⟩)
 ·obtain ⟨e1,e2⟩:=ag ha hxo
  have e3:=(ag ha hyo).1
  unfold j9
  rw [ho]
  simp only [e1,e3]
  split
  ·split<;>rfl
  ·split<;>rfl
  ·rename_i hx _; rw [hx] at e2; (first|simp only [H2 (ob1 e2)]|simp only [H2 (ob2 e2)]) ; (generalize s.part _ _=pt; cases pt with|none=>rfl|some q=>(obtain ⟨u,z⟩:=q; cases u<;>first|rfl|(dsimp only; repeat' (first|rfl|split))|(rename_i o0 _; cases o0<;>first|rfl|(dsimp only; repeat' (first|rfl|split)))))
  ·rfl
 ·unfold j9 at hi
  rw [ho] at hi
  simp only at hi
  split at hi
  ·repeat' (split at hi)
   all_goals (cases hi; done)
  ·repeat' (split at hi)
   all_goals (cases hi; done)
  ·rename_i hx _; rw [hx]; repeat' (split at hi)
   all_goals first|exact hi|(cases hi; done)
  ·cases hi

theorem b9T {o:Oper} {T:TypeId} {x:Operand} {n:Nat} (ho:o.op=.field T x n) {p:Prop} {v:AV} {s1:St} (h:(j9 E o s).get=some (p,v,s1)):C3 E o s p v:=by
 have hxo:x∈o.op.operands.toList:=by rw [ho]; simp [Op.operands]
 refine .ro h (fun t ha=>?_) (fun i hi=>⟨x,hxo,?_⟩)
 ·obtain ⟨e1,e2⟩:=ag ha hxo
  unfold j9
  rw [ho]
  simp only [e1]
  split
  ·split<;>rfl
  ·rename_i hx; rw [hx] at e2; (first|simp only [H2 (ob1 e2)]|simp only [H2 (ob2 e2)]) ; (generalize s.part _ _=pt; cases pt with|none=>rfl|some q=>(obtain ⟨u,z⟩:=q; cases u<;>first|rfl|(dsimp only; repeat' (first|rfl|split))|(rename_i o0 _; cases o0<;>first|rfl|(dsimp only; repeat' (first|rfl|split)))))
  ·rfl
 ·unfold j9 at hi
  rw [ho] at hi
  simp only at hi
  split at hi
  ·repeat' (split at hi)
   all_goals (cases hi; done)
  ·rename_i hx; rw [hx]; repeat' (split at hi)
   all_goals first|exact hi|(cases hi; done)
  ·cases hi

theorem c3N {o:Oper} {c:Call} (ho:o.op=.call c) (hc:c.callee=.builtin .cap) {p:Prop} {v:AV} {s1:St} (h:(j9 E o s).get=some (p,v,s1)):C3 E o s p v:=by
 obtain ⟨x,T,ha,hT⟩:∃ x T,c.args.toList=[x]∧c.argTypes.toList=[T]:=by
  unfold j9 at h
  rw [ho] at h
  simp only [hc] at h
  split at h
  ·exact ⟨_,_,by assumption,by assumption⟩
  ·cases h
 have hx0:x∈o.op.operands.toList:=by rw [ho]; exact a0K (by rw [ha]; simp)
 refine .ro h (fun t hag=>?_) (fun i hi=>?_)
 ·obtain ⟨e1,e2⟩:=ag hag hx0
  unfold j9
  rw [ho]
  simp only [hc,ha,hT,e1]
  repeat' (first|rfl|split)
 ·exfalso
  unfold j9 at hi
  rw [ho] at hi
  simp only [hc,ha,hT] at hi
  repeat' (split at hi)
  all_goals (cases hi)

theorem c5b {v:AV} (h:Alike s t v):v.mp t=v.mp s:=by
 unfold AV.mp
 split
 ·rfl
 ·rename_i i p; simp only [H2 (h i (by simp [AV.g8]))]
 ·rfl

theorem b7u {o:Oper} {T:TypeId} {x y:Operand} {ok:Bool} (ho:o.op=.lookup T x y ok) {p:Prop} {v:AV} {s1:St} (h:(j9 E o s).get=some (p,v,s1)):C3 E o s p v:=by
 have hx:x∈o.op.operands.toList:=by rw [ho]; simp [Op.operands]
 have hy:y∈o.op.operands.toList:=by rw [ho]; simp [Op.operands]
 have hl:∀ t,j9 E o t=a2e E T (t.ev x) (t.ev y) ok t:=fun t=>by unfold j9; rw [ho]
 refine .ro h (fun t ha=>?_) (fun i hi=>?_)
 ·rw [hl,hl,(ag ha hx).1,(ag ha hy).1]
  unfold a2e
  rw [c5b (ag ha hx).2]
  repeat' (first|rfl|split)
 ·exfalso
  rw [hl] at hi
  unfold a2e at hi
  repeat' (split at hi)
  all_goals (simp [OR.av,AV.g8] at hi)

theorem b47 {o:Oper} {T:TypeId} {r:Option Operand} (ho:o.op=.makeMap T r) {p:Prop} {v:AV} {s1:St} (h:(j9 E o s).get=some (p,v,s1)):C3 E o s p v:=by
 have key:∃ k u b d,r=none∧look T E.tt=some ⟨.map true k u,b⟩∧o.dst=some d:=by
  unfold j9 at h; rw [ho] at h
  simp only at h
  split at h
  ·exact ⟨_,_,_,_,rfl,by assumption,by assumption⟩
  ·cases h
 obtain ⟨k,u,b,d,rfl,h1,h2⟩:=key
 have he:∀ t,j9 E o t=t.lay d [] (.map true k u) (some ([]:List (k.den×u.den))):=fun t=>by unfold j9; rw [ho]; simp only [h1,h2]
 rw [he] at h
 cases hl:s.lay d [] (.map true k u) (some ([]:List (k.den×u.den))) with
 | fail y=>rw [hl] at h; cases h
 | E0 q v s'=>exact absurd hl R3
 | ok v' s' =>
  rw [hl] at h
  cases h
  obtain ⟨k1,rfl,rfl,k4⟩:=b0y hl
  exact C3.obj h2 (e:=.own (.map true k u) (some [])) (g:=[]) (fun i hi=>by simpa [AV.g8] using hi) k1 (by simp) (fun t ha hu hf=>by rw [he t,b3q hf k4]; rfl)

theorem b9g {o:Oper} {T:TypeId} {x:Operand} {lo hi mx:Option Operand} (ho:o.op=.slice T x lo hi mx) {p:Prop} {v:AV} {s1:St} (h:(j9 E o s).get=some (p,v,s1)):C3 E o s p v:=by
 have hops:∀ y,y=x∨lo=some y∨hi=some y∨mx=some y→y∈o.op.operands.toList:=by
  rw [ho]
  rintro y (rfl|rfl|rfl|rfl)<;>simp [Op.operands]
 have hxo:x∈o.op.operands.toList:=hops x (.inl rfl)
 have he:∀ t,j9 E o t=a2D E T (t.ev x) lo hi mx t:=fun t=>by unfold j9; rw [ho]
 refine .ro h (fun t ha=>?_) (fun i hi'=>⟨x,hxo,?_⟩)
 ·obtain ⟨e1,e2⟩:=ag ha hxo
  rw [he,he,e1]
  have b1:∀ d,W6 t d lo=W6 s d lo:=fun d=>b39 (fun y hy=>(ag ha (hops y (.inr (.inl hy)))).1)
  have b2:∀ d,W6 t d hi=W6 s d hi:=fun d=>b39 (fun y hy=>(ag ha (hops y (.inr (.inr (.inl hy))))).1)
  have b3:∀ d,W6 t d mx=W6 s d mx:=fun d=>b39 (fun y hy=>(ag ha (hops y (.inr (.inr (.inr hy))))).1)
  unfold a2D
  simp only [b1,b2,b3]
  split
  ·rfl
  ·split
   ·repeat' (first|rfl|split)
   ·repeat' (first|rfl|split)
   ·repeat' (first|rfl|split)
   ·repeat' (first|rfl|split)
   ·rename_i hx; rw [hx] at e2; (first|simp only [H2 (ob1 e2)]|simp only [H2 (ob2 e2)]) ; (generalize s.part _ _=pt; cases pt with|none=>rfl|some q=>(obtain ⟨u,z⟩:=q; cases u<;>first|rfl|(dsimp only; repeat' (first|rfl|split))|(rename_i o0 _; cases o0<;>first|rfl|(dsimp only; repeat' (first|rfl|split)))))
   ·rename_i hx; rw [hx] at e2; simp only [H2 (ob3 e2)] ; (generalize s.part _ _=pt; cases pt with|none=>rfl|some q=>(obtain ⟨u,z⟩:=q; cases u<;>first|rfl|(dsimp only; repeat' (first|rfl|split))|(rename_i o0 _; cases o0<;>first|rfl|(dsimp only; repeat' (first|rfl|split)))))
   ·rename_i hx; rw [hx] at e2; (first|simp only [H2 (ob1 e2)]|simp only [H2 (ob2 e2)]) ; (generalize s.part _ _=pt; cases pt with|none=>rfl|some q=>(obtain ⟨u,z⟩:=q; cases u<;>first|rfl|(dsimp only; repeat' (first|rfl|split))|(rename_i o0 _; cases o0<;>first|rfl|(dsimp only; repeat' (first|rfl|split)))))
   ·rfl
 ·rw [he] at hi'
  unfold a2D at hi'
  split at hi'
  ·cases hi'
  ·split at hi'
   ·repeat' (split at hi')
    all_goals (cases hi'; done)
   ·repeat' (split at hi')
    all_goals (cases hi'; done)
   ·repeat' (split at hi')
    all_goals (cases hi'; done)
   ·repeat' (split at hi')
    all_goals (cases hi'; done)
   ·rename_i hx; rw [hx]; repeat' (split at hi')
    all_goals first|exact hi'|(cases hi'; done)
   ·rename_i hx; rw [hx]; repeat' (split at hi')
    all_goals first|exact hi'|(cases hi'; done)
   ·rename_i hx; rw [hx]; repeat' (split at hi')
    all_goals first|exact hi'|(cases hi'; done)
   ·cases hi'

theorem c3I {o:Oper} {c:Call} (ho:o.op=.call c) (hc:c.callee=.builtin .len) {p:Prop} {v:AV} {s1:St} (h:(j9 E o s).get=some (p,v,s1)):C3 E o s p v:=by
 obtain ⟨x,T,ha,hT⟩:∃ x T,c.args.toList=[x]∧c.argTypes.toList=[T]:=by
  unfold j9 at h
  rw [ho] at h
  simp only [hc] at h
  split at h
  ·exact ⟨_,_,by assumption,by assumption⟩
  ·cases h
 have hx0:x∈o.op.operands.toList:=by rw [ho]; exact a0K (by rw [ha]; simp)
 refine .ro h (fun t hag=>?_) (fun i hi=>?_)
 ·obtain ⟨e1,e2⟩:=ag hag hx0
  unfold j9
  rw [ho]
  simp only [hc,ha,hT,e1]
  split
  ·repeat' (first|rfl|split)
  ·repeat' (first|rfl|split)
  ·repeat' (first|rfl|split)
  ·repeat' (first|rfl|split)
  ·rename_i hx; rw [hx] at e2; (first|simp only [H2 (ob1 e2)]|simp only [H2 (ob2 e2)]) ; (generalize s.part _ _=pt; cases pt with|none=>rfl|some q=>(obtain ⟨u,z⟩:=q; cases u<;>first|rfl|(dsimp only; repeat' (first|rfl|split))|(rename_i o0 _; cases o0<;>first|rfl|(dsimp only; repeat' (first|rfl|split)))|(rename_i o0 _ _; cases o0<;>first|rfl|(dsimp only; repeat' (first|rfl|split)))))
  ·rename_i hx; rw [hx] at e2; simp only [a7d (ob3 e2)] ; (generalize s.view _ _ _ _=pt; cases pt with|none=>rfl|some q=>(obtain ⟨u,z⟩:=q; dsimp only; repeat' (first|rfl|split)))
  ·repeat' (first|rfl|split)
  ·rfl
 ·exfalso
  unfold j9 at hi
  rw [ho] at hi
  simp only [hc,ha,hT] at hi
  repeat' (split at hi)
  all_goals (cases hi)

theorem b3A {k:IntKind} {f:Int→Int→Int}:∀ {l:List Operand} {n:Int},(∀ x∈l,t.ev x=s.ev x)→foldI t k f n l=(foldI s k f n l).a0r t
 | [],n,_=>rfl
 | x::l,n,h=>by
  simp only [foldI,h x (by simp)]
  split
  ·split
   ·exact b3A (fun y hy=>h y (by simp [hy]))
   ·rfl
  ·rfl

theorem a5y {k:IntKind} {f:Int→Int→Int} {i:Nat}:∀ {l:List Operand} {n:Int},(foldI s k f n l).av.g8 i=true→False
 | [],n,h=>by cases h
 | x::l,n,h=>by
  simp only [foldI] at h
  split at h
  ·split at h
   ·exact a5y h
   ·cases h
  ·cases h

theorem a9D {o:Oper} {c:Call} (ho:o.op=.call c) (hc:c.callee=.builtin .max∨c.callee=.builtin .min) {p:Prop} {v:AV} {s1:St} (h:(j9 E o s).get=some (p,v,s1)):C3 E o s p v:=by
 have hxo:∀ x∈c.args.toList,x∈o.op.operands.toList:=fun x hx=>by rw [ho]; exact a0K hx
 refine .ro h (fun t hag=>?_) (fun i hi=>?_)
 ·unfold j9
  rw [ho]
  rcases hc with hc|hc <;>
  ·simp only [hc]
   split
   ·rename_i x l ha
    rw [(hag x (hxo x (by rw [ha]; simp))).1]
    split
    ·exact b3A (fun y hy=>(hag y (hxo y (by rw [ha]; simp [hy]))).1)
    ·rfl
   ·rfl
 ·exfalso
  unfold j9 at hi
  rw [ho] at hi
  rcases hc with hc|hc
  ·simp only [hc] at hi
   split at hi
   ·split at hi
    ·exact a5y hi
    ·cases hi
   ·cases hi
  ·simp only [hc] at hi
   split at hi
   ·split at hi
    ·exact a5y hi
    ·cases hi
   ·cases hi

theorem b97 {o:Oper} {T:TypeId} {parts:Array (Nat×Operand)} (ho:o.op=.build T parts) {p:Prop} {v:AV} {s1:St} (h:(j9 E o s).get=some (p,v,s1)):C3 E o s p v:=by
 have hps:∀ t,U4 s t o.op.operands.toList→∀ q∈parts.toList,t.ev q.2=s.ev q.2∧Alike s t (s.ev q.2):=fun t ha q hq=>ag ha (by rw [ho]; simp only [Op.operands]; simpa using ⟨q.1,by simpa using hq⟩)
 have key:∃ t0 r g,look T E.tt=some t0∧(t0.ty.agg && parts.toList.all (fun q=>a1R t0.ty q.1))=true∧N6 s ⟨t0.ty,t0.ty.p8⟩ parts.toList=some (r,g):=by
  unfold j9 at h; rw [ho] at h
  simp only at h
  split at h
  ·split at h
   ·split at h
    ·exact ⟨_,_,_,by assumption,by assumption,by assumption⟩
    ·exact ⟨_,_,_,by assumption,by assumption,by assumption⟩
    ·cases h
   ·cases h
  ·cases h
 obtain ⟨t0,⟨u,y⟩,g,h1,h2,h3⟩:=key
 have hb:∀ t,U4 s t o.op.operands.toList→N6 t ⟨t0.ty,t0.ty.p8⟩ parts.toList=some (⟨u,y⟩,g):=fun t ha=>(a4c (s:=s) (t:=t) (hps t ha)).trans h3
 cases g with
 | nil =>
  have he:∀ t,U4 s t o.op.operands.toList→j9 E o t=.ok (.val u y) t:=fun t ha=>by unfold j9; rw [ho]; simp only [h1,h2,hb t ha]
  refine .ro h (fun t ha=>?_) (fun i hi=>?_)
  ·rw [he t ha,he s (.refl _ _)]; rfl
  ·rw [he s (.refl _ _)] at hi; cases hi
 | cons g0 g =>
  cases hd:o.dst with
  | none =>
   exfalso
   unfold j9 at h; rw [ho] at h
   simp only [h1,h2,h3,hd] at h
   cases h
  | some d =>
   refine C3.lay hd (g:=g0::g) (u:=u) (x:=y) (W:=fun r=>r) (p:=p) (v:=v) (s1:=s1) ?_ (fun _=>rfl) ?_ h (fun t ha=>by unfold j9; rw [ho]; simp only [h1,h2,hb t ha,hd])
   ·have hp:p=True:=by
     unfold j9 at h; rw [ho] at h
     simp only [h1,h2,h3,hd] at h
     cases hl:s.lay d (g0::g) u y<;>rw [hl] at h
     ·cases h
     ·cases h; rfl
     ·exact absurd hl R3
    intro v s; rw [hp]; rfl
   ·intro i hi
    obtain ⟨q,hq,hm⟩:=a2v h3 i hi
    unfold i7
    rw [ho]
    exact G5.2 (a8o (List.mem_map.2 ⟨q,hq,rfl⟩) hm)

theorem b0N {o:Oper} {T:TypeId} {n:Nat} {parts:Array (Nat×Operand)} (ho:o.op=.buildSlice T n parts) {p:Prop} {v:AV} {s1:St} (h:(j9 E o s).get=some (p,v,s1)):C3 E o s p v:=by
 have hps:∀ t,U4 s t o.op.operands.toList→∀ q∈parts.toList,t.ev q.2=s.ev q.2∧Alike s t (s.ev q.2):=fun t ha q hq=>ag ha (by rw [ho]; simp only [Op.operands]; simpa using ⟨q.1,by simpa using hq⟩)
 have key:∃ t0 b d m t' l g,look T E.tt=some ⟨.d0 true t0,b⟩∧o.dst=some d∧(s.fresh d && parts.toList.all (fun q=>Nat.blt q.1 n) && Nat.ble (n*t0.size) 16777216)=true∧b0O s n t0 parts.toList=some (⟨.arr m t',l⟩,g):=by
  unfold j9 at h; rw [ho] at h
  simp only at h
  split at h
  ·split at h
   ·split at h
    ·exact ⟨_,_,_,_,_,_,_,by assumption,by assumption,by assumption,by assumption⟩
    ·cases h
   ·cases h
  ·cases h
 obtain ⟨t0,b,d,m,t',l,g,h1,h2,h4,h5⟩:=key
 have hb:∀ t,U4 s t o.op.operands.toList→b0O t n t0 parts.toList=some (⟨.arr m t',l⟩,g):=fun t ha=>by
  rw [← h5]; unfold b0O; rw [a4c (s:=s) (t:=t) (hps t ha),a4c (s:=s) (t:=t) (hps t ha)]
 obtain ⟨t9,_,h9⟩:=b38 h5
 have he:∀ t,U4 s t o.op.operands.toList→t.fresh d=true→j9 E o t=t.lay d g (.d0 true t') l:=fun t ha hf=>by
  simp only [Bool.and_eq_true] at h4
  unfold j9; rw [ho]; simp only [h1,h2,hf,h4.1.2,h4.2,hb t ha,Bool.and_self]
 have hf:s.fresh d=true:=by simp only [Bool.and_eq_true] at h4; exact h4.1.1
 have hgT:∀ i∈g,i∈i7 E o s:=by
  intro i hi
  obtain ⟨q,hq,hm⟩:=a2v h9 i hi
  unfold i7
  rw [ho]
  exact G5.2 (a8o (List.mem_map.2 ⟨q,hq,rfl⟩) hm)
 rw [he s (.refl _ _) hf] at h
 cases hl:s.lay d g (.d0 true t') l with
 | fail y=>rw [hl] at h; cases h
 | E0 q v s'=>exact absurd hl R3
 | ok v' s' =>
  rw [hl] at h
  cases h
  obtain ⟨k1,rfl,rfl,k4⟩:=b0y hl
  exact C3.obj h2 (e:=.own (.d0 true t') l) (g:=g) (fun i hi=>by simpa [AV.g8] using hi) k1 hgT (fun t ha hu hf=>by rw [he t ha hf,b3q hf k4]; rfl)

theorem c3Q {o:Oper} {T:TypeId} {x:Operand} (ho:o.op=.box T x) {p:Prop} {v:AV} {s1:St} (h:(j9 E o s).get=some (p,v,s1)):C3 E o s p v:=by
 have hxo:x∈o.op.operands.toList:=by rw [ho]; simp [Op.operands]
 have hT:i7 E o s=(s.ev x).E6:=by unfold i7; rw [ho]
 have key:∃ t0 d,look T E.tt=some t0∧o.dst=some d∧s.fresh d=true:=by
  unfold j9 at h; rw [ho] at h
  simp only at h
  split at h
  ·split at h
   ·exact ⟨_,_,by assumption,by assumption,by assumption⟩
   ·cases h
  ·cases h
 obtain ⟨t0,d,h1,h2,h3⟩:=key
 have he:∀ t,t.fresh d=true→j9 E o t=(match (t.ev x).W8 t with
    | some (⟨u,y⟩,g)=>if u.N2.sh=t0.ty.N2.sh then (match a1J g && !g.contains d && g.all fun i=>!pinned i with
     | true=>.ok (.ptr d []) ((St.t6 g t).s6 d (.var u y))
     | false=>.fail "box: objects") else .fail "box: value"
    | none=>(match t.ev x,t0.ty with
     | .raw (.slice none 0 0),.d0 o u=>.ok (.ptr d []) (t.s6 d (.var (.d0 o u) ([]:List u.den)))
     | .ptr i p,.box _ none _=>.ok (.bx (.ptr i p)) t
     | _,_=>.fail "box: what")):=fun t ht=>by unfold j9; rw [ho]; simp only [h1,h2,ht]; rfl
 rw [he s h3] at h
 split at h
 ·rename_i u y g hgv
  split at h
  ·rename_i hsh
   split at h
   ·rename_i hc
    cases h
    refine C3.obj h2 (e:=.var u y) (g:=g) (fun i hi=>by simpa [AV.g8] using hi) h3 (fun i hi=>by rw [hT]; exact G5.2 (a3e hgv i hi)) (fun t ha hu hf=>?_)
    obtain ⟨e1,e2⟩:=ag ha hxo
    rw [he t hf,e1]
    simp only [(a1j e2).trans hgv,hsh,if_true,hc]
    rfl
   ·cases h
  ·cases h
 ·rename_i hgv
  split at h
  ·rename_i o' u hx ht0
   cases h
   refine C3.obj h2 (e:=.var (.d0 o' u) ([]:List u.den)) (g:=[]) (fun i hi=>by simpa [AV.g8] using hi) h3 (by simp) (fun t ha hu hf=>?_)
   obtain ⟨e1,e2⟩:=ag ha hxo
   have hgt:=(a1j e2).trans hgv
   rw [hx] at e1 hgt
   rw [he t hf,e1]
   simp only [hgt,ht0]
   rfl
  ·rename_i i q o0 u0 hx ht0
   cases h
   refine ⟨[d],fun u=>u,fun j=>if j=d then none else look j s.hp,Trim.id _,b1n h3,by simp [h2],fun j hj=>.inl ⟨x,hxo,by rw [hx]; exact hj⟩,fun t hu ha hn=>?_⟩
   have hf:=b3z hu hn
   obtain ⟨e1,e2⟩:=ag ha hxo
   have hgt:=(a1j e2).trans hgv
   rw [hx] at e1 hgt
   refine ⟨t,?_,hu,⟨fun n=>by simp,fun j=>?_⟩⟩
   ·rw [he t hf,e1]; simp only [hgt,ht0]; rfl
   ·by_cases hj:j=d
    ·subst hj
     rw [if_pos (.inr (by simp)),if_pos rfl]
     exact (hn j (by simp)).1
    ·by_cases hj2:j∈i7 E o s
     ·rw [if_pos (.inl hj2),if_neg hj]; exact a1o ha hj2
     ·rw [if_neg (by simp [hj2,hj])]
  ·cases h

theorem b5k {o:Oper} {T' T:TypeId} {x:Operand} (ho:o.op=.convert T' T x) {p:Prop} {v:AV} {s1:St} (h:(j9 E o s).get=some (p,v,s1)):C3 E o s p v:=by
 have hxo:x∈o.op.operands.toList:=by rw [ho]; simp [Op.operands]
 by_cases hs:(∃ y,s.ev x=.val .str y)∧(∃ b,look T' E.tt=some ⟨.str,b⟩)∧(∃ b,look T E.tt=some ⟨.d0 true (.int .u8),b⟩)
 ·obtain ⟨⟨y,hy⟩,⟨b,hb⟩,⟨b',hb'⟩⟩:=hs
  cases hd:o.dst with
  | none =>
   exfalso
   unfold j9 at h; rw [ho] at h
   simp only [hy,hb,hb',hd] at h
   cases h
  | some d =>
   have he:∀ t,t.ev x=s.ev x→j9 E o t=t.lay d [] (.d0 true (.int .u8)) (List.map (fun b:UInt8=>(b.toNat:Int)) y:List Int):=fun t ht=>by
    unfold j9; rw [ho]; simp only [ht,hy,hb,hb',hd]
   have hp:p=True:=by
    rw [he s rfl] at h
    cases hl:s.lay d [] (.d0 true (.int .u8)) (List.map (fun b:UInt8=>(b.toNat:Int)) y:List Int)<;>rw [hl] at h
    ·cases h
    ·cases h; rfl
    ·exact absurd hl R3
   exact C3.lay hd (g:=[]) (W:=fun r=>r) (fun v s=>by rw [hp]; rfl) (fun _=>rfl) (by simp) h (fun t ha=>he t (ag ha hxo).1)
 ·refine .ro h (fun t ha=>?_) (fun i hi=>?_)
  ·obtain ⟨e1,e2⟩:=ag ha hxo
   unfold j9; rw [ho]; simp only [e1]
   split
   ·rfl
   ·rename_i hx ht1 ht2
    exact absurd ⟨⟨_,hx⟩,⟨_,ht1⟩,⟨_,ht2⟩⟩ hs
   ·rw [b3E e2]
    repeat' (first|rfl|split)
   ·rfl
  ·exfalso
   unfold j9 at hi; rw [ho] at hi
   simp only at hi
   split at hi
   ·cases hi
   ·rename_i hx ht1 ht2
    exact absurd ⟨⟨_,hx⟩,⟨_,ht1⟩,⟨_,ht2⟩⟩ hs
   ·repeat' (split at hi)
    all_goals (cases hi)
   ·cases hi

theorem b2d {o:Oper} {T:TypeId} {x y:Operand} (ho:o.op=.makeSlice T x y) {p:Prop} {v:AV} {s1:St} (h:(j9 E o s).get=some (p,v,s1)):C3 E o s p v:=by
 have hxo:x∈o.op.operands.toList:=by rw [ho]; simp [Op.operands]
 have hyo:y∈o.op.operands.toList:=by rw [ho]; simp [Op.operands]
 have key:∃ t0 b d k n k' m,look T E.tt=some ⟨.d0 true t0,b⟩∧o.dst=some d∧s.ev x=.val (.int k) n∧s.ev y=.val (.int k') m:=by
  unfold j9 at h; rw [ho] at h
  simp only at h
  split at h
  ·unfold a9X at h
   split at h
   ·exact ⟨_,_,_,_,_,_,_,by assumption,by assumption,by assumption,by assumption⟩
   ·cases h
  ·split at h
   ·exact ⟨_,_,_,_,_,_,_,by assumption,by assumption,by assumption,by assumption⟩
   ·cases h
 obtain ⟨t0,b,d,k,n,k',m,h1,h2,h3,h4⟩:=key
 cases hmsl:E.rs.any Ty.b7A with
 | true =>
  have he:∀ t,t.ev x=s.ev x→t.ev y=s.ev y→j9 E o t=(t.lay d [] (.y7 t0) (2,List.replicate (Int.toNat n) t0.p8,List.replicate (Int.toNat m - Int.toNat n) t0.p8)).e8 (@LE.le Int Int.instLEInt 1 m∧@LE.le Int Int.instLEInt 0 n∧@LE.le Int Int.instLEInt n m∧@LE.le Int Int.instLEInt m 140737488355328∧@LE.le Int Int.instLEInt (@HMul.hMul Int Int Int _ m (t0.wb:Nat)) 140737488355328):=fun t e1 e2=>by
   unfold j9; rw [ho]; simp only [e1,e2,hmsl]; unfold a9X; simp only [h1,h2,h3,h4]
  have h0:=h
  rw [he s rfl rfl] at h
  obtain rfl:=a3A h (fun _ _ _=>R3)
  exact C3.lay h2 (g:=[]) (W:=OR.e8 _) (fun _ _=>rfl) (fun _=>rfl) (by simp) h0 (fun t ha=>he t (ag ha hxo).1 (ag ha hyo).1)
 | false =>
  have he:∀ t,t.ev x=s.ev x→t.ev y=s.ev y→j9 E o t=(t.lay d [] (.d0 true t0) (List.replicate (Int.toNat n) t0.p8)).e8 (@LE.le Int Int.instLEInt 0 n∧@LE.le Int Int.instLEInt n m∧@LE.le Int Int.instLEInt m 140737488355328∧@LE.le Int Int.instLEInt (@HMul.hMul Int Int Int _ m (t0.wb:Nat)) 140737488355328):=fun t e1 e2=>by
   unfold j9; rw [ho]; simp only [e1,e2,hmsl,h1,h2,h3,h4]
  have h0:=h
  rw [he s rfl rfl] at h
  obtain rfl:=a3A h (fun _ _ _=>R3)
  exact C3.lay h2 (g:=[]) (W:=OR.e8 _) (fun _ _=>rfl) (fun _=>rfl) (by simp) h0 (fun t ha=>he t (ag ha hxo).1 (ag ha hyo).1)

theorem b6r {v:AV} (h:Alike s t v):v.a2V t=v.a2V s:=by
 unfold AV.a2V
 split
 ·rw [H2 (ob2 h)]
 ·rw [H2 (ob3 h)]
 ·rfl
theorem b1x {v:AV} {i:Nat} {p:List Step} {lo hi:Int} (h:v.a2V s=some (i,p,lo,hi)):v.g8 i=true:=by
 unfold AV.a2V at h
 split at h
 ·split at h
  ·cases h; simp [AV.g8]
  ·cases h
 ·split at h
  ·cases h; simp [AV.g8]
  ·cases h
 ·cases h
theorem c1O {o:Oper} {c:Call} (ho:o.op=.call c) (hc:c.callee=.builtin .copy) {p:Prop} {v:AV} {s1:St} (h:(j9 E o s).get=some (p,v,s1)):C3 E o s p v:=by
 have hxo:∀ x∈c.args.toList,x∈o.op.operands.toList:=fun x hx=>by rw [ho]; exact a0K hx
 have hT:i7 E o s=(s.K5 c.args.toList).E6:=by unfold i7; rw [ho]; simp only [hc]
 have key:∃ x y T,c.args.toList=[x,y]∧∀ t,j9 E o t=a7v E T (t.ev x) (t.ev y) t:=by
  unfold j9 at h
  rw [ho] at h
  simp only [hc] at h
  split at h
  ·rename_i x y T U hargs htys
   exact ⟨x,y,T,hargs,fun t=>by unfold j9; rw [ho]; simp only [hc,hargs,htys]⟩
  ·cases h
 obtain ⟨x,y,T,hargs,he⟩:=key
 rw [he] at h
 have hxm:x∈o.op.operands.toList:=hxo x (by rw [hargs]; simp)
 have hym:y∈o.op.operands.toList:=hxo y (by rw [hargs]; simp)
 unfold a7v at h
 split at h
 ·rename_i i q lo hi u m hd hels
  split at h
  ·rename_i s' hf hck
   simp only [OR.get,Option.some.injEq,Prod.mk.injEq] at h
   obtain ⟨rfl,rfl,_⟩:=h
   obtain ⟨ow,e',hfl⟩:=a6H hf
   have hm:=b1x hd
   refine C3.fill (i:=i) (ow:=ow) (e':=e') (by rw [hT,G5,hargs]; simp [St.K5,AV.g8,hm]) (fun _=>rfl) (fun t ha=>?_)
   rw [he,(ha x hxm).1,(ha y hym).1]
   unfold a7v
   rw [b6r (ha x hxm).2,b3E (ha y hym).2,hd,hels]
   simp only [hfl t ((ha x hxm).2 i hm),hck]
   rfl
  ·cases h
 ·cases h
theorem b93 {o:Oper} {c:Call} (ho:o.op=.call c) (hc:c.callee=.builtin .clear) {p:Prop} {v:AV} {s1:St} (h:(j9 E o s).get=some (p,v,s1)):C3 E o s p v:=by
 have hxo:∀ x∈c.args.toList,x∈o.op.operands.toList:=fun x hx=>by rw [ho]; exact a0K hx
 have hT:i7 E o s=(s.K5 c.args.toList).E6:=by unfold i7; rw [ho]; simp only [hc]
 have key:∃ x T,c.args.toList=[x]∧∀ t,j9 E o t=a4V E T (t.ev x) t:=by
  unfold j9 at h
  rw [ho] at h
  simp only [hc] at h
  split at h
  ·rename_i x T hargs htys
   exact ⟨x,T,hargs,fun t=>by unfold j9; rw [ho]; simp only [hc,hargs,htys]⟩
  ·cases h
 obtain ⟨x,T,hargs,he⟩:=key
 rw [he] at h
 have hxm:x∈o.op.operands.toList:=hxo x (by rw [hargs]; simp)
 unfold a4V at h
 split at h
 ·rename_i i q lo hi b u bts hd hlk
  split at h
  ·rename_i s' hf
   simp only [OR.get,Option.some.injEq,Prod.mk.injEq] at h
   obtain ⟨rfl,rfl,_⟩:=h
   obtain ⟨ow,e',hfl⟩:=a6H hf
   have hm:=b1x hd
   refine C3.fill (i:=i) (ow:=ow) (e':=e') (by rw [hT,G5,hargs]; simp [St.K5,AV.g8,hm]) (fun _=>rfl) (fun t ha=>?_)
   rw [he,(ha x hxm).1]
   unfold a4V
   rw [b6r (ha x hxm).2,hd,hlk]
   simp only [hfl t ((ha x hxm).2 i hm)]
   rfl
  ·cases h
 ·cases h

theorem b6M {o:Oper} {T:TypeId} {m x y:Operand} (ho:o.op=.mapUpdate T m x y) {p:Prop} {v:AV} {s1:St} (h:(j9 E o s).get=some (p,v,s1)):C3 E o s p v:=by
 have hm:m∈o.op.operands.toList:=by rw [ho]; simp [Op.operands]
 have hx:x∈o.op.operands.toList:=by rw [ho]; simp [Op.operands]
 have hy:y∈o.op.operands.toList:=by rw [ho]; simp [Op.operands]
 have hl:∀ t,j9 E o t=a6d E T (t.ev m) (t.ev x) (t.ev y) t:=fun t=>by unfold j9; rw [ho]
 have hT:i7 E o s=(s.ev m).E6:=by unfold i7; rw [ho]
 rw [hl] at h
 have key:∃ j e',s.ev m=.at_ j []∧p=True∧v=.raw undef∧∀ t:St,t.obj j=s.obj j→a6d E T (s.ev m) (s.ev x) (s.ev y) t=.ok (.raw undef) ((t.U3 j true).s6 j e'):=by
  unfold a6d at h
  split at h
  ·rename_i j u a u' z e1 e2 e3
   split at h
   ·rename_i k w l hob
    split at h
    ·rename_i hu
     split at h
     ·rename_i hu'
      split at h
      ·rename_i hmt
       simp only [OR.get,Option.some.injEq,Prod.mk.injEq] at h
       obtain ⟨rfl,rfl,_⟩:=h
       refine ⟨j,.own (.map true k w) (some (a2d (H7 k) (I7 hu a) (I7 hu' z) l)),e1,rfl,rfl,fun t ht=>?_⟩
       unfold a6d
       rw [e1,e2,e3]
       subst hu hu'
       simp only [ht,hob,hmt,dif_pos]
      ·cases h
     ·cases h
    ·cases h
   ·cases h
  ·cases h
 obtain ⟨j,e',e1,rfl,rfl,hk⟩:=key
 refine C3.fill (i:=j) (ow:=true) (e':=e') (by rw [hT,e1]; simp [AV.E6]) (fun _=>rfl) (fun t ha=>?_)
 rw [hl,(ag ha hm).1,(ag ha hx).1,(ag ha hy).1,hk t ((ag ha hm).2 j (by rw [e1]; simp [AV.g8]))]
 rfl

theorem c3X {o:Oper} (hpick:∀ a b c,o.op≠.pick a b c) {p:Prop} {v:AV} {s1:St} (h:(j9 E o s).get=some (p,v,s1)):C3 E o s p v:=by
 have hin:∀ x,x∈o.op.operands.toList↔x∈o.op.operands.toList:=fun _=>Iff.rfl
 cases ho:o.op with
 | move x =>
  have hx:x∈o.op.operands.toList:=by rw [ho]; simp [Op.operands]
  refine .ro h (fun t ha=>?_) (fun i hi=>⟨x,hx,?_⟩)
  ·unfold j9; rw [ho]; simp only [(ag ha hx).1]; rfl
  ·unfold j9 at hi; rw [ho] at hi; exact hi
 | assign x =>
  have hx:x∈o.op.operands.toList:=by rw [ho]; simp [Op.operands]
  refine .ro h (fun t ha=>?_) (fun i hi=>⟨x,hx,?_⟩)
  ·unfold j9; rw [ho]; simp only [(ag ha hx).1]; rfl
  ·unfold j9 at hi; rw [ho] at hi; exact hi
 | load T x =>
  have hx:x∈o.op.operands.toList:=by rw [ho]; simp [Op.operands]
  have hl:∀ t,j9 E o t=U2 E T (t.ev x) t:=fun t=>by unfold j9; rw [ho]
  refine .ro h (fun t ha=>?_) (fun i hi=>⟨x,hx,?_⟩)
  ·obtain ⟨e1,e2⟩:=ag ha hx
   rw [hl,hl,e1]; exact c1p e2
  ·rw [hl] at hi; exact b7w hi
 | nilCheck x =>
  have hx:x∈o.op.operands.toList:=by rw [ho]; simp [Op.operands]
  refine .ro h (fun t ha=>?_) (fun i hi=>⟨x,hx,?_⟩)
  ·unfold j9; rw [ho]; simp only [(ag ha hx).1]; split<;>rfl
  ·unfold j9 at hi; rw [ho] at hi
   simp only at hi
   split at hi<;>first|(cases hi; done)|(rename_i e; rw [e]; exact hi)
 | binOp op T x y T' =>
  have hx:x∈o.op.operands.toList:=by rw [ho]; simp [Op.operands]
  have hy:y∈o.op.operands.toList:=by rw [ho]; simp [Op.operands]
  have hl:∀ t,j9 E o t=a5E E T op (t.ev x) (t.ev y) t:=fun t=>by unfold j9; rw [ho]
  refine .ro h (fun t ha=>?_) (fun i hi=>?_)
  ·rw [hl,hl,(ag ha hx).1,(ag ha hy).1]; exact c3U ..
  ·exfalso
   rw [hl] at hi
   unfold a5E a8F eqA a8C a8E a8D arith at hi
   repeat' (split at hi)
   all_goals (cases hi)
 | unOp op T x =>
  have hx:x∈o.op.operands.toList:=by rw [ho]; simp [Op.operands]
  have hl:∀ t,j9 E o t=unA op (t.ev x) t:=fun t=>by unfold j9; rw [ho]
  refine .ro h (fun t ha=>?_) (fun i hi=>?_)
  ·rw [hl,hl,(ag ha hx).1]; exact c4p ..
  ·exfalso
   rw [hl] at hi
   unfold unA arith at hi
   repeat' (split at hi)
   all_goals (cases hi)
 | convert T' T x=>exact b5k ho h
 | fieldAddr T x n=>exact b2i ho h
 | indexAddr T x y=>exact b2g ho h
 | index T x y=>exact b9L ho h
 | field T x n=>exact b9T ho h
 | slice T x lo hi mx=>exact b9g ho h
 | makeSlice T x y=>exact b2d ho h
 | build T parts=>exact b97 ho h
 | buildSlice T n parts=>exact b0N ho h
 | makeMap T r=>exact b47 ho h
 | lookup T x y ok=>exact b7u ho h
 | mapUpdate T m x y=>exact b6M ho h
 | box T x=>exact c3Q ho h
 | store T a x=>exact b9d ho h
 | extract x n =>
  have hx:x∈o.op.operands.toList:=by rw [ho]; simp [Op.operands]
  refine .ro h (fun t ha=>?_) (fun i hi=>⟨x,hx,?_⟩)
  ·unfold j9; rw [ho]; simp only [(ag ha hx).1]
   split
   ·split<;>rfl
   ·rfl
  ·unfold j9 at hi; rw [ho] at hi
   simp only at hi
   split at hi
   ·rename_i l e
    split at hi
    ·rename_i v hv
     rw [e]; show l.g8 i=true; exact a8n hv hi
    ·cases hi
   ·cases hi
 | makeFunc fn first caps =>
  have hcm:∀ x∈caps.toList,x∈o.op.operands.toList:=fun x hx=>by rw [ho]; simp only [Op.operands]; simp at hx ⊢; exact .inr hx
  have hcs:∀ t,U4 s t o.op.operands.toList→t.K5 caps.toList=s.K5 caps.toList:=fun t ha=>a4Q (fun x hx=>(ag ha (hcm x hx)).1)
  refine .ro h (fun t ha=>?_) (fun i hi=>?_)
  ·unfold j9; rw [ho]
   cases fn with
   | func f=>simp only [hcs t ha]; split<;>rfl
   | _=>rfl
  ·unfold j9 at hi; rw [ho] at hi
   cases fn with
   | func f =>
    simp only at hi
    split at hi
    ·obtain ⟨x,hx,hi⟩:=W3 (s:=s) (i:=i) (xs:=caps.toList) hi
     exact ⟨x,hcm x hx,hi⟩
    ·cases hi
   | _=>cases hi
 | alloc T =>
  have key:∃ t0 d,look T E.tt=some t0∧o.dst=some d∧s.fresh d=true:=by
   unfold j9 at h; rw [ho] at h
   simp only at h
   split at h
   ·split at h
    ·exact ⟨_,_,by assumption,by assumption,by assumption⟩
    ·cases h
   ·cases h
  obtain ⟨t0,d,h1,h2,h3⟩:=key
  have he:∀ t,t.fresh d=true→j9 E o t=.ok (.ptr d []) (t.s6 d (.var t0.ty t0.ty.p8)):=fun t ht=>by unfold j9; rw [ho]; simp only [h1,h2,ht]
  rw [he s h3] at h
  simp only [OR.get,Option.some.injEq,Prod.mk.injEq] at h
  obtain ⟨rfl,rfl,rfl⟩:=h
  exact .obj h2 (g:=[]) (fun i hi=>by simpa [AV.g8] using hi) h3 (by simp) (fun t _ _ ht=>by rw [he t ht]; rfl)
 | call c =>
  cases hc:c.callee with
  | value f=>exact c1T ho hc h
  | builtin b =>
   cases b<;>first
    | (exact c3I ho hc h)
    | (exact c3N ho hc h)
    | (exact b8m ho hc h)
    | (exact c1O ho hc h)
    | (exact b93 ho hc h)
    | (exact a9D ho (.inl hc) h)
    | (exact a9D ho (.inr hc) h)
    | (exfalso; unfold j9 at h; rw [ho] at h; simp only [hc] at h; cases h)
  | _=>exfalso; unfold j9 at h; rw [ho] at h; simp only [hc] at h; cases h
 | pick a b c=>exact absurd ho (hpick a b c)
 | _=>exfalso; unfold j9 at h; rw [ho] at h; cases h

end
end Go.Ex

namespace Go.Ex

def F0 (s t:St):Prop:=(∀ n,look n s.fr=look n t.fr)∧(∀ i,look i s.hp=look i t.hp)

theorem F0.refl (s:St):F0 s s:=⟨fun _=>rfl,fun _=>rfl⟩
theorem F0.symm {s t:St} (h:F0 s t):F0 t s:=⟨fun n=>(h.1 n).symm,fun n=>(h.2 n).symm⟩
theorem F0.trans {s t u:St} (h:F0 s t) (k:F0 t u):F0 s u:=⟨fun n=>(h.1 n).trans (k.1 n),fun n=>(h.2 n).trans (k.2 n)⟩

theorem D7 {m:Nat} {s:St} {d:Option Nat} {v:AV}:look m (s.put d v).fr=if d=some m then some v else look m s.fr:=by
 cases d with
 | none=>simp [St.put]
 | some d =>
  simp only [St.put,p7,Option.some.injEq]
  by_cases e:m=d
  ·subst e; simp
  ·rw [if_neg e,if_neg (fun h=>e h.symm)]

theorem G3 {s:St} {d:Option Nat} {v:AV}:(s.put d v).hp=s.hp:=by cases d<;>rfl

theorem a0s {s:St} {d:Option Nat} {v:AV} (h:uniq s.fr):uniq (s.put d v).fr:=by
 cases d with
 | none=>exact h
 | some d=>exact b2P _ _ h

theorem F0.put {s t:St} (h:F0 s t) (d:Option Nat) (v:AV):F0 (s.put d v) (t.put d v) :=
 ⟨fun n=>by rw [D7,D7,h.1 n],fun i=>by rw [G3,G3,h.2 i]⟩

theorem F0.get {s t:St} (h:F0 s t) (m:Nat):s.get m=t.get m:=by simp only [St.get,h.1 m]
theorem F0.ev {s t:St} (h:F0 s t) (x:Operand):s.ev x=t.ev x:=by cases x<;>first|exact M8 (h.get _)|rfl

theorem N7.eqv {s t:St} (h:F0 s t) {ids:List Nat} (hf:N7 s ids):N7 t ids :=
 fun n hn=>⟨(h.2 n).symm.trans (hf n hn).1,fun m v hv=>(hf n hn).2 m v ((h.1 m).trans hv)⟩

def a7c (s t:St) (L:List Nat):Prop:=∀ m∈L,t.get m=s.get m∧∀ i,(s.get m).g8 i=true→t.obj i=s.obj i

theorem a0w (v:Value) (i:Nat):(ofConst v).g8 i=false:=by
 unfold ofConst
 split
 ·split<;>rfl
 ·rfl
 ·split<;>rfl
 ·rfl

theorem a4R {s:St} {x:Operand} {i:Nat} (h:(s.ev x).g8 i=true):∃ m,x=.tmp m∧(s.get m).g8 i=true:=by
 cases x with
 | tmp m=>exact ⟨m,rfl,a2t h⟩
 | const v=>simp [St.ev,a0w] at h
 | global g=>cases h
 | func f=>cases h

theorem a7c.agree {s t:St} {L:List Nat} (h:a7c s t L) {xs:List Operand} (hL:∀ m,Operand.tmp m∈xs→m∈L):U4 s t xs:=by
 intro x hx
 refine ⟨?_,fun i hi=>?_⟩
 ·cases x with
  | tmp m=>exact M8 (h m (hL m hx)).1
  | _=>rfl
 ·obtain ⟨m,rfl,hm⟩:=a4R hi
  exact (h m (hL m hx)).2 i hm

structure Put (s s1:St) (d:Option Nat) (T ids:List Nat) (f:AV→AV) (h:Nat→Option f7) (v:AV):Prop where
 fr:∀ n,look n s1.fr=if d=some n then some v else (look n s.fr).map f
 hp:∀ i,look i s1.hp=if i∈T∨i∈ids then h i else look i s.hp

section
variable {s t s1 t1:St} {d:Option Nat} {T ids:List Nat} {f:AV→AV} {h:Nat→Option f7} {v:AV}
theorem Put.eqv (hp:Put s s1 d T ids f h v) (he:F0 s t):Put t s1 d T ids f h v :=
 ⟨fun n=>by rw [hp.fr,he.1 n],fun i=>by rw [hp.hp,he.2 i]⟩
theorem Put.det (hp:Put s s1 d T ids f h v) (hp':Put t t1 d T ids f h v) (he:F0 s t):F0 s1 t1 :=
 ⟨fun n=>by rw [hp.fr,hp'.fr,he.1 n],fun i=>by rw [hp.hp,hp'.hp,he.2 i]⟩
theorem Put.get (hp:Put s s1 d T ids f h v) (hf:Trim T f) {m:Nat} (hm:d≠some m):s1.get m=f (s.get m):=by
 simp only [St.get,hp.fr,if_neg hm]
 cases look m s.fr with
 | none=>exact (hf.plain _ rfl).symm
 | some u=>rfl
end

theorem c0L {T:List Nat} {f:AV→AV} (hf:Trim T f):∀ {j:Nat} {l:AV},j9.nth j (f l)=(j9.nth j l).map f:=by
 have nope:∀ {j:Nat} {l:AV},(∀ a b,l≠.cons a b)→j9.nth j l=none:=by
  intro j l h
  cases l with
  | cons a b=>exact absurd rfl (h a b)
  | _=>cases j<;>rfl
 have hn:∀ u:AV,(∀ a b,u≠.cons a b)→∀ a b,f u≠.cons a b:=by
  intro u hu a b e
  cases u with
  | cons a b=>exact absurd rfl (hu a b)
  | H5 l=>rw [hf.H5] at e; cases e
  | s4 g l=>rw [hf.s4] at e; cases e
  | bx l=>rw [hf.bx] at e; cases e
  | rc g l=>rw [hf.rc] at e; cases e
  | ptr i p=>rcases hf.atom _ (rfl:(AV.ptr i p).ref=true) with h|h<;>rw [h] at e<;>cases e
  | at_ i p=>rcases hf.atom _ (rfl:(AV.at_ i p).ref=true) with h|h<;>rw [h] at e<;>cases e
  | sub i p x y=>rcases hf.atom _ (rfl:(AV.sub i p x y).ref=true) with h|h<;>rw [h] at e<;>cases e
  | _=>rw [hf.plain _ rfl] at e; cases e
 intro j
 induction j with
 | zero =>
  intro l
  cases l with
  | cons a b=>rw [hf.cons]; rfl
  | _=>rw [nope (hn _ (by intro a b e; cases e)),nope (by intro a b e; cases e)]; rfl
 | succ j ih =>
  intro l
  cases l with
  | cons a b=>rw [hf.cons]; exact ih
  | _=>rw [nope (hn _ (by intro a b e; cases e)),nope (by intro a b e; cases e)]; rfl

theorem a00 (o:Oper):(∀ v,B7 o v=v)∨(o.guard=none∧∃ x j,o.op=.extract x j∧∀ v,B7 o v=(match v with
  | .H5 l=>(match j9.nth j l with
   | some v=>.H5 (.cons v .nil)
   | none=>.any)
  | _=>.any)):=by
 unfold B7
 split
 ·rename_i x j hg ho; exact .inr ⟨hg,x,j,ho,fun _=>rfl⟩
 ·exact .inl fun _=>rfl

theorem a41 {T:List Nat} {f:AV→AV} (hf:Trim T f) (o:Oper) (v:AV):B7 o (f v)=f (B7 o v):=by
 rcases a00 o with h|⟨_,x,j,_,h⟩
 ·rw [h,h]
 ·rw [h,h]
  have hany:f .any=.any:=hf.plain _ rfl
  cases v with
  | H5 l =>
   rw [hf.H5]
   simp only [c0L hf]
   cases hn:j9.nth j l with
   | none=>exact hany.symm
   | some u =>
    show AV.H5 (.cons (f u) .nil)=f (.H5 (.cons u .nil))
    rw [hf.H5,hf.cons,hf.plain .nil rfl]
  | cons a b=>rw [hf.cons]; exact hany.symm
  | s4 g l=>rw [hf.s4]; exact hany.symm
  | bx l=>rw [hf.bx]; exact hany.symm
  | rc g l=>rw [hf.rc]; exact hany.symm
  | ptr i p=>rcases hf.atom _ (rfl:(AV.ptr i p).ref=true) with e|e<;>rw [e]<;>exact hany.symm
  | at_ i p=>rcases hf.atom _ (rfl:(AV.at_ i p).ref=true) with e|e<;>rw [e]<;>exact hany.symm
  | sub i p x y=>rcases hf.atom _ (rfl:(AV.sub i p x y).ref=true) with e|e<;>rw [e]<;>exact hany.symm
  | _=>rw [hf.plain _ rfl]; try exact hany.symm

theorem a1c {o:Oper} {v:AV} {i:Nat} (h:(B7 o v).g8 i=true):v.g8 i=true:=by
 rcases a00 o with e|⟨_,x,j,_,e⟩
 ·rwa [e] at h
 ·rw [e] at h
  split at h
  ·rename_i l
   split at h
   ·rename_i u hu
    have:u.g8 i=true:=by simpa [AV.g8] using h
    show l.g8 i=true
    exact a8n hu this
   ·cases h
  ·cases h

def a2Q (o:Oper) (s t:St) (L:List Nat):Prop:=∀ m∈L,B7 o (t.get m)=B7 o (s.get m)∧∀ i,(B7 o (s.get m)).g8 i=true→t.obj i=s.obj i

theorem a2Q.plain {o:Oper} (h:∀ v,B7 o v=v) {s t:St} {L:List Nat} (ha:a2Q o s t L):a7c s t L:=fun m hm=>by
 have:=ha m hm
 simpa only [h] using this
theorem F0.a07 {s t:St} (h:F0 s t) (o:Oper) (L:List Nat):a2Q o s t L:=fun m _=>⟨by rw [h.get m],fun i _=>(h.2 i).symm⟩

def Eff (o:Oper) (run:St→Option (Prop×St)) (d:Option Nat) (L T:List Nat) (s:St) (p:Prop):Prop :=
 ∃ v ids f h,Trim T f∧N7 s ids∧(∀ n∈ids,n % 1000=(d.getD 0) % 1000) ∧
  (∀ i,v.g8 i=true→(∃ m∈L,(B7 o (s.get m)).g8 i=true)∨i∈ids) ∧
  ∀ t,uniq t.fr→a2Q o s t L→N7 t ids→∃ t1,run t=some (p,t1)∧uniq t1.fr∧Put t t1 d T ids f h v

section
variable {E:Env} {ops:Array Oper} {s t:St}

theorem b22 {o:Oper} {p:Prop} {s1:St} (h:I9 E o s=some (p,s1)) {L:List Nat} (hL:∀ m,Operand.tmp m∈o.op.operands.toList→m∈L):Eff o (I9 E o) o.dst L (i7 E o s) s p:=by
 rcases a00 o with hvw|⟨hgn,x,j,hop,hvw⟩
 rotate_left
 ·have hd:E7 E.nt o.dst=true:=by
   unfold I9 at h
   split at h
   ·cases h
   ·assumption
  have hr:∀ t,I9 E o t=(match (match t.ev x with|.H5 l=>(match j9.nth j l with|some v=>OR.ok v t|none=>.fail "extract")|_=>.fail "extract").get with|none=>none|some (p,v,s')=>some (p,s'.put o.dst v)):=by
   intro t
   unfold I9 j9
   rw [hd,hop]
   rfl
  have hT:i7 E o s=[]:=by unfold i7; rw [hop]
  rw [hT]
  rw [hr] at h
  have key:∃ m l v,x=.tmp m∧Nat.beq m F8=false∧s.get m=.H5 l∧j9.nth j l=some v∧p=True:=by
   cases x with
   | tmp m =>
    cases hv:s.ev (.tmp m) with
    | H5 l =>
     rw [hv] at h
     cases hn:j9.nth j l with
     | some v =>
      simp only [hn,OR.get,Option.some.injEq,Prod.mk.injEq] at h
      exact ⟨m,l,v,rfl,a9P hv nofun,V4 hv nofun,hn,h.1.symm⟩
     | none=>simp only [hn,OR.get] at h; cases h
    | _ =>
     rw [hv] at h
     cases h
   | const c =>
    exfalso
    have:∀ l,s.ev (.const c)≠.H5 l:=by
     intro l e
     simp only [St.ev] at e
     unfold ofConst at e
     repeat' split at e
     all_goals cases e
    revert h
    cases hv:s.ev (.const c) with
    | H5 l=>exact absurd hv (this l)
    | _=>intro h; cases h
   | global g=>cases h
   | func f=>cases h
  obtain ⟨m,l,v,rfl,hmg,hm,hn,rfl⟩:=key
  have hmL:m∈L:=hL m (by rw [hop]; simp [Op.operands])
  have hvm:B7 o (s.get m)=.H5 (.cons v .nil):=by rw [hvw,hm]; simp only [hn]
  refine ⟨v,[],fun u=>u,fun _=>none,Trim.id _,by simp [N7],by simp,fun i hi=>.inl ⟨m,hmL,by rw [hvm]; simpa [AV.g8] using hi⟩,fun t hu ha _=>?_⟩
  have e1:=(ha m hmL).1
  rw [hvm,hvw] at e1
  have htv:∃ l',t.get m=.H5 l'∧j9.nth j l'=some v:=by
   split at e1
   ·rename_i l' hl'
    split at e1
    ·rename_i v' hv'
     cases e1
     exact ⟨l',hl',hv'⟩
    ·cases e1
   ·cases e1
  obtain ⟨l',f1,f2⟩:=htv
  have hte:t.ev (.tmp m)=.H5 l':=b6o hmg f1
  exact ⟨t.put o.dst v,by rw [hr,hte]; simp only [f2]; rfl,a0s hu,⟨fun n=>by rw [D7]; simp,fun i=>by rw [G3]; simp⟩⟩
 have hvS:∀ {t:St},a2Q o s t L→a7c s t L:=fun ha=>ha.plain hvw
 by_cases hp:∃ a b c,o.op=.pick a b c
 ·obtain ⟨c,a,b,ho⟩:=hp
  have hd:E7 E.nt o.dst=true:=by
   unfold I9 at h
   split at h
   ·cases h
   ·assumption
  have hr:∀ t,I9 E o t=(match t.ev c with|.val .bool g=>some (True,t.put o.dst (match g with|true=>t.ev a|false=>t.ev b))|_=>none):=by
   intro t
   unfold I9
   rw [hd,ho]
   rfl
  have hT:i7 E o s=[]:=by unfold i7; rw [ho]
  rw [hT]
  rw [hr] at h
  have hops:o.op.operands.toList=[c,a,b]:=by rw [ho]; rfl
  rw [hops] at hL
  have key:∃ g:Bool,s.ev c=.val .bool g:=by
   split at h
   ·exact ⟨_,by assumption⟩
   ·cases h
  obtain ⟨g,hg⟩:=key
  rw [hg] at h
  simp only [Option.some.injEq,Prod.mk.injEq] at h
  obtain ⟨rfl,rfl⟩:=h
  refine ⟨(if g=true then s.ev a else s.ev b),[],fun u=>u,fun _=>none,Trim.id _,by simp [N7],by simp,?_,?_⟩
  ·intro i hi
   cases g with
   | true=>obtain ⟨m,hm,hi⟩:=a4R hi; exact .inl ⟨m,hL m (by simp [← hm]),by rw [hvw]; exact hi⟩
   | false=>obtain ⟨m,hm,hi⟩:=a4R hi; exact .inl ⟨m,hL m (by simp [← hm]),by rw [hvw]; exact hi⟩
  ·intro t hu ha _
   have hag:=(hvS ha).agree hL
   have e1:=(hag c (by simp)).1
   have e2:=(hag a (by simp)).1
   have e3:=(hag b (by simp)).1
   refine ⟨_,by rw [hr,e1,hg,e2,e3],a0s hu,⟨fun n=>by rw [D7]; cases g<;>simp,fun i=>by rw [G3]; simp⟩⟩
 ·have hp':∀ a b c,o.op≠.pick a b c:=fun a b c e=>hp ⟨a,b,c,e⟩
  have hd:E7 E.nt o.dst=true:=by
   unfold I9 at h
   split at h
   ·cases h
   ·assumption
  have hr:∀ t,I9 E o t=(match (j9 E o t).get with|none=>none|some (p,v,s')=>some (p,s'.put o.dst v)):=by
   intro t
   unfold I9
   rw [hd]
   cases ho:o.op<;>first|rfl|exact absurd ho (hp' _ _ _)
  rw [hr] at h
  split at h
  ·cases h
  ·rename_i p' v s' hg
   cases h
   obtain ⟨ids,f,h,k1,k2,k3,k4,k5⟩:=c3X hp' hg
   refine ⟨v,ids,f,h,k1,k2,k3,?_,?_⟩
   ·intro i hi
    rcases k4 i hi with ⟨x,hx,hm⟩|hm
    ·obtain ⟨m,rfl,hm⟩:=a4R hm
     exact .inl ⟨m,hL m hx,by rw [hvw]; exact a2t hm⟩
    ·exact .inr hm
   ·intro t hu ha hf
    obtain ⟨t1,e1,e2,e3⟩:=k5 t hu ((hvS ha).agree hL) hf
    exact ⟨t1.put o.dst v,by rw [hr,e1],a0s e2,⟨fun n=>by rw [D7,e3.fr],fun i=>by rw [G3,e3.hp]⟩⟩

theorem a8j {g:Nat} {v:AV} (hv:s.get g=v) (hn:v≠.any):F0 s (s.put (some g) v):=by
 refine ⟨fun n=>?_,fun i=>rfl⟩
 rw [D7]
 split
 ·rename_i e
  cases e
  simp only [St.get] at hv
  cases hl:look g s.fr with
  | none=>rw [hl] at hv; exact absurd hv.symm hn
  | some w=>rw [hl] at hv; simp at hv; rw [hv]
 ·rfl

theorem J3 {o:Oper} {m:Nat} (hm:Operand.tmp m∈o.op.operands.toList):m∈looks ops o:=List.mem_append_left _ (List.mem_filterMap.2 ⟨_,hm,rfl⟩)

theorem a9b {o:Oper} {i:Nat} (hi:i∈i7 E o s):∃ m∈looks ops o,(s.get m).g8 i=true:=by
 obtain ⟨x,hx,hm⟩:=a48 hi
 obtain ⟨m,rfl,hm⟩:=a4R hm
 exact ⟨m,J3 hx,a2t hm⟩

theorem b86 {o:Oper} (h:∀ m∈looks ops o,t.get m=s.get m):i7 E o t=i7 E o s :=
 a8f (fun x hx=>by
  cases x with
  | tmp m=>exact M8 (h m (J3 hx))
  | _=>rfl)

theorem b4U {o:Oper} {i:Nat} (hi:i∈i7 E o s):∃ m∈looks ops o,(B7 o (s.get m)).g8 i=true:=by
 rcases a00 o with h|⟨_,x,j,hop,_⟩
 ·obtain ⟨m,hm,hmi⟩:=a9b (ops:=ops) hi
  exact ⟨m,hm,by rw [h]; exact hmi⟩
 ·unfold i7 at hi; rw [hop] at hi; cases hi

theorem a23 {o:Oper} (h:∀ m∈looks ops o,B7 o (t.get m)=B7 o (s.get m)):i7 E o t=i7 E o s:=by
 rcases a00 o with e|⟨_,x,j,hop,_⟩
 ·exact b86 (fun m hm=>by have:=h m hm; simpa only [e] using this)
 ·unfold i7; rw [hop]

theorem V2 {o:Oper} (_hu:uniq s.fr) {p:Prop} {s1:St} (h:u6 E ops o s=some (p,s1)):Eff o (u6 E ops o) o.dst (looks ops o) (i7 E o s) s p:=by
 have hL:∀ m,Operand.tmp m∈o.op.operands.toList→m∈looks ops o:=fun m hm=>J3 hm
 cases hg:o.guard with
 | none =>
  have hr:∀ t,u6 E ops o t=I9 E o t:=fun t=>by unfold u6; rw [hg]
  rw [hr] at h
  have:=b22 h hL
  rwa [← (funext hr:u6 E ops o=I9 E o)] at this
 | some jw =>
  obtain ⟨j,want⟩:=jw
  have hvw:∀ v,B7 o v=v:=by
   rcases a00 o with e|⟨hgn,_⟩
   ·exact e
   ·rw [hg] at hgn; cases hgn
  have hvS:∀ {t:St} {L:List Nat},a2Q o s t L→a7c s t L:=fun ha=>ha.plain hvw
  cases hs:a1u ops j with
  | none=>unfold u6 at h; rw [hg] at h; simp [hs] at h
  | some g =>
   have hgL:g∈looks ops o:=by unfold looks; rw [hg]; simp [hs]
   have hr:∀ t,u6 E ops o t=(match t.ev (.tmp g) with
    | .raw (.tuple _)=>match E7 E.nt o.dst with
     | true=>some (True,t.put o.dst (.raw undef))
     | false=>none
    | .val .bool b=>match E7 E.nt o.dst with
     | false=>none
     | true=>match b == want with
      | true=>I9 E o (t.put (some g) (.val .bool b))
      | false=>some (True,(t.put (some g) (.val .bool b)).put o.dst (.raw undef))
    | _=>none):=fun t=>by unfold u6; rw [hg]; dsimp only; rw [hs]; rfl
   have skip:(∀ t,uniq t.fr→t.ev (.tmp g)=s.ev (.tmp g)→∃ t1,u6 E ops o t=some (True,t1)∧uniq t1.fr∧F0 t1 (t.put o.dst (.raw undef)))→Eff o (u6 E ops o) o.dst (looks ops o) (i7 E o s) s True:=by
    intro hrun
    refine ⟨.raw undef,[],fun u=>u,fun i=>look i s.hp,Trim.id _,by simp [N7],by simp,fun i hi=>by simp [AV.g8] at hi,fun t hut ha _=>?_⟩
    have ha:=hvS ha
    obtain ⟨t1,e1,e2,e3⟩:=hrun t hut (M8 (ha g hgL).1)
    refine ⟨t1,e1,e2,⟨fun n=>by rw [e3.1,D7]; simp,fun i=>?_⟩⟩
    rw [e3.2,G3]
    split
    ·rename_i hi
     obtain ⟨m,hm,hmi⟩:=a9b (ops:=ops) (by simpa using hi:i∈i7 E o s)
     exact (ha m hm).2 i hmi
    ·rfl
   rw [hr] at h
   cases hv:s.ev (.tmp g) with
   | raw w =>
    rw [hv] at h
    cases w with
    | tuple vs =>
     simp only at h
     cases hd:E7 E.nt o.dst with
     | false=>rw [hd] at h; cases h
     | true =>
      rw [hd] at h
      simp only [Option.some.injEq,Prod.mk.injEq] at h
      obtain ⟨rfl,rfl⟩:=h
      exact skip (fun t hut ht=>⟨_,by rw [hr,ht,hv]; simp only [hd],a0s hut,F0.refl _⟩)
    | _=>cases h
   | val u b =>
    rw [hv] at h
    cases u with
    | bool =>
     simp only at h
     cases hd:E7 E.nt o.dst with
     | false=>rw [hd] at h; cases h
     | true =>
      rw [hd] at h
      simp only at h
      cases hb:(b == want) with
      | false =>
       rw [hb] at h
       simp only [Option.some.injEq,Prod.mk.injEq] at h
       obtain ⟨rfl,rfl⟩:=h
       exact skip (fun t hut ht=>⟨_,by rw [hr,ht,hv]; simp only [hd,hb],a0s (a0s hut),((a8j (V4 (ht.trans hv) (by simp)) (by simp)).symm.put _ _)⟩)
      | true =>
       rw [hb] at h
       simp only at h
       have hsame:=a8j (V4 hv (by simp)) (by simp)
       obtain ⟨v,ids,f,hh,k1,k2,k3,k4,k5⟩:=b22 h hL
       have hTe:i7 E o (s.put (some g) (.val .bool b))=i7 E o s:=a8f (fun x _=>(hsame.ev x).symm)
       rw [hTe] at k1 k5
       refine ⟨v,ids,f,hh,k1,k2.eqv hsame.symm,k3,?_,?_⟩
       ·intro i hi
        rcases k4 i hi with ⟨m,hm,hmi⟩|hm
        ·exact .inl ⟨m,hm,by rw [hsame.get]; exact hmi⟩
        ·exact .inr hm
       ·intro t hut ha hf
        have ha:=hvS ha
        have htg:t.ev (.tmp g)=.val .bool b:=(M8 (ha g hgL).1).trans hv
        have hst:=a8j (V4 htg (by simp)) (by simp)
        obtain ⟨t1,e1,e2,e3⟩:=k5 (t.put (some g) (.val .bool b)) (a0s hut) (fun m hm=>by
         rw [← hst.get,← hsame.get,hvw,hvw]
         refine ⟨(ha m hm).1,fun i hi=>?_⟩
         have:=(ha m hm).2 i hi
         simpa [St.obj,G3] using this) (hf.eqv hst)
        refine ⟨t1,by rw [hr,htg]; simp only [hd,hb,e1],e2,e3.eqv hst.symm⟩
    | _=>cases h
   | _=>rw [hv] at h; cases h

theorem a6s {o:Oper} (hu:uniq s.fr) (he:F0 s t) (ht:uniq t.fr) {p:Prop} {s1:St} (h:u6 E ops o s=some (p,s1)):∃ t1,u6 E ops o t=some (p,t1)∧uniq t1.fr∧F0 s1 t1:=by
 obtain ⟨v,ids,f,hh,k1,k2,k3,k4,k5⟩:=V2 hu h
 obtain ⟨s1',e1,_,e3⟩:=k5 s hu ((F0.refl s).a07 _ _) k2
 rw [h] at e1; cases e1
 obtain ⟨t1,f1,f2,f3⟩:=k5 t ht (he.a07 _ _) (k2.eqv he)
 exact ⟨t1,f1,f2,e3.det f3 he⟩

theorem C4 {o:Oper} (hu:uniq s.fr) {p:Prop} {s1:St} (h:u6 E ops o s=some (p,s1)):uniq s1.fr:=by
 obtain ⟨t1,h1,h2,_⟩:=a6s hu (F0.refl s) hu h
 rw [h] at h1; cases h1; exact h2

theorem a9S:∀ {v:AV} {i:Nat},v.clean=true→v.g8 i=false:=by
 intro v
 induction v with
 | cons a b iha ihb =>
  intro i h
  simp only [AV.clean,Bool.and_eq_true] at h
  simp [AV.g8,iha h.1,ihb h.2]
 | H5 l ih=>intro i h; exact ih h
 | s4 f l ih=>intro i h; exact ih h
 | bx l ih=>intro i h; exact ih h
 | rc f l ih=>intro i h; exact ih h
 | ptr i p=>intro i h; cases h
 | at_ i p=>intro i h; cases h
 | sub i p a b=>intro i h; cases h
 | _=>intro i h; rfl

theorem b43 {o:Oper} (hu:uniq s.fr) {p:Prop} {s1:St} (h:u6 E ops o s=some (p,s1)) {m:Nat} (hm:o.dst≠some m) (hc:(s.get m).clean=true):(s1.get m).clean=true:=by
 obtain ⟨v,ids,f,hh,k1,k2,k3,k4,k5⟩:=V2 hu h
 obtain ⟨s1',e1,_,e3⟩:=k5 s hu ((F0.refl s).a07 _ _) k2
 rw [h] at e1; cases e1
 rw [e3.get k1 hm,k1.fix _ (fun i _=>a9S hc)]
 exact hc

end
end Go.Ex

namespace Go.Ex

section
variable {E:Env} {ops:Array Oper} {s t:St}

theorem get_some {m:Nat} {v:AV} (h:look m s.fr=some v):s.get m=v:=by simp [St.get,h]
theorem c1B {m i:Nat} (h:(s.get m).g8 i=true):∃ v,look m s.fr=some v∧v.g8 i=true:=by
 simp only [St.get] at h
 cases hl:look m s.fr with
 | none=>rw [hl] at h; cases h
 | some v=>rw [hl] at h; exact ⟨v,rfl,h⟩

theorem a1Q {x y:Oper} (h:indep ops x y=true):(∀ d,x.dst=some d→d∉looks ops y)∧(∀ d,y.dst=some d→d∉looks ops x)∧(x.dst.getD 0) % 1000≠(y.dst.getD 0) % 1000:=by
 simp only [indep,Bool.and_eq_true,Bool.not_eq_true',c0e] at h
 obtain ⟨⟨h3,h4⟩,h5⟩:=h
 refine ⟨?_,?_,fun e=>?_⟩
 ·intro d hd
  rw [hd] at h3
  simp only [Bool.and_eq_true,Bool.not_eq_true'] at h3
  intro hm
  have:=h3.1
  simp [hm] at this
 ·intro d hd
  rw [hd] at h4
  simp only [Bool.not_eq_true'] at h4
  intro hm
  simp [hm] at h4
 ·rw [e] at h5
  simp at h5

theorem a2b {ids:List Nat} (hn:N7 s ids) {n m:Nat} (h:n∈ids):(s.get m).g8 n=false:=by
 cases hm:(s.get m).g8 n with
 | false=>rfl
 | true =>
  obtain ⟨v,hv,hvi⟩:=c1B hm
  rw [(hn n h).2 m v hv] at hvi; cases hvi

theorem c3v {u:AV} (hr:u.ref=true) {i j:Nat} (h1:u.g8 i=true) (h2:u.g8 j=true):i=j:=by
 cases u<;>simp only [AV.ref] at hr<;>first|(cases hr; done)|(simp only [AV.g8] at h1 h2; exact (Nat.eq_of_beq_eq_true h1).trans (Nat.eq_of_beq_eq_true h2).symm)

theorem b7j {u:AV} (h:u.plain=true) {i:Nat}:u.g8 i=false:=by
 cases u<;>simp only [AV.plain] at h<;>first|rfl|(cases h; done)

theorem Trim.stay {T:List Nat} {f:AV→AV} (hf:Trim T f) {n:Nat} (hn:n∉T):∀ u:AV,u.g8 n=true→(f u).g8 n=true:=by
 refine AV.shape _ (fun u hu h=>?_) (fun u hu h=>?_) ?_ ?_ ?_ ?_ ?_
 ·rw [b7j hu] at h; cases h
 ·rw [hf.a5v u hu (fun i hi=>?_)]
  ·exact h
  ·cases hm:u.g8 i with
   | false=>rfl
   | true=>exact absurd (c3v hu hm h▸hi) hn
 ·intro a b ha hb h
  rw [hf.cons]
  simp only [AV.g8,Bool.or_eq_true] at h ⊢
  exact h.imp ha hb
 ·intro l hl h; rw [hf.H5]; exact hl h
 ·intro k l hl h; rw [hf.s4]; exact hl h
 ·intro l hl h; rw [hf.bx]; exact hl h
 ·intro k l hl h; rw [hf.rc]; exact hl h

theorem swap {x y:Oper} (hi:indep ops x y=true) (hu:uniq s.fr) (hx:∀ d,x.dst=some d→(s.get d).clean=true) {p q:Prop} {s1 s2:St} (h1:u6 E ops x s=some (p,s1)) (h2:u6 E ops y s1=some (q,s2))
  (hP:a2y ops x s (i7 E x s) y (i7 E y s1)) :
  ∃ s1' s2',u6 E ops y s=some (q,s1')∧u6 E ops x s1'=some (p,s2')∧uniq s1'.fr∧uniq s2'.fr∧F0 s2' s2∧i7 E y s=i7 E y s1∧i7 E x s1'=i7 E x s ∧
   (∀ m∈looks ops x,B7 x (s1'.get m)=B7 x (s.get m))∧∀ (z:Oper) m,∀ i∈i7 E x s,(B7 z (s1'.get m)).g8 i=true→(B7 z (s.get m)).g8 i=true:=by
 obtain ⟨ax,ay,hmod⟩:=a1Q hi
 obtain ⟨P1,P2,P3⟩:=hP
 have hu1:=C4 hu h1
 obtain ⟨v,ids,f,g,k1,k2,k3,k4,k5⟩:=V2 hu h1
 obtain ⟨_,e1,_,hs1⟩:=k5 s hu ((F0.refl s).a07 _ _) k2
 rw [h1] at e1; cases e1
 obtain ⟨v',ids',f',g',m1,m2,m3,m4,m5⟩:=V2 hu1 h2
 obtain ⟨_,e2,_,hs2⟩:=m5 s1 hu1 ((F0.refl s1).a07 _ _) m2
 rw [h2] at e2; cases e2
 have hdd:∀ d,x.dst=some d→y.dst=some d→False:=fun d e1 e2=>hmod (by rw [e1,e2])
 -- what y looks at has not turned
 have hget:∀ m∈looks ops y,B7 y (s1.get m)=B7 y (s.get m):=by
  intro m hm
  rw [hs1.get k1 (fun e=>ax m e hm),a41 k1,k1.fix _ (fun i hi=>P1 m hm i hi)]
 have hTy:i7 E y s=i7 E y s1:=(a23 hget).symm
 have hTy2:∀ i∈i7 E y s1,∃ m∈looks ops y,(B7 y (s.get m)).g8 i=true:=by
  intro i hi
  obtain ⟨m,hm,hmi⟩:=b4U (ops:=ops) hi
  exact ⟨m,hm,by rw [← hget m hm]; exact hmi⟩
 have d1:∀ i∈i7 E x s,i∉i7 E y s1:=by
  intro i hi hj
  obtain ⟨m,hm,hmi⟩:=hTy2 i hj
  rw [P1 m hm i hi] at hmi; cases hmi
 have d2:∀ i∈ids,i∉i7 E y s1:=by
  intro i hi hj
  obtain ⟨m,hm,hmi⟩:=hTy2 i hj
  have hmi:=a1c hmi
  rw [a2b k2 hi] at hmi; cases hmi
 have d3:∀ i∈i7 E x s,i∉ids':=fun i hi hj=>P3 i hi (m3 i hj)
 have d4:∀ i∈ids,i∉ids':=fun i hi hj=>hmod ((k3 i hi).symm.trans (m3 i hj))
 have hlook:∀ i,i∉i7 E x s→i∉ids→look i s1.hp=look i s.hp:=fun i h1 h2=>by rw [hs1.hp,if_neg (by rintro (h|h); exact h1 h; exact h2 h)]
 have hag:a2Q y s1 s (looks ops y):=by
  intro m hm
  refine ⟨(hget m hm).symm,fun i hi=>?_⟩
  rw [hget m hm] at hi
  refine (hlook i (fun h=>?_) (fun h=>?_)).symm
  ·rw [P1 m hm i h] at hi; cases hi
  ·have hi:=a1c hi
   rw [a2b k2 h] at hi; cases hi
 have hfr':N7 s ids':=by
  intro n hn
  refine ⟨?_,fun m w hw=>?_⟩
  ·rw [← hlook n (fun h=>d3 n h hn) (fun h=>d4 n h hn)]; exact (m2 n hn).1
  ·by_cases hd:x.dst=some m
   ·have:=hx m hd
    rw [get_some hw] at this
    exact a9S this
   ·cases hwn:w.g8 n with
    | false=>rfl
    | true =>
     have:=k1.stay (fun h=>d3 n h hn) w hwn
     have h3:=(m2 n hn).2 m (f w) (by rw [hs1.fr,if_neg hd,hw]; rfl)
     rw [this] at h3; cases h3
 obtain ⟨s1',f1,fu,hs1'⟩:=m5 s hu hag hfr'
 have hget2:∀ m∈looks ops x,B7 x (s1'.get m)=B7 x (s.get m):=by
  intro m hm
  rw [hs1'.get m1 (fun e=>ay m e hm),a41 m1,m1.fix _ (fun i hi=>P2 m hm i hi)]
 have hag2:a2Q x s s1' (looks ops x):=by
  intro m hm
  refine ⟨hget2 m hm,fun i hi=>?_⟩
  show look i s1'.hp=look i s.hp
  rw [hs1'.hp,if_neg]
  rintro (h|h)
  ·rw [P2 m hm i h] at hi; cases hi
  ·have hi:=a1c hi
   rw [a2b hfr' h] at hi; cases hi
 -- what y yields speaks of nothing that x takes or lays
 have hv':∀ i,v'.g8 i=true→i∉i7 E x s∧i∉ids:=by
  intro i hi
  rcases m4 i hi with ⟨m,hm,hmi⟩|hmi
  ·rw [hget m hm] at hmi
   refine ⟨fun h=>?_,fun h=>?_⟩
   ·rw [P1 m hm i h] at hmi; cases hmi
   ·have hmi:=a1c hmi
    rw [a2b k2 h] at hmi; cases hmi
  ·exact ⟨fun h=>d3 i h hmi,fun h=>d4 i h hmi⟩
 have hv:∀ i,v.g8 i=true→i∉i7 E y s1:=by
  intro i hi
  rcases k4 i hi with ⟨m,hm,hmi⟩|hmi
  ·exact fun h=>by rw [P2 m hm i h] at hmi; cases hmi
  ·exact d2 i hmi
 have hfr2:N7 s1' ids:=by
  intro n hn
  refine ⟨?_,fun m w hw=>?_⟩
  ·rw [hs1'.hp,if_neg]
   ·exact (k2 n hn).1
   ·rintro (h|h)
    ·exact d2 n hn h
    ·exact d4 n hn h
  ·rw [hs1'.fr] at hw
   split at hw
   ·cases hw
    cases hm:v'.g8 n with
    | false=>rfl
    | true=>exact absurd hn (hv' n hm).2
   ·cases hl:look m s.fr with
    | none=>rw [hl] at hw; cases hw
    | some u =>
     rw [hl] at hw
     cases hw
     cases hm:(f' u).g8 n with
     | false=>rfl
     | true=>have:=m1.g8 u hm; rw [(k2 n hn).2 m u hl] at this; cases this
 obtain ⟨s2',g1,gu,hs2'⟩:=k5 s1' fu hag2 hfr2
 refine ⟨s1',s2',f1,g1,fu,gu,⟨fun n=>?_,fun i=>?_⟩,hTy,a23 hget2,hget2,?_⟩
 ·rw [hs2'.fr,hs2.fr,hs1'.fr,hs1.fr]
  by_cases a:x.dst=some n
  ·rw [if_pos a,if_neg (fun b=>hdd n a b),if_pos a,Option.map_some,m1.fix v]
   intro i hi
   cases hm:v.g8 i with
   | false=>rfl
   | true=>exact absurd hi (hv i hm)
  ·rw [if_neg a,if_neg a]
   by_cases b:y.dst=some n
   ·rw [if_pos b,if_pos b,Option.map_some,k1.fix v']
    intro i hi
    cases hm:v'.g8 i with
    | false=>rfl
    | true=>exact absurd hi (hv' i hm).1
   ·rw [if_neg b,if_neg b,Option.map_map,Option.map_map]
    congr 1
    funext u
    exact k1.comm m1 u
 ·rw [hs2'.hp,hs2.hp,hs1'.hp,hs1.hp]
  by_cases a:i∈i7 E x s∨i∈ids
  ·rw [if_pos a,if_neg,if_pos a]
   rintro (b|b)
   ·rcases a with a|a
    ·exact d1 i a b
    ·exact d2 i a b
   ·rcases a with a|a
    ·exact d3 i a b
    ·exact d4 i a b
  ·rw [if_neg a,if_neg a]
 ·intro z m i hi hm
  by_cases b:y.dst=some m
  ·have:s1'.get m=v':=get_some (by rw [hs1'.fr,if_pos b])
   rw [this] at hm
   exact absurd hi (hv' i (a1c hm)).1
  ·rw [hs1'.get m1 b,a41 m1] at hm
   exact m1.g8 _ hm

end
end Go.Ex

namespace Go.Ex

section
variable {E:Env} {ops:Array Oper} {M:Nat→Nat} {s t:St}

def rem (ops:Array Oper) (l:List Nat):List Oper:=l.filterMap fun i=>ops[i]?

theorem a2a {i:Nat} {o:Oper} {l:List Nat} (h:ops[i]?=some o):rem ops (i::l)=o::rem ops l:=by simp [rem,h]
theorem a1r {l m:List Nat}:rem ops (l++m)=rem ops l++rem ops m:=by simp [rem,List.filterMap_append]

def F4 (s:St) (l:List Oper):Prop:=∀ o∈l,∀ d,o.dst=some d→(s.get d).clean=true

def I0:List Oper→Prop
 | []=>True
 | o::l=>(∀ d,o.dst=some d→∀ x∈l,x.dst≠some d)∧I0 l

theorem F4.sub {l l':List Oper} (h:F4 s l) (hs:∀ o∈l',o∈l):F4 s l':=fun o ho=>h o (hs o ho)

def nl (ops:Array Oper) (l:List Nat):List Nat:=l.filter (fun j=>!a2h ops j)
theorem a9x {l m:List Nat}:nl ops (l++m)=nl ops l++nl ops m:=by simp [nl]
theorem b9x {l:List Nat} {i:Nat} (hi:i<ops.size) (h:∀ j∈l,j<i) (hm:∀ j∈l,((A3 ops.toList []).getD i 0).testBit j=false):nl ops l=l :=
 List.filter_eq_self.2 (fun j hj=>by
  cases e:a2h ops j with
  | false=>rfl
  | true =>
   unfold a2h at e
   rw [List.all_eq_true] at e
   have:=e i (List.mem_range.2 hi)
   rw [hm j hj,show Nat.blt j i=true by rw [Nat.blt_eq]; exact h j hj] at this
   cases this)
theorem b5d {j:Nat} (h:a2h ops j=false):j+1<ops.size:=by
 rcases Nat.lt_or_ge (j+1) ops.size with h1|h1
 ·exact h1
 ·exfalso
  have:a2h ops j=true:=by
   unfold a2h
   rw [List.all_eq_true]
   intro i hi
   have:=List.mem_range.1 hi
   have:Nat.blt j i=false:=by
    cases e:Nat.blt j i with
    | false=>rfl
    | true=>rw [Nat.blt_eq] at e; omega
   rw [this]; rfl
  rw [this] at h; cases h
theorem b9w {l:List Nat}:∀ o∈rem ops (nl ops l),o∈rem ops l:=fun o ho=>by
 obtain ⟨j,h1,h2⟩:=List.mem_filterMap.1 ho
 exact List.mem_filterMap.2 ⟨j,(List.mem_filter.1 h1).1,h2⟩

theorem F4.step {o:Oper} {l:List Oper} (hu:uniq s.fr) (hc:F4 s l) (hd:∀ x∈l,∀ d,x.dst=some d→o.dst≠some d) {p:Prop} {s1:St} (h:u6 E ops o s=some (p,s1)):F4 s1 l :=
 fun x hx d hxd=>b43 hu h (hd x hx d hxd) (hc x hx d hxd)

def c43 (E:Env) (ops:Array Oper) (acc acc':List (Nat×St)):Prop :=
 ∀ e'∈acc',∃ e∈acc,e.1=e'.1∧∀ x,ops[e.1]?=some x→(∀ m∈looks ops x,B7 x (e'.2.get m)=B7 x (e.2.get m))∧i7 E x e'.2=i7 E x e.2∧∀ (z:Oper) m,∀ k∈i7 E x e.2,(B7 z (e'.2.get m)).g8 k=true→(B7 z (e.2.get m)).g8 k=true

theorem a2y.b3w {x:Oper} {sx sx':St} {y:Oper} {Ty Ty':List Nat} (h:a2y ops x sx (i7 E x sx) y Ty) (h1:∀ m∈looks ops x,B7 x (sx'.get m)=B7 x (sx.get m)) (h2:i7 E x sx'=i7 E x sx) (h3:∀ (z:Oper) m,∀ k∈i7 E x sx,(B7 z (sx'.get m)).g8 k=true→(B7 z (sx.get m)).g8 k=true) (hT:Ty'=Ty) :
  a2y ops x sx' (i7 E x sx') y Ty':=by
 subst hT
 obtain ⟨P1,P2,P3⟩:=h
 rw [h2]
 refine ⟨fun m hm i hi=>?_,fun m hm i hi=>by rw [h1 m hm]; exact P2 m hm i hi,P3⟩
 cases hh:(B7 y (sx'.get m)).g8 i with
 | false=>rfl
 | true=>have:=h3 y m i hi hh; rw [P1 m hm i hi] at this; cases this

theorem a3X {o:Oper} (h:F0 s t):i7 E o t=i7 E o s:=a8f (fun x _=>(h.ev x).symm)

theorem a5c:∀ {l:List Nat} {acc acc':List (Nat×St)} {s t s':St},c43 E ops acc acc'→uniq s.fr→F0 s t→uniq t.fr→X3 E ops M acc l s s'→∃ t',X3 E ops M acc' l t t'∧F0 s' t'
 | [],acc,acc',s,t,s',_,_,he,_,h=>⟨t,rfl,by rw [← show s=s' from h]; exact he⟩
 | i::l,acc,acc',s,t,s',hg,hu,he,ht,⟨o,ho,hc,p,s1,h1,h2,h3⟩=>by
  obtain ⟨t1,k1,k2,k3⟩:=a6s hu he ht h1
  obtain ⟨t',m1,m2⟩:=a5c (acc:=(i,s)::acc) (acc':=(i,t)::acc') (fun e' he'=>by
   rcases List.mem_cons.1 he' with rfl|he'
   ·exact ⟨(i,s),by simp,rfl,fun x _=>⟨fun m _=>by show B7 x (t.get m)=B7 x (s.get m); rw [he.get m],a3X he,fun z m k _ hm=>by have hm:(B7 z (t.get m)).g8 k=true:=hm; rw [← he.get m] at hm; exact hm⟩⟩
   ·obtain ⟨e,h4,h5,h6⟩:=hg e' he'; exact ⟨e,by simp [h4],h5,h6⟩) (C4 hu h1) k3 k2 h3
  refine ⟨t',⟨o,ho,fun e' he'=>?_,p,t1,k1,h2,m1⟩,m2⟩
  obtain ⟨e,h4,h5,h6⟩:=hg e' he'
  rw [← h5]
  rcases hc e h4 with h|⟨x,hx,hP⟩
  ·exact .inl h
  ·obtain ⟨g1,g2,g3⟩:=h6 x hx
   exact .inr ⟨x,hx,hP.b3w g1 g2 g3 (a3X he)⟩

theorem a9U {i:Nat} {o:Oper} (ho:ops[i]?=some o) {post:List Nat}:∀ {pre:List Nat} {acc:List (Nat×St)} {s s':St},I0 (rem ops (pre++i::post))→(∀ j∈pre,(M i).testBit j=false∧∀ x,ops[j]?=some x→indep ops x o=true)→uniq s.fr→F4 s (rem ops pre) →
  X3 E ops M acc (pre++i::post) s s' →
  ∃ p s1 s2,u6 E ops o s=some (p,s1)∧p∧X3 E ops M acc (pre++post) s1 s2∧F0 s2 s'∧∀ e∈acc,(M i).testBit e.1=true∨∃ x,ops[e.1]?=some x∧a2y ops x e.2 (i7 E x e.2) o (i7 E o s)
 | [],acc,s,s',_,_,hu,_,⟨o',ho',hc,p,s1,h1,h2,h3⟩=>by
  rw [ho] at ho'; cases ho'
  obtain ⟨t',m1,m2⟩:=a5c (acc:=(i,s)::acc) (acc':=acc) (fun e he=>⟨e,by simp [he],rfl,fun x _=>⟨fun _ _=>rfl,rfl,fun _ _ _ _ h=>h⟩⟩) (C4 hu h1) (F0.refl s1) (C4 hu h1) h3
  exact ⟨p,s1,t',h1,h2,m1,m2.symm,hc⟩
 | j::pre,acc,s,s',hap,hin,hu,hcl,⟨x,hx,hc,p,s1,h1,h2,h3⟩=>by
  have hu1:=C4 hu h1
  have er:rem ops (j::pre++i::post)=x::rem ops (pre++i::post):=a2a hx
  rw [er] at hap
  rw [a2a hx] at hcl
  have hdj:∀ y∈rem ops pre,∀ d,y.dst=some d→x.dst≠some d:=fun y hy d hyd hxd=>hap.1 d hxd y (by rw [a1r]; exact List.mem_append_left _ hy) hyd
  have hcl1:F4 s1 (rem ops pre):=F4.step hu (fun y hy=>hcl y (by simp [hy])) hdj h1
  obtain ⟨q,sa,sb,k1,k2,k3,k4,k5⟩:=a9U ho (pre:=pre) (acc:=(j,s)::acc) hap.2 (fun y hy=>hin y (by simp [hy])) hu1 hcl1 h3
  obtain ⟨hnb,hind⟩:=hin j (by simp)
  have hP:a2y ops x s (i7 E x s) o (i7 E o s1):=by
   rcases k5 (j,s) (by simp) with h|⟨x',hx',hP⟩
   ·rw [hnb] at h; cases h
   ·have hx':ops[j]?=some x':=hx'
    rw [hx] at hx'; cases hx'; exact hP
  obtain ⟨s1',s2',m1,m2,m3,m4,m5,m6,m7,m8,m9⟩:=swap (hind x hx) hu (fun d hd=>hcl x (by simp) d hd) h1 k1 hP
  obtain ⟨t',n1,n2⟩:=a5c (acc:=(j,s)::acc) (acc':=(j,s1')::acc) (fun e' he'=>by
   rcases List.mem_cons.1 he' with rfl|he'
   ·refine ⟨(j,s),by simp,rfl,fun y hy=>?_⟩
    have hy:ops[j]?=some y:=hy
    rw [hx] at hy; cases hy
    exact ⟨m8,m7,m9⟩
   ·exact ⟨e',by simp [he'],rfl,fun y _=>⟨fun _ _=>rfl,rfl,fun _ _ _ _ h=>h⟩⟩) (C4 hu1 k1) m5.symm m4 k3
  refine ⟨q,s1',t',m1,k2,⟨x,hx,fun e he=>?_,p,s2',m2,h2,n1⟩,n2.symm.trans k4,fun e he=>?_⟩
  ·rcases hc e he with h|⟨y,hy,hP⟩
   ·exact .inl h
   ·exact .inr ⟨y,hy,by rw [m7]; exact hP⟩
  ·rcases k5 e (by simp [he]) with h|⟨y,hy,hP⟩
   ·exact .inl h
   ·exact .inr ⟨y,hy,by rw [m6]; exact hP⟩

end
end Go.Ex

namespace Go.Ex

section
variable {E:Env} {ops:Array Oper} {B:C6} {S:Nat→Prop} {ι:Ix} {s:St} {a:Act} {w:World}

def idxs (n:Nat) (listed:Array Bool):List Nat:=(List.range n).filter fun i=>!listed.getD i true

theorem B3 {n i:Nat} {listed:Array Bool}:i∈idxs n listed↔i<n∧listed.getD i true=false:=by
 simp [idxs]

theorem a0g (n:Nat) (listed:Array Bool):(idxs n listed).Pairwise (·<·):=List.Pairwise.filter _ List.pairwise_lt_range

theorem a2g {n i:Nat} {listed:Array Bool} (hs:listed.size=n) (hi:i<n):idxs n (listed.setIfInBounds i true)=(idxs n listed).filter (fun k=>!(k == i)):=by
 unfold idxs
 rw [List.filter_filter]
 refine List.filter_congr (fun k hk=>?_)
 by_cases e:k=i
 ·subst e
  have:k<listed.size:=by omega
  simp [this]
 ·have:(listed.setIfInBounds i true).getD k true=listed.getD k true:=getD_set_ne true (Ne.symm e)
  rw [this]
  simp [e]

theorem a3d {n i:Nat} {listed:Array Bool} (hi:i∈idxs n listed):∃ pre post,idxs n listed=pre++i::post∧(∀ j∈pre,j<i)∧(idxs n listed).filter (fun k=>!(k == i))=pre++post:=by
 obtain ⟨pre,post,e⟩:=List.append_of_mem hi
 have hp:=a0g n listed
 rw [e,List.pairwise_append] at hp
 obtain ⟨h1,h2,h3⟩:=hp
 have hlt:∀ j∈pre,j<i:=fun j hj=>h3 j hj i (by simp)
 have hgt:∀ j∈post,i<j:=fun j hj=>(List.pairwise_cons.1 h2).1 j hj
 refine ⟨pre,post,e,hlt,?_⟩
 rw [e,List.filter_append,List.filter_cons]
 simp only [beq_self_eq_true,Bool.not_true,Bool.false_eq_true,if_false]
 rw [List.filter_eq_self.2 (fun j hj=>by have:=hlt j hj; simp; omega),List.filter_eq_self.2 (fun j hj=>by have:=hgt j hj; simp; omega)]

theorem a2J (h:X9 ops=true):∀ i o,ops[i]?=some o→(∀ e∈o.after,Region.binds .any e=true→e.on<i) ∧
  (∀ j,j<ops.size→((A3 ops.toList []).getD i 0).testBit j=true→∃ e∈o.after,Region.binds .any e=true∧(e.on=j∨((A3 ops.toList []).getD e.on 0).testBit j=true)) ∧
  (∀ j x,j<i→ops[j]?=some x→((A3 ops.toList []).getD i 0).testBit j=true∨indep ops x o=true):=by
 intro i o ho
 have hi:i<ops.toList.length:=by
  have:=(Array.getElem?_eq_some_iff.1 ho).1
  simpa using this
 simp only [X9,List.all_eq_true,List.mem_range] at h
 have h1:=h i hi
 have hl:ops.toList[i]?=some o:=by simpa using ho
 rw [hl] at h1
 simp only [Bool.and_eq_true,List.all_eq_true,List.mem_range] at h1
 obtain ⟨⟨k1,k2⟩,k3⟩:=h1
 refine ⟨?_,?_,?_⟩
 ·intro e he hb
  simp only [c3g,List.all_eq_true] at k1
  have:=k1 e (by simpa using he)
  rw [hb] at this
  simpa [Nat.blt_eq] using this
 ·intro j hj hm
  simp only [b9B,List.all_eq_true,List.mem_range] at k2
  have:=k2 j (by simpa using hj)
  rw [hm] at this
  simp only [Bool.not_true,Bool.false_or,List.any_eq_true,Bool.and_eq_true,Bool.or_eq_true] at this
  obtain ⟨e,he,hb,h3⟩:=this
  exact ⟨e,by simpa using he,hb,h3.imp Nat.eq_of_beq_eq_true id⟩
 ·intro j x hj hx
  have:=k3 j hj
  have hx':ops.toList[j]?=some x:=by simpa using hx
  rw [hx'] at this
  simpa using this

def a1A (ops:Array Oper) (listed:Array Bool):Prop:=∀ k o,ops[k]?=some o→listed.getD k true=true→∀ e∈o.after,Region.binds .any e=true→listed.getD e.on false=true

theorem O6 {listed:Array Bool} {k:Nat} (h:listed.getD k false=true):listed.getD k true=true:=by
 rcases Nat.lt_or_ge k listed.size with h'|h'
 ·simp [h'] at h ⊢; exact h
 ·simp [Array.getElem?_eq_none h'] at h

theorem a1W {M:Nat→Nat} (hM:∀ i o,ops[i]?=some o→(∀ e∈o.after,Region.binds .any e=true→e.on<i)∧(∀ j,j<ops.size→(M i).testBit j=true→∃ e∈o.after,Region.binds .any e=true∧(e.on=j∨(M e.on).testBit j=true)))
  {listed:Array Bool} (hc:a1A ops listed):∀ (i:Nat) (o:Oper),ops[i]?=some o→(∀ e∈o.after,Region.binds .any e=true→listed.getD e.on false=true)→∀ j,j<ops.size→(M i).testBit j=true→listed.getD j false=true:=by
 intro i
 induction i using Nat.strongRecOn with
 | _ i ih =>
  intro o ho hp j hj hm
  obtain ⟨e,he,hb,h3⟩:=(hM i o ho).2 j hj hm
  have hlt:=(hM i o ho).1 e he hb
  rcases h3 with rfl|h3
  ·exact hp e he hb
  ·have hi:i<ops.size:=(Array.getElem?_eq_some_iff.1 ho).1
   have hel:ops[e.on]?=some (ops[e.on]'(by omega)):=Array.getElem?_eq_getElem (by omega)
   exact ih e.on hlt _ hel (hc e.on _ hel (O6 (hp e he hb))) j hj h3

theorem a7T (hE:A6 E B) (hn:B.n=E.nt) (hd:X9 ops=true) {Q:Exit→Act→World→Prop} {s0:St} (hQ:∀ S ι a w,RS B S ι s0 a w→Q .normal a w) :
  ∀ (fuel:Nat) (listed:Array Bool) (S:Nat→Prop) (ι:Ix) (s s':St) (a:Act) (w:World),listed.size=ops.size→(idxs ops.size listed).length=fuel→a1A ops listed→I0 (rem ops (idxs ops.size listed))→uniq s.fr→F4 s (rem ops (nl ops (idxs ops.size listed))) →
   X3 E ops (fun i=>(A3 ops.toList []).getD i 0) [] (idxs ops.size listed) s s'→F0 s' s0→RS B S ι s a w→wpAny E.P .any ops Q fuel listed a w:=by
 have hM:=a2J hd
 have a4F:∀ {S:Nat→Prop} {ι:Ix} {s t:St} {a:Act} {w:World},F0 s t→RS B S ι s a w→RS B S ι t a w:=by
  intro S ι s t a w he h
  have hvx:∀ {v:AV} {vs:List Value},VX w.heap S ι s.hp v vs→VX w.heap S ι t.hp v vs:=by
   intro v vs hv
   exact VX.other (fun i _=>(he.2 i).symm) (fun i _=>C7.refl ι i) hv
  exact ⟨⟨h.hs.os,h.hs.tape,h.hs.out,h.hs.size,h.hs.frame,h.hs.slt,h.hs.s0,h.hs.s1,fun i e hi=>h.hs.ob i e ((he.2 i).trans hi),fun i e hi=>h.hs.bl i e ((he.2 i).trans hi),fun i j ei ej hi hj=>h.hs.dj i j ei ej ((he.2 i).trans hi) ((he.2 j).trans hj),fun q hq=>by obtain ⟨r1,⟨e,r2⟩,r3⟩:=h.hs.pin q hq; exact ⟨r1,⟨e,(he.2 q.1).symm.trans r2⟩,r3⟩⟩,h.dfr,h.sz,
   fun m v hv=>hvx (h.fr m v ((he.1 m).trans hv))⟩
 intro fuel
 induction fuel with
 | zero =>
  intro listed S ι s s' a w hsz hlen hcl hap hu hcf hrun he hrs
  have hnil:idxs ops.size listed=[]:=List.length_eq_zero_iff.1 hlen
  rw [hnil] at hrun
  have hss:s=s':=hrun
  subst hss
  refine ⟨?_,hQ S ι a w (a4F he hrs)⟩
  rw [List.eq_nil_iff_forall_not_mem]
  intro i hi
  obtain ⟨h1,o,h2,_⟩:=mem_ready.1 hi
  have:i∈idxs ops.size listed:=B3.2 ⟨(Array.getElem?_eq_some_iff.1 h2).1,h1⟩
  rw [hnil] at this
  cases this
 | succ fuel ih =>
  intro listed S ι s s' a w hsz hlen hcl hap hu hcf hrun he hrs
  refine ⟨fun hr=>?_,fun i hi=>?_⟩
  ·exfalso
   cases hix:idxs ops.size listed with
   | nil=>rw [hix] at hlen; cases hlen
   | cons i l =>
    have hmem:i∈idxs ops.size listed:=by rw [hix]; simp
    obtain ⟨h1,h2⟩:=B3.1 hmem
    have ho:ops[i]?=some ops[i]:=Array.getElem?_eq_getElem h1
    have:i∈Region.ready .any ops listed:=by
     refine mem_ready.2 ⟨h2,ops[i],ho,fun e he hb=>?_⟩
     have hlt:=(hM i _ ho).1 e he hb
     cases hle:listed.getD e.on true with
     | true =>
      have:e.on<listed.size:=by omega
      simp [this] at hle ⊢; exact hle
     | false =>
      exfalso
      have hm2:e.on∈idxs ops.size listed:=B3.2 ⟨by omega,hle⟩
      have hs:=a0g ops.size listed
      rw [hix] at hs hm2
      rcases List.mem_cons.1 hm2 with e1|e1
      ·omega
      ·have:=(List.pairwise_cons.1 hs).1 _ e1; omega
    rw [hr] at this
    cases this
  ·obtain ⟨h1,o,ho,hpre⟩:=mem_ready.1 hi
   have hin:i<ops.size:=(Array.getElem?_eq_some_iff.1 ho).1
   have hmem:i∈idxs ops.size listed:=B3.2 ⟨hin,h1⟩
   obtain ⟨pre,post,e1,hlt,e2⟩:=a3d hmem
   have er:rem ops (pre++i::post)=rem ops pre++o::rem ops post:=by simp [rem,List.filterMap_append,ho]
   have er2:rem ops (pre++post)=rem ops pre++rem ops post:=by simp [rem,List.filterMap_append]
   rw [e1] at hap hcf hrun
   have hind:∀ j∈pre,((A3 ops.toList []).getD i 0).testBit j=false∧∀ x,ops[j]?=some x→indep ops x o=true:=by
    intro j hj
    have hnm:((A3 ops.toList []).getD i 0).testBit j=false:=by
     cases hm:((A3 ops.toList []).getD i 0).testBit j with
     | false=>rfl
     | true =>
      exfalso
      have hjl:=a1W (M:=fun i=>(A3 ops.toList []).getD i 0) (fun i o ho=>⟨(hM i o ho).1,(hM i o ho).2.1⟩) hcl i o ho hpre j (by have:=hlt j hj; omega) hm
      have:j∈idxs ops.size listed:=by rw [e1]; simp [hj]
      have:=(B3.1 this).2
      rw [O6 hjl] at this
      cases this
    refine ⟨hnm,fun x hx=>?_⟩
    rcases (hM i o ho).2.2 j x (hlt j hj) hx with hm|hm
    ·rw [hnm] at hm; cases hm
    ·exact hm
   have hcl0:F4 s (rem ops (nl ops (pre++post))):=hcf.sub (fun y hy=>by
    rw [a9x,a1r] at hy ⊢
    rcases List.mem_append.1 hy with hy|hy
    ·exact List.mem_append_left _ hy
    ·refine List.mem_append_right _ ?_
     obtain ⟨j,j1,j2⟩:=List.mem_filterMap.1 hy
     obtain ⟨j3,j4⟩:=List.mem_filter.1 j1
     exact List.mem_filterMap.2 ⟨j,List.mem_filter.2 ⟨List.mem_cons_of_mem _ j3,j4⟩,j2⟩)
   obtain ⟨p,s1,s2,k1,k2,k3,k4,_⟩:=a9U ho hap hind hu (hcf.sub (fun y hy=>by
    rw [a9x,a1r,b9x hin hlt (fun j hj=>(hind j hj).1)]; exact List.mem_append_left _ hy)) hrun
   rw [er] at hap
   have hset:=(a2g hsz hin).trans e2
   have hap2:I0 (rem ops pre++rem ops post)∧∀ x∈rem ops pre++rem ops post,∀ d,x.dst=some d→o.dst≠some d:=by
    have:∀ {A C:List Oper},I0 (A++o::C)→I0 (A++C)∧∀ x∈A++C,∀ d,x.dst=some d→o.dst≠some d:=by
     intro A
     induction A with
     | nil=>intro C h; exact ⟨h.2,fun x hx d hxd hod=>h.1 d hod x hx hxd⟩
     | cons y A ih =>
      intro C h
      obtain ⟨m1,m2⟩:=ih h.2
      refine ⟨⟨fun d hd x hx=>h.1 d hd x (by simp at hx ⊢; rcases hx with hx|hx<;>simp [hx]),m1⟩,fun x hx d hxd hod=>?_⟩
      rcases List.mem_cons.1 hx with rfl|hx
      ·exact h.1 d hxd o (by simp) hod
      ·exact m2 x hx d hxd hod
    exact this hap
   have hps:=a2q hE hn hrs (ops:=ops) o (k:=fun x=>Tree.cut .skip [] x) (L:=fun _ _ x=>x=s1) (Rt:=fun _=>True) (a1g.2 ⟨p,s1,k1,k2,rfl⟩)
    (next:=wpAny E.P .any ops Q fuel (listed.setIfInBounds i true)) (Q:=Q) (fun S' ι' x a' w' hx hxe=>by
     have hxe:x=s1:=hxe
     subst hxe
     refine ih (listed.setIfInBounds i true) S' ι' x s2 a' w' (by simp [hsz]) ?_ ?_ ?_ (C4 hu k1) ?_ ?_ (k4.trans he) hx
     ·rw [hset]; rw [e1] at hlen; simp at hlen ⊢; omega
     ·intro k y hy hk e' he' hb'
      by_cases hki:k=i
      ·subst hki
       rw [ho] at hy; cases hy
       exact getD_set_true (hpre e' he' hb')
      ·rw [getD_set_ne true (Ne.symm hki)] at hk
       exact getD_set_true (hcl k y hy hk e' he' hb')
     ·rw [hset,er2]; exact hap2.1
     ·rw [hset]
      exact F4.step hu hcl0 (fun y hy=>hap2.2 y (by rw [← er2]; exact b9w y hy)) k1
     ·rw [hset]; exact k3)
   unfold wpOp
   rw [ho]
   simp only
   split
   ·rename_i hw; rw [if_pos hw] at hps; exact .inl hps
   ·rename_i hw; rw [if_neg hw] at hps; exact hps

theorem filterMap_some {α β:Type _} {f:α→Option β} {g:α→β}:∀ {l:List α},(∀ i∈l,f i=some (g i))→l.filterMap f=l.map g
 | [],_=>rfl
 | x::l,h=>by rw [List.filterMap_cons,h x (by simp)]; simp [filterMap_some (l:=l) (fun i hi=>h i (by simp [hi]))]

theorem a4G:rem ops (idxs ops.size (Array.replicate ops.size false))=ops.toList:=by
 have:idxs ops.size (Array.replicate ops.size false)=List.range ops.size:=by
  unfold idxs
  refine List.filter_eq_self.2 (fun i hi=>?_)
  have:i<ops.size:=List.mem_range.1 hi
  simp [this]
 rw [this]
 unfold rem
 apply List.ext_getElem?
 intro i
 have e:(List.range ops.size).filterMap (fun i=>ops[i]?)=(List.range ops.size).map (fun i=>ops.getD i default):=filterMap_some (fun i hi=>by
  have:i<ops.size:=List.mem_range.1 hi
  simp [this])
 rw [e]
 by_cases hi:i<ops.size
 ·simp [hi]
 ·simp [hi]

theorem a2l:∀ {l:List Oper},a2K (a2U l)=true→I0 l
 | [],_=>trivial
 | o::l,h=>by
  cases hd:o.dst with
  | none =>
   have:a2U (o::l)=a2U l:=by simp [a2U,hd]
   rw [this] at h
   exact ⟨fun d hd'=>(by rw [hd] at hd'; cases hd'),a2l h⟩
  | some d =>
   have:a2U (o::l)=d::a2U l:=by simp [a2U,hd]
   rw [this] at h
   simp only [a2K,Bool.and_eq_true,Bool.not_eq_true'] at h
   refine ⟨fun d' hd' x hx hxd=>?_,a2l h.2⟩
   rw [hd] at hd'
   cases hd'
   have:d∈a2U l:=List.mem_filterMap.2 ⟨x,hx,hxd⟩
   have h1:=h.1
   simp [this] at h1

theorem W2:idxs ops.size (Array.replicate ops.size false)=List.range ops.size:=by
 unfold idxs
 refine List.filter_eq_self.2 (fun i hi=>?_)
 have:i<ops.size:=List.mem_range.1 hi
 simp [this]

theorem b1w {o:Oper} {l:List Nat} (ho:o∈rem ops (nl ops l)) {d:Nat} (hd:o.dst=some d):d∈a2U ops.toList.dropLast:=by
 obtain ⟨j,j1,j2⟩:=List.mem_filterMap.1 ho
 have j4:j+1<ops.size:=b5d (by simpa using (List.mem_filter.1 j1).2)
 refine List.mem_filterMap.2 ⟨o,List.mem_of_getElem? (i:=j) ?_,hd⟩
 rw [List.getElem?_dropLast,if_pos (by simp; omega)]
 simpa using j2

theorem b3F (hE:A6 E B) (hn:B.n=E.nt) {id:Nat} (hd:(X9 ops && a2i ops s && E.P.follows .mixedOrders)=true) {Q:Exit→Act→World→Prop} {s':St} (hr:X3 E ops (fun i=>(A3 ops.toList []).getD i 0) [] (List.range' 0 ops.toList.length) s s')
  (hQ:∀ S ι a w,RS B S ι s' a w→Q .normal a w) (h:RS B S ι s a w):(Code.region id ops true).wp E.P Q a w:=by
 simp only [Bool.and_eq_true,a2i,List.all_eq_true] at hd
 obtain ⟨⟨h1,⟨h2,h3⟩,h4⟩,h5⟩:=hd
 refine wp_region_any h5 ?_
 have hlen:(idxs ops.size (Array.replicate ops.size false)).length=ops.size:=by
  rw [W2]; simp
 refine a7T hE hn h1 hQ ops.size _ S ι s s' a w.drew (by simp) hlen ?_ ?_ (j7 h2) ?_ ?_ (F0.refl _) (h.R6 C5.nil C0.drew)
 ·intro k o hk hl
  have:k<ops.size:=(Array.getElem?_eq_some_iff.1 hk).1
  simp [this] at hl
 ·rw [a4G]; exact a2l h3
 ·intro o ho d hd
  exact h4 d (b1w ho hd)
 ·rw [W2,List.range_eq_range']
  simpa using hr

theorem b2j (hE:A6 E B) (hn:B.n=E.nt) {id:Nat} (hd:(X9 ops && a8z ops s && E.P.follows .mixedOrders)=true) {Q:Exit→Act→World→Prop} {s':St} (hr:X3 E ops (fun i=>(A3 ops.toList []).getD i 0) [] (List.range' 0 ops.toList.length) s s')
  (hQ:∀ S ι a w,RS B S ι s' a w→Q .normal a w) (h:RS B S ι s a w):(Code.region id ops true).wp E.P Q a w:=by
 simp only [Bool.and_eq_true,a8z,List.all_eq_true,List.mem_range] at hd
 obtain ⟨⟨h1,⟨h2,h3⟩,h4⟩,h5⟩:=hd
 refine wp_region_any h5 ?_
 have hlen:(idxs ops.size (Array.replicate ops.size false)).length=ops.size:=by
  rw [W2]; simp
 refine a7T hE hn h1 hQ ops.size _ S ι s s' a w.drew (by simp) hlen ?_ ?_ (j7 h2) ?_ ?_ (F0.refl _) (h.R6 C5.nil C0.drew)
 ·intro k o hk hl
  have:k<ops.size:=(Array.getElem?_eq_some_iff.1 hk).1
  simp [this] at hl
 ·rw [a4G]; exact a2l h3
 ·intro o ho d hd
  obtain ⟨j,j1,j2⟩:=List.mem_filterMap.1 ho
  have j3:=(List.mem_filter.1 j1).2
  have hj:j<ops.size:=(Array.getElem?_eq_some_iff.1 j2).1
  have:=h4 j hj
  simp only [Bool.not_eq_true'] at j3
  simp only [j2,hd,j3,Bool.false_or] at this
  exact this
 ·rw [W2,List.range_eq_range']
  simpa using hr

theorem b06 {M:List Nat} {k:St→Tree (E.rs++C9 E.ps)} {L:Code→List Item→St→Prop} {R:DL (E.rs++C9 E.ps)→Prop}:∀ {l:List Oper} {n:Nat} {s:St} {acc:List Met} {acc':List (Nat×St)},ops.toList.drop n=l →
  (∀ e∈acc',∃ m∈acc,m.i=e.1∧ops[e.1]?=some m.o∧m.s=e.2∧m.T=i7 E m.o e.2)→(b69 E ops M n l s acc k).holds L R →
  ∃ s',X3 E ops (fun i=>M.getD i 0) acc' (List.range' n l.length) s s'∧(k s').holds L R
 | [],n,s,acc,acc',_,_,h=>⟨s,rfl,h⟩
 | o::l,n,s,acc,acc',hl,ha,h=>by
  obtain ⟨ho,hl',_⟩:=a1w hl
  simp only [b69] at h
  split at h
  ·exact h.elim
  ·rename_i hall
   obtain ⟨p,s1,h1,h2,h3⟩:=a1g.1 h
   obtain ⟨s',k1,k2⟩:=b06 (acc':=(n,s)::acc') hl' (fun e he=>by
    rcases List.mem_cons.1 he with rfl|he
    ·exact ⟨_,List.mem_cons_self ..,rfl,ho,rfl,rfl⟩
    ·obtain ⟨m,hm,r⟩:=ha e he; exact ⟨m,List.mem_cons_of_mem _ hm,r⟩) h3
   refine ⟨s',⟨o,ho,fun e he=>?_,p,s1,h1,h2,k1⟩,k2⟩
   obtain ⟨m,hm,m1,m2,m3,m4⟩:=ha e he
   have:=(List.all_eq_true.1 hall) m hm
   simp only [Bool.or_eq_true] at this
   rcases this with this|this
   ·exact .inl (by rw [← m1]; exact this)
   ·have hp:=a7l this
    rw [m3,m4] at hp
    exact .inr ⟨m.o,m2,hp⟩

end
end Go.Ex
