/- slices.Insert at api.Parcel as a contract: one value, ahead of the end. -/
import Derived.Test.YtekbamiaenbhjaaInsB
import Derived.Test.YtekbamiaenbhjaaTys
namespace Go.Proofs.Ytekbamiaenbhjaa
open Go.Ex
set_option maxRecDepth 100000
abbrev X5:=Int×List UInt8×Unit
def a6V (l:List X5) (i:Int) (m:List X5):List X5:=l.take i.toNat++m++l.drop i.toNat
theorem Y5 (b:Nat):∀ (vs:List Value) (o:Nat) (w:World),(w.setCells b o vs).heap.size=w.heap.size∧(w.setCells b o vs).os=w.os∧(w.setCells b o vs).output=w.output∧(w.setCells b o vs).tape=w.tape∧(w.setCells b o vs).drawn=w.drawn ∧
    (∀ c,c≠b→(w.setCells b o vs).heap[c]?=w.heap[c]?)∧∀ arr T fz,w.heap[b]?=some (.cells arr T fz)→∃ arr',(w.setCells b o vs).heap[b]?=some (.cells arr' T fz)∧arr'.size=arr.size
  | [],_,_=>⟨rfl,rfl,rfl,rfl,rfl,fun _ _=>rfl,fun arr _ _ h=>⟨arr,h,rfl⟩⟩
  | v::r,o,w=>by
    obtain ⟨h1,h2,h3,h4,h5,h6,h7⟩:=Y5 b r (o+1) (w.setCell ⟨b,o,none⟩ v)
    have e1:(w.setCell ⟨b,o,none⟩ v).heap.size=w.heap.size:=by simp [World.setCell]
    have e2:∀ c,c≠b→(w.setCell ⟨b,o,none⟩ v).heap[c]?=w.heap[c]?:=fun c hc=>by
      simp only [World.setCell,Array.getElem?_modify,if_neg (Ne.symm hc)]
    refine ⟨h1.trans e1,h2,h3,h4,h5,fun c hc=>(h6 c hc).trans (e2 c hc),fun arr T fz h=>?_⟩
    have:(w.setCell ⟨b,o,none⟩ v).heap[b]?=some (.cells (arr.setIfInBounds o v) T fz):=by
      simp [World.setCell,Array.getElem?_modify,h]
    obtain ⟨arr',g1,g2⟩:=h7 _ T fz this
    exact ⟨arr',g1,by rw [g2,Array.size_setIfInBounds]⟩
theorem a73 {w:World} {b off:Nat} {arr:Array Value} {T:TypeId} {fz:Nat×Nat} (h:w.heap[b]?=some (.cells arr T fz)) {F:List Value} {n:Nat} (hn:F.length=n) (hc:∀ j,j<n→w.cell? ⟨b,off+j,none⟩=F[j]?):d8 w.heap b off n=F:=by
  have hcell:∀ k,w.cell? ⟨b,k,none⟩=arr[k]?:=fun k=>by simp [World.cell?,h]
  simp only [d8,o8,h]
  apply List.ext_getElem?
  intro j
  rw [List.getElem?_take,List.getElem?_drop]
  by_cases hj:j<n
  · rw [if_pos hj,← hc j hj,hcell,Array.getElem?_toList]
  · rw [if_neg hj,List.getElem?_eq_none (by omega)]
theorem a74 {α:Type} (A B C:List α) (j:Nat):(A++B++C)[j]?=if j<A.length then A[j]? else if j<A.length+B.length then B[j - A.length]? else C[j - (A.length+B.length)]?:=by
  rw [List.getElem?_append,List.getElem?_append,List.length_append]
  split<;>split<;>first|rfl|omega|(split<;>first|rfl|omega)
theorem b4f {w:World} {S:Nat→Prop} {t:Ty} (ht:t.shared=true) {L:List Nat} {cs:List Value} {l:List t.den} (h:e8 w.heap S (.d0 true t) L cs l) (hl:0<l.length) :
    ∃ b off cap,L=[b]∧cs=[.slice (some ⟨b,off,none⟩) l.length cap]∧l.length≤cap∧a6d true cap∧g9 (e8 w.heap S t) t.size [] (d8 w.heap b off (l.length*t.size)) l∧O6 t.isB w.heap b (off+cap*t.size):=by
  rcases h with ⟨_,_,rfl⟩|⟨b,off,cap,O',h1,h2,h3,h4,h5,h6,h7⟩
  · simp at hl
  have hO:O'=[]:=g9.I0 (fun _ _ _ hr=>e8.I0 ht hr) h5
  subst hO
  exact ⟨b,off,cap,h6,h1,h2,h3,h5,h7⟩
def a55:t5:={ ps:=[.own (.d0 true C0),.v I8,.own (.d0 true C0)],rs:=[.d0 true C0],pre:=fun x=>(LE.le (α:=Int) 0 x.2.1∧LT.lt (α:=Int) x.2.1 (List.length (α:=X5) x.1))∧List.length (α:=X5) x.1≤1000∧List.length (α:=X5) x.2.2.1=1,fn:=fun x=>(a6V x.1 x.2.1 x.2.2.1,()),out:=fun _=>() }
theorem b4d {w w':World} {L:List Nat} (h1:w'.os=w.os) (h2:w'.tape=w.tape) (h3:w.drawn≤w'.drawn) (h4:w'.output=w.output) (h5:w.heap.size≤w'.heap.size) (h6:∀ c,c<w.heap.size→c∉L→w'.heap[c]?=w.heap[c]?):y7 L w w':=⟨h1,⟨h2,h3⟩,h4,h5,h6⟩
theorem a6w:a55.Valid Try.prog 160:=by
  refine ⟨⟨_,Try.func160,by kernel_rfl,by kernel_rfl⟩,?_,fun h=>by cases h⟩
  rintro w S vs ⟨(l:List X5),(i0:Int),(m:List X5),⟨⟩⟩ L hS - ⟨⟨(p0:0≤i0),(p1:i0<(l.length:Int))⟩,(p2:l.length≤1000),(p3:m.length=1)⟩ hks - hnd hL
  obtain ⟨v1,us,L1,L2,rfl,rfl,⟨cs1,rfl,r1⟩,v2,us,L3,L4,rfl,rfl,⟨rfl,cs2,rfl,r2⟩,v3,us,L5,L6,rfl,rfl,⟨cs3,rfl,r3⟩,rfl,rfl⟩:=hks
  obtain ⟨i,rfl⟩:∃ i:Nat,i0=i:=⟨i0.toNat,by omega⟩
  have r1:e8 w.heap S (.d0 true C0) L1 cs1 l:=r1
  have r3:e8 w.heap S (.d0 true C0) L5 cs3 m:=r3
  obtain ⟨b,off,cap,rfl,rfl,c2,c3,c4,c5⟩:=b4f rfl r1 (by omega)
  obtain ⟨vb,voff,vc,rfl,rfl,d2,d3,d4,d5⟩:=b4f rfl r3 (by omega)
  obtain ⟨-,rfl,-⟩:=r2
  have hsz:Ty.size C0=2:=rfl
  have c4:g9 (e8 w.heap S C0) 2 [] (d8 w.heap b off (l.length*2)) l:=c4
  have c5:O6 false w.heap b (off+cap*2):=c5
  have d5:O6 false w.heap vb (voff+vc*2):=d5
  have d4:g9 (e8 w.heap S C0) 2 [] (d8 w.heap vb voff (1*2)) m:=by rw [← p3]; exact d4
  have hvb:vb≠b:=by
    rintro rfl
    simp at hnd
  have hbS:=hL b (by simp)
  have hvS:=hL vb (by simp)
  obtain ⟨arr,T,⟨fz,e1,ef⟩,en⟩:=c5
  obtain rfl:fz=(0,0):=ef.elim id (fun h=>by cases h.1)
  obtain ⟨varr,vT,⟨vfz,g1,gf⟩,gn⟩:=d5
  obtain rfl:vfz=(0,0):=gf.elim id (fun h=>by cases h.1)
  rw [p3]
  have hcap:cap≤maxLen:=c3.1
  have hcl:(d8 w.heap b off (l.length*2)).length=l.length*2:=g9.length (fun _ _ _ h=>h.length) c4
  have hvl:(d8 w.heap vb voff (1*2)).length=2:=by have:=g9.length (fun _ _ _ h=>h.length) d4; rw [p3] at this; exact this
  have hpl:=g9.plain (fun _ _ _ hr=>hr.plain) c4
  have hpv:=g9.plain (fun _ _ _ hr=>hr.plain) d4
  have hcell:∀ k,w.cell? ⟨b,k,none⟩=arr[k]?:=fun k=>by simp [World.cell?,e1]
  have hfro:∀ k,w.frozen? ⟨b,k,none⟩=false:=fun k=>by simp [World.frozen?,e1]
  have hfrv:∀ k,w.frozen? ⟨vb,k,none⟩=false:=fun k=>by simp [World.frozen?,g1]
  have hcs:∀ j v,(d8 w.heap b off (l.length*2))[j]?=some v→w.cell? ⟨b,off+j,none⟩=some v:=fun j v h=>H5 h
  have hvs:∀ j v,(d8 w.heap vb voff (1*2))[j]?=some v→w.cell? ⟨vb,voff+j,none⟩=some v:=fun j v h=>H5 h
  have hfn:a55.fn (l,(i:Int),m,())=(l.take i++m++l.drop i,()):=rfl
  have hil:i<l.length:=by omega
  -- the parts
  obtain ⟨q1,q2⟩:g9 (e8 w.heap S C0) 2 [] ((d8 w.heap b off (l.length*2)).take (i*2)) (l.take i)∧g9 (e8 w.heap S C0) 2 [] ((d8 w.heap b off (l.length*2)).drop (i*2)) (l.drop i):=by
    obtain ⟨P1,P2,P3,e,k1,k2,k3⟩:=g9.split (d:=((0:Int),([]:List UInt8),())) hil c4
    have e:=e.symm
    simp only [List.append_eq_nil_iff] at e
    obtain ⟨rfl,rfl,rfl⟩:=e
    refine ⟨k1,?_⟩
    have h9:l.drop i=l.getD i (0,[],())::l.drop (i+1):=by
      rw [List.drop_eq_getElem_cons hil,List.getD_eq_getElem?_getD,List.getElem?_eq_getElem hil]; rfl
    rw [h9]
    refine ⟨[],[],rfl,k2,?_⟩
    rw [List.drop_drop,show i*2+2=(i+1)*2 by omega]
    exact k3
  have hrow:g9 (e8 w.heap S C0) 2 [] ((d8 w.heap b off (l.length*2)).take (i*2)++d8 w.heap vb voff (1*2)++(d8 w.heap b off (l.length*2)).drop (i*2)) (l.take i++m++l.drop i):=by
    have h1:=g9.append (fun _ _ _ h=>h.length) q1 d4
    exact g9.append (fun _ _ _ h=>h.length) h1 q2
  have hlen:(l.take i++m++l.drop i).length=l.length+1:=by simp only [List.length_append,List.length_take,List.length_drop]; omega
  have htl:((d8 w.heap b off (l.length*2)).take (i*2)).length=i*2:=by rw [List.length_take,hcl]; omega
  have hdl:((d8 w.heap b off (l.length*2)).drop (i*2)).length=(l.length - i)*2:=by rw [List.length_drop,hcl]; omega
  -- what is left to say where the row lies in block c of the new world
  have fin:∀ {w':World} {c o G:Nat} {arr':Array Value} {T':TypeId},y7 [b,vb] w w'→(c=b∨w.heap.size≤c)→l.length+1≤G→G≤maxLen→w'.heap[c]?=some (.cells arr' T' (0,0))→o+G*2≤arr'.size →
      d8 w'.heap c o ((l.length+1)*2)=(d8 w.heap b off (l.length*2)).take (i*2)++d8 w.heap vb voff (1*2)++(d8 w.heap b off (l.length*2)).drop (i*2) →
      a1o w S a55.rs a55.ps [i8 (.d0 true C0) [.slice (some ⟨b,off,none⟩) l.length cap],i8 I8 [.int .i64 i],i8 (.d0 true C0) [.slice (some ⟨vb,voff,none⟩) 1 vc]] [b,vb] (a55.fn (l,(i:Int),m,())) (a55.out (l,(i:Int),m,())) (.returned (.slice (some ⟨c,o,none⟩) (l.length+1) G)) w':=by
    intro w' c o G arr' T' hp hc hG hGm ha hs hcl'
    have hsh:∀ {cs:List Value} {l':List X5},g9 (e8 w.heap S C0) 2 [] cs l'→g9 (e8 w'.heap S C0) 2 [] cs l':=fun hr=>g9.mono (L:=[]) (fun _ h=>h) (fun O cs x hO hr=>hr.o6 (fun d hd=>by
      rcases hd with hd|hd
      · exact absurd (hO d hd) (by simp)
      · refine hp.frame d (hS d hd) (fun hm=>?_)
        rcases List.mem_cons.1 hm with rfl|hm
        · exact hbS.1 hd
        · rw [List.mem_singleton] at hm; subst hm; exact hvS.1 hd) (fun _ h=>h)) hr
    refine ⟨[.slice (some ⟨c,o,none⟩) (l.length+1) G],[c],[],S,rfl,hp,fun _ h=>h,fun _ h=>.inl h,⟨_,[],[c],[],[.slice (some ⟨c,o,none⟩) (l.length+1) G],rfl,rfl,rfl,?_,rfl,rfl⟩,⟨_,_,rfl,_,_,rfl,_,_,rfl,rfl,rfl⟩,by simp,?_⟩
    · rw [hfn]
      refine .inr ⟨c,o,G,[],by rw [hlen],by rw [hlen]; exact hG,⟨hGm,fun _=>by omega⟩,?_,?_,rfl,arr',T',⟨(0,0),ha,.inl rfl⟩,hs⟩
      · rw [hlen,hsz]; simp only [o8,ha,Array.length_toList]; omega
      · rw [hlen,hsz,hcl']; exact hsh hrow
    · intro d hd
      simp only [List.append_nil,List.mem_singleton] at hd
      subst hd
      refine ⟨fun h=>?_,?_,?_⟩
      · rcases hc with rfl|hc
        · exact hbS.1 h
        · have:=hS d h; omega
      · rcases hc with rfl|hc
        · right; simp
        · left; exact hc
      · exact (Array.getElem?_eq_some_iff.1 ha).1
  by_cases hroom:l.length+1≤cap
  · have hm2:(l.length+1)*2≤cap*2:=Nat.mul_le_mul_right _ hroom
    refine (b7s b off l.length cap i vb voff vc (d8 w.heap b off (l.length*2)) (d8 w.heap vb voff (1*2)) w hil hroom hcap hvb hcl hvl hcs
      (fun j hj=>by rw [hcell,Array.getElem?_eq_getElem (by omega)]; rfl) (fun j _=>hfro _) hvs (fun v hv=>(hpl v hv).1) (fun v hv=>(hpv v hv).1)
      vT T varr.size arr.size (by simp [World.shape?,g1]) (by simp [World.shape?,e1]) (by omega) (hfrv _) (hfrv _)).mono ?_
    rintro e w' ⟨rfl,rfl⟩
    obtain ⟨A1,A2,A3,A4,A5,A6,A7⟩:=Y5 b ((d8 w.heap b off (l.length*2)).drop (i*2)) (off+(i+1)*2) w.drew
    obtain ⟨B1,B2,B3,B4,B5,B6,B7⟩:=Y5 b (d8 w.heap vb voff (1*2)) (off+i*2) (w.drew.setCells b (off+(i+1)*2) ((d8 w.heap b off (l.length*2)).drop (i*2)))
    obtain ⟨arr1,x1,x2⟩:=A7 arr T (0,0) e1
    obtain ⟨arr2,y1,y2⟩:=B7 arr1 T (0,0) x1
    have hsome:∀ k,off+k<off+cap*2→(w.drew.cell? ⟨b,off+k,none⟩).isSome=true:=fun k hk=>by
      show (w.cell? ⟨b,off+k,none⟩).isSome=true
      rw [hcell,Array.getElem?_eq_getElem (by omega)]; rfl
    have hsome1:∀ k,off+k<off+cap*2→((w.drew.setCells b (off+(i+1)*2) ((d8 w.heap b off (l.length*2)).drop (i*2))).cell? ⟨b,off+k,none⟩).isSome=true:=fun k hk =>
      Z6 b _ _ _ (fun j hj=>by rw [hdl] at hj; rw [Nat.add_assoc]; exact hsome _ (by omega)) _ (hsome k hk)
    refine fin (T':=T) (arr':=arr2) ?_ (.inl rfl) hroom hcap y1 (by rw [y2,x2]; exact en) ?_
    · refine b4d (B2.trans A2) (B4.trans A4) (by rw [B5,A5]; exact Nat.le_succ _) (B3.trans A3) (by rw [B1,A1]; exact Nat.le_refl _) (fun c hc hn=>?_)
      have hcb:c≠b:=fun e=>hn (by simp [e])
      exact (B6 c hcb).trans (A6 c hcb)
    · refine a73 y1 (by rw [List.length_append,List.length_append,htl,hvl,hdl]; omega) (fun j hj=>?_)
      rw [a74,htl,hvl]
      by_cases k1:j<i*2
      · rw [if_pos k1,World.cell?_setCells_out b _ _ _ _ (fun _ _=>.inl (by show off+j<_; omega)),World.cell?_setCells_out b _ _ _ _ (fun _ _=>.inl (by show off+j<_; omega)),List.getElem?_take,if_pos k1]
        have hj2:j<(d8 w.heap b off (l.length*2)).length:=by omega
        rw [List.getElem?_eq_getElem hj2]
        exact hcs j _ (List.getElem?_eq_getElem hj2)
      · rw [if_neg k1]
        by_cases k2:j<i*2+2
        · rw [if_pos k2]
          have:=World.cell?_setCells_in b (d8 w.heap vb voff (1*2)) (off+i*2) (w.drew.setCells b (off+(i+1)*2) ((d8 w.heap b off (l.length*2)).drop (i*2))) (fun j hj=>by rw [Nat.add_assoc]; exact hsome1 _ (by omega)) (j - i*2) (by omega)
          rw [show off+i*2+(j - i*2)=off+j by omega] at this
          rw [this,List.getElem?_eq_getElem]
        · rw [if_neg k2,World.cell?_setCells_out b _ _ _ _ (fun _ _=>.inr (by show _≤off+j; rw [hvl]; omega))]
          have:=World.cell?_setCells_in b ((d8 w.heap b off (l.length*2)).drop (i*2)) (off+(i+1)*2) w.drew (fun j hj=>by rw [hdl] at hj; rw [Nat.add_assoc]; exact hsome _ (by omega)) (j - (i*2+2)) (by omega)
          rw [show off+(i+1)*2+(j - (i*2+2))=off+j by omega] at this
          rw [this,List.getElem?_eq_getElem]
  · refine (b8P b off l.length cap i vb voff vc (d8 w.heap b off (l.length*2)) (d8 w.heap vb voff (1*2)) w hil c2 (by omega) (by omega) hcl hvl hcs hvs (fun v hv=>(hpl v hv).1) (fun v hv=>(hpv v hv).1)).mono ?_
    rintro e w' ⟨G,Z,z1,z2,z3,rfl,rfl⟩
    generalize hrowA:((d8 w.heap b off (l.length*2)).take (i*2)).toArray++Z=ROW
    have hRs:ROW.size=G*2:=by rw [← hrowA,Array.size_append,List.size_toArray,htl,z3]; omega
    generalize hN:w.heap.size=N
    have n1:((w.alloc (.cells ROW 112)).drew).heap[N]?=some (.cells ROW 112 (0,0)):=by
      show (w.heap.push _)[N]?=_
      rw [← hN]; simp
    have n2:∀ c,c<N→((w.alloc (.cells ROW 112)).drew).heap[c]?=w.heap[c]?:=fun c hc=>by
      show (w.heap.push _)[c]?=_
      rw [Array.getElem?_push,if_neg (by omega)]
    have n3:((w.alloc (.cells ROW 112)).drew).heap.size=N+1:=by show (w.heap.push _).size=_; rw [Array.size_push,hN]
    obtain ⟨A1,A2,A3,A4,A5,A6,A7⟩:=Y5 N (d8 w.heap vb voff (1*2)) (i*2) ((w.alloc (.cells ROW 112)).drew)
    generalize hW1:((w.alloc (.cells ROW 112)).drew).setCells N (i*2) (d8 w.heap vb voff (1*2))=W1 at *
    obtain ⟨B1,B2,B3,B4,B5,B6,B7⟩:=Y5 N ((d8 w.heap b off (l.length*2)).drop (i*2)) ((i+1)*2) W1.drew
    obtain ⟨arr1,x1,x2⟩:=A7 ROW 112 (0,0) n1
    obtain ⟨arr2,y1,y2⟩:=B7 arr1 112 (0,0) x1
    have hcN:∀ k,((w.alloc (.cells ROW 112)).drew).cell? ⟨N,k,none⟩=ROW[k]?:=fun k=>by simp only [World.cell?,n1]; rfl
    have hsome:∀ k,k<G*2→(((w.alloc (.cells ROW 112)).drew).cell? ⟨N,k,none⟩).isSome=true:=fun k hk=>by
      rw [hcN,Array.getElem?_eq_getElem (by omega)]; rfl
    have hsome1:∀ k,k<G*2→(W1.drew.cell? ⟨N,k,none⟩).isSome=true:=fun k hk=>by
      show (W1.cell? ⟨N,k,none⟩).isSome=true
      rw [← hW1]
      exact Z6 N _ _ _ (fun j hj=>hsome _ (by omega)) _ (hsome k hk)
    refine fin (c:=N) (o:=0) (G:=G) (T':=112) (arr':=arr2) ?_ (.inr (by omega)) z1 z2 y1 (by rw [y2,x2,hRs]; omega) ?_
    · refine b4d (B2.trans A2) (B4.trans A4) (by rw [B5]; show _≤W1.drawn+1; rw [A5]; show w.drawn≤w.drawn+1+1; omega) (B3.trans A3) (by rw [B1]; show _≤W1.heap.size; rw [A1,n3]; omega) (fun c hc hn=>?_)
      have hcb:c≠N:=by omega
      exact (B6 c hcb).trans ((A6 c hcb).trans (n2 c (by omega)))
    · refine a73 y1 (by rw [List.length_append,List.length_append,htl,hvl,hdl]; omega) (fun j hj=>?_)
      rw [a74,htl,hvl,Nat.zero_add]
      by_cases k1:j<i*2
      · rw [if_pos k1,World.cell?_setCells_out N _ _ _ _ (fun _ _=>.inl (by show j<_; omega))]
        show W1.cell? ⟨N,j,none⟩=_
        rw [← hW1,World.cell?_setCells_out N _ _ _ _ (fun _ _=>.inl (by show j<_; omega)),hcN,← hrowA]
        rw [Array.getElem?_append,if_pos (by rw [List.size_toArray,htl]; exact k1),List.getElem?_toArray]
      · rw [if_neg k1]
        by_cases k2:j<i*2+2
        · rw [if_pos k2,World.cell?_setCells_out N _ _ _ _ (fun _ _=>.inl (by show j<_; omega))]
          show W1.cell? ⟨N,j,none⟩=_
          have:=World.cell?_setCells_in N (d8 w.heap vb voff (1*2)) (i*2) ((w.alloc (.cells ROW 112)).drew) (fun j hj=>hsome _ (by omega)) (j - i*2) (by omega)
          rw [hW1,show i*2+(j - i*2)=j by omega] at this
          rw [this,List.getElem?_eq_getElem]
        · rw [if_neg k2]
          have:=World.cell?_setCells_in N ((d8 w.heap b off (l.length*2)).drop (i*2)) ((i+1)*2) W1.drew (fun j hj=>by rw [hdl] at hj; exact hsome1 _ (by omega)) (j - (i*2+2)) (by omega)
          rw [show (i+1)*2+(j - (i*2+2))=j by omega] at this
          rw [this,List.getElem?_eq_getElem]
end Go.Proofs.Ytekbamiaenbhjaa
