/- slices.SortFunc as a contract of the evaluator, where the elements have memory of their own (a slice of slices). Condition: what the contract asks. -/
import Derived.Test.YtekbamiaenbhjaaSortC
namespace Go.Ex
open Go.Sort Go.Proofs

def K6 (H:Array Go.Obj) (S:Nat→Prop) (t:Ty) (ok:t.den→Prop) (O:List Nat):Type:={p:List Value×List Nat×t.den // f9 H S t p.2.1 p.1 p.2.2∧ok p.2.2∧∀ b∈p.2.1,b∈O}
def K6.cs {H:Array Go.Obj} {S:Nat→Prop} {t:Ty} {ok:t.den→Prop} {O:List Nat} (x:K6 H S t ok O):List Value:=x.1.1
def K6.ow {H:Array Go.Obj} {S:Nat→Prop} {t:Ty} {ok:t.den→Prop} {O:List Nat} (x:K6 H S t ok O):List Nat:=x.1.2.1
def K6.x {H:Array Go.Obj} {S:Nat→Prop} {t:Ty} {ok:t.den→Prop} {O:List Nat} (x:K6 H S t ok O):t.den:=x.1.2.2

section
variable {H H':Array Go.Obj} {S S':Nat→Prop} {t:Ty} {ok:t.den→Prop} {OO:List Nat}
theorem K6.len (x:K6 H S t ok OO):x.cs.length=t.size:=x.2.1.length

theorem b6q:∀ {l:List t.den} {O:List Nat} {cs:List Value},i8 (f9 H S t) t.size O cs l→(∀ x∈l,ok x)→(∀ b∈O,b∈OO) →
    ∃ dl:List (K6 H S t ok OO),dl.map K6.x=l∧(dl.map K6.cs).flatten=cs∧(dl.map K6.ow).flatten=O
  | [],_,_,⟨h0,h⟩,_,_=>⟨[],rfl,h.symm,h0.symm⟩
  | x::l,_,cs,⟨O1,O2,e,h1,h2⟩,hk,hO=>by
    subst e
    obtain ⟨dl,e1,e2,e3⟩:=b6q h2 (fun y hy=>hk y (by simp [hy])) (fun b hb=>hO b (by simp [hb]))
    let y:K6 H S t ok OO:=⟨(cs.take t.size,O1,x),h1,hk x (by simp),fun b hb=>hO b (by simp [hb])⟩
    refine ⟨y::dl,by rw [List.map_cons,e1]; rfl,?_,by rw [List.map_cons,List.flatten_cons,e3]; rfl⟩
    rw [List.map_cons,List.flatten_cons,e2]
    exact List.take_append_drop _ _

theorem b58:∀ (dl:List (K6 H S t ok OO)),(∀ x∈dl,f9 H' S' t x.ow x.cs x.x)→i8 (f9 H' S' t) t.size (dl.map K6.ow).flatten (dl.map K6.cs).flatten (dl.map K6.x)
  | [],_=>⟨rfl,rfl⟩
  | x::dl,hs=>by
    refine ⟨x.ow,(dl.map K6.ow).flatten,by rw [List.map_cons,List.flatten_cons],?_,?_⟩
    · rw [List.map_cons,List.flatten_cons,List.take_append_of_le_length (by rw [x.len]; exact Nat.le_refl _),List.take_of_length_le (by rw [x.len]; exact Nat.le_refl _)]
      exact hs x (by simp)
    · rw [List.map_cons,List.flatten_cons,List.drop_append_of_le_length (by rw [x.len]; exact Nat.le_refl _),List.drop_of_length_le (by rw [x.len]; exact Nat.le_refl _),List.nil_append]
      exact b58 dl (fun y hy=>hs y (by simp [hy]))

theorem b9X (dl:List (K6 H S t ok OO)):(dl.map K6.cs).flatten.length=dl.length*t.size:=by
  induction dl with
  | nil=>simp
  | cons x dl ih=>rw [List.map_cons,List.flatten_cons,List.length_append,ih,x.len,List.length_cons,Nat.succ_mul]; omega
end

def c0E (P:Program) (g:Nat) (t:Ty) (cf:t.den→t.den→Int) (ok:t.den→Prop):Prop :=
  (∃ fn,P.funcs[g]?=some fn∧(fn.name == "runtime.NumGoroutine")=false∧fn.body.isNone=false) ∧
  ∀ (W:World) (S:Nat→Prop) (cs ds:List Value) (O1 O2:List Nat) (x y:t.den),(∀ b,S b→b<W.heap.size)→a0j P W S→(∀ b∈O1++O2,b<W.heap.size)→ok x→ok y→f9 W.heap S t O1 cs x→f9 W.heap S t O2 ds y →
    Calls P g #[j8 t cs,j8 t ds] W fun e w'=>e=.returned (.int .i64 (cf x y))∧C0 [] W w'

theorem b92 {P:Program} {g:Nat} {t:Ty} {cf:t.den→t.den→Int} {ok:t.den→Prop} {c:w9} (h:c.Valid P g) (pre:DK [.v t.sh,.v t.sh]→Prop) (fn:DK [.v t.sh,.v t.sh]→Int) (out:DK [.v t.sh,.v t.sh]→DL (C9 [.v t.sh,.v t.sh]))
    (e:c={ ps:=[.v t.sh,.v t.sh],rs:=[.int .i64],pre:=pre,fn:=fun x=>(fn x,()),out:=out }) (hp:∀ x y,ok x→ok y→pre (cast (B4 t).symm x,cast (B4 t).symm y,()))
    (hf:∀ x y,fn (cast (B4 t).symm x,cast (B4 t).symm y,())=cf x y) (hag:t.sh.agg=t.agg) (hH:t.Q7=true):c0E P g t cf ok:=by
  subst e
  refine ⟨h.ent,fun W S cs ds O1 O2 x y hS hgl hO hx hy h1 h2=>?_⟩
  have k1:=h1.a1d (S':=fun b=>S b∨b∈O1++O2) (fun b hb=>.inr (by simp [hb])) (fun _ h=>.inl h) hH
  have k2:=h2.a1d (S':=fun b=>S b∨b∈O1++O2) (fun b hb=>.inr (by simp [hb])) (fun _ h=>.inl h) hH
  have ev:∀ cs,j8 t cs=j8 t.sh cs:=fun cs=>by simp only [j8,hag]
  rw [ev,ev]
  refine (h.run W (fun b=>S b∨b∈O1++O2) [j8 t.sh cs,j8 t.sh ds] (cast (B4 t).symm x,cast (B4 t).symm y,()) [] (fun b hb=>hb.elim (hS b) (hO b)) (hgl.sub (fun _ h=>.inl h)) (hp x y hx hy) ⟨_,_,[],[],rfl,rfl,⟨rfl,cs,rfl,k1⟩,_,_,[],[],rfl,rfl,⟨rfl,ds,rfl,k2⟩,rfl,rfl⟩ trivial List.nodup_nil (by simp)).mono ?_
  rintro e w' ⟨us,O,Lo,S',he,hpast,-,-,hr,-⟩
  obtain ⟨v,us',O1',O2',cs',rfl,rfl,rfl,⟨-,rfl,-⟩,-,rfl⟩:=hr
  refine ⟨?_,hpast⟩
  rw [he]
  show Ending.returned (.int .i64 (fn _))=_
  rw [hf]

section
variable {P:Program} {t:Ty} {g:Nat} {cf:t.den→t.den→Int} {ok:t.den→Prop} {ρ:Shelf.Ren}

theorem b9f {w:World} {S:Nat→Prop} {b off cap:Nat} {l:List t.den} {O:List Nat} (hS:∀ c,S c→c<w.heap.size) (hL:∀ c∈b::O,¬ S c∧c<w.heap.size) (hnd:(b::O).Nodup) (hfree:Q0 t.isB w.heap b (off+cap*t.size)) (hl:l.length≤cap) (hcm:a7E true cap)
    (hO:SWO (V3 cf)) (ht:∀ a∈l,∀ b∈l,V3 cf a b=false→V3 cf b a=false→a=b) {dl dl':List (K6 w.heap S t ok O)} (hd:dl.map K6.x=l) (ho:(dl.map K6.ow).flatten=O) (hp:dl'.Perm dl)
    (hs:dl'.Pairwise (fun x y=>V3 cf y.x x.x=false)) (m:Nat) (os:Array Obj) :
    C0 [b] w (sortWorld id w b off m (dl'.map K6.cs).flatten.toArray os)∧(dl'.map K6.ow).flatten.Perm O ∧
    f9 (sortWorld id w b off m (dl'.map K6.cs).flatten.toArray os).heap S (.d0 true t) (b::(dl'.map K6.ow).flatten) [.slice (some ⟨b,off,none⟩) l.length cap] (x7 (V3 cf) l):=by
  have hpast:=b5R (w:=w) (b:=b) (off:=off) (m:=m) (F:=(dl'.map K6.cs).flatten.toArray) (os:=os)
  have hlen:dl'.length=l.length:=by rw [hp.length_eq,← hd,List.length_map]
  have hFs:(dl'.map K6.cs).flatten.toArray.size=l.length*t.size:=by rw [List.size_toArray,b9X,hlen]
  have hle:l.length*t.size≤cap*t.size:=Nat.mul_le_mul_right _ hl
  have hxs:dl'.map K6.x=x7 (V3 cf) l:=by
    refine Y6 hO (hd▸hp.map K6.x) ?_ ht
    rw [List.pairwise_map]
    exact hs
  obtain ⟨arr,T,⟨fz,hlie0,hef⟩,hn⟩:=hfree
  have hlie:Lie w.heap b arr T fz:=⟨hlie0,hef.imp id (·.2)⟩
  have hcell:=c0R (m:=m) (os:=os) (F:=(dl'.map K6.cs).flatten.toArray) hlie (off:=off) (by rw [hFs]; omega)
  have hfr:Q0 t.isB (sortWorld id w b off m (dl'.map K6.cs).flatten.toArray os).heap b (off+cap*t.size):=⟨_,T,⟨fz,(b9c hlie).1,hef.imp id (fun h=>⟨h.1,by simpa [putCells] using h.2⟩)⟩,by simpa [putCells] using hn⟩
  have hsl:(x7 (V3 cf) l).length=l.length:=(G8 _ l).length_eq
  refine ⟨hpast,(by have h9:=(hp.map K6.ow).flatten; rwa [ho] at h9),.inr ⟨b,off,cap,(dl'.map K6.ow).flatten,by rw [hsl],by rw [hsl]; exact hl,hcm,?_,?_,rfl,hfr⟩⟩
  · have:=hfr.free.w7
    rw [hsl]; omega
  · rw [hsl,← hFs,hcell,← hxs]
    refine b58 dl' (fun x _=>x.2.1.s7 (fun c hc=>?_) (fun _ h=>h))
    rcases hc with hc|hc
    · have hcO:=x.2.2.2 c hc
      exact hpast.frame c (hL c (by simp [hcO])).2 (by rintro h; simp at h; subst h; exact (List.nodup_cons.1 hnd).1 hcO)
    · exact hpast.frame c (hS c hc) (by rintro h; simp at h; subst h; exact (hL c (by simp)).1 hc)

theorem c3p {H:Array Go.Obj} {S:Nat→Prop} {O:List Nat} (hO:SWO (V3 cf)):SWO (Go.Proofs.ltOf (fun x y:K6 H S t ok O=>cf x.x y.x)) :=
  ⟨fun x=>hO.irrefl x.x,fun x y z=>hO.trans x.x y.x z.x,fun x y z=>hO.ntrans x.x y.x z.x⟩

theorem b4W (L:SlLaysF.n6 P ρ) (h1:t.size=1) (hag:t.agg=false) (hc:c0E P g t cf ok) (hO:SWO (V3 cf)):(c2M t g cf ok).Valid P (ρ.f 6):=by
  refine ⟨?_,?_,fun h=>by cases h⟩
  · obtain ⟨nm,hn,hf⟩:=L.f6
    exact ⟨_,hf,hn,rfl⟩
  rintro w S vs ⟨(l:List t.den),_,_⟩ L0 hS hgl ⟨hsm,hok,htie⟩ ⟨v,us,L1,L2,rfl,rfl,⟨cs,rfl,hR⟩,v2,us2,L3,L4,rfl,rfl,⟨rfl,us3,rfl,h3⟩,rfl,rfl⟩ - hnd hL
  have h3:us3=[]:=h3
  subst h3
  rw [List.append_nil,List.append_nil] at hnd hL ⊢
  have hsm:l.length≤1048576:=hsm
  have hok:∀ a∈l,ok a:=hok
  have htie:∀ a∈l,∀ b∈l,V3 cf a b=false→V3 cf b a=false→a=b:=htie
  rcases hR with ⟨rfl,⟨a,c,rfl,h0⟩,rfl⟩|⟨b,off,cap,O,rfl,hl,hcm,hbk,hRL,rfl,hfree⟩
  · exact b03 { L with } (by simp) List.nodup_nil rfl (.inl ⟨rfl,⟨a,c,rfl,h0⟩,rfl⟩)
  by_cases hlz:l=[]
  · subst hlz
    exact b03 { L with } hL hnd rfl (.inr ⟨b,off,cap,O,rfl,hl,hcm,hbk,hRL,rfl,hfree⟩)
  have hl:l.length≤cap:=hl
  have hbk:off+l.length*t.size≤(w7 w.heap b).length:=hbk
  have hRL:i8 (f9 w.heap S t) t.size O (f8 w.heap b off (l.length*t.size)) l:=hRL
  have hbS:¬ S b:=(hL b (by simp)).1
  obtain ⟨dl,e1,e2,e3⟩:=b6q (ok:=ok) (OO:=O) hRL hok (fun _ h=>h)
  obtain ⟨x0,dl0,rfl⟩:∃ x0 dl0,dl=x0::dl0:=by
    cases dl with
    | nil=>exact absurd e1.symm hlz
    | cons x y=>exact ⟨x,y,rfl⟩
  generalize hdl:x0::dl0=dl at *
  letI:Inhabited (K6 w.heap S t ok O):=⟨x0⟩
  let enc:K6 w.heap S t ok O→Value:=fun x=>j8 t x.cs
  have henc:∀ x:K6 w.heap S t ok O,x.cs=[enc x]:=fun x=>by
    have:=x.len
    rw [h1] at this
    obtain ⟨v,hv⟩:=List.length_eq_one_iff.1 this
    show x.cs=[j8 t x.cs]
    rw [hv]; simp [j8,hag]
  have hflat:∀ dl:List (K6 w.heap S t ok O),(dl.map K6.cs).flatten=dl.map enc:=by
    intro dl
    induction dl with
    | nil=>rfl
    | cons x dl ih=>rw [List.map_cons,List.flatten_cons,ih,henc x]; rfl
  have hone:OneCell enc:=fun x=>((x.2.1.plain _ (by show enc x∈x.cs; have h9:=henc x; exact h9▸List.mem_singleton_self _)).1)
  have hlen:dl.length=l.length:=by rw [← e1,List.length_map]
  have hfr:=hfree
  obtain ⟨arr,T,⟨fz,hlie⟩,hn⟩:=Q0.free hfr
  have hb:b<w.heap.size:=(Array.getElem?_eq_some_iff.1 hlie.1).1
  have hle:l.length*t.size≤cap*t.size:=Nat.mul_le_mul_right _ hl
  have hH:Holds enc w b off dl.toArray:=by
    refine b9N (holds_of hlie ?_ ?_)
    · simp only [Array.size_map,List.size_toArray,hlen]; rw [h1] at *; omega
    · simp only [Array.size_map,List.size_toArray,hlen]
      have:(dl.toArray.map enc).toList=(dl.map K6.cs).flatten:=by rw [hflat]; simp
      rw [this,e2,h1,Nat.mul_one]
  have hcmp:CmpLays1 P g #[] enc (fun x y=>cf x.x y.x) b off dl.toArray.size w:=by
    intro m os dk _ x y
    rw [b9b]
    have hpast:=b5R (w:=w) (b:=b) (off:=off) (m:=m) (F:=dk.map enc) (os:=os)
    have hown:∀ z:K6 w.heap S t ok O,∀ c∈z.ow,c≠b∧c<w.heap.size:=fun z c hc=>by
      have hcO:=z.2.2.2 c hc
      exact ⟨by rintro rfl; exact (List.nodup_cons.1 hnd).1 hcO,(hL c (by simp [hcO])).2⟩
    have hst:∀ z:K6 w.heap S t ok O,f9 (sortWorld id w b off m (dk.map enc) os).heap S t z.ow z.cs z.x:=fun z=>z.2.1.s7 (fun c hc=>by
      rcases hc with hc|hc
      · exact hpast.frame c (hown z c hc).2 (by simpa using (hown z c hc).1)
      · exact hpast.frame c (hS c hc) (by rintro h; simp at h; subst h; exact hbS hc)) (fun _ h=>h)
    exact (hc.2 _ S x.cs y.cs x.ow y.ow x.x y.x (fun c h=>Nat.lt_of_lt_of_le (hS c h) hpast.size) (hgl.mono (fun c hc=>hpast.frame c (hS c hc) (by rintro h; simp at h; subst h; exact hbS hc)) (fun _ h=>h)) (fun c h=>Nat.lt_of_lt_of_le ((List.mem_append.1 h).elim (fun h=>(hown x c h).2) (fun h=>(hown y c h).2)) hpast.size) x.2.2.1 y.2.2.1 (hst x) (hst y)).mono fun e w' ⟨h1,h2⟩=>⟨h1,h2.grown⟩
  have hbig:dl.toArray.size<4611686018427387904:=by
    rw [List.size_toArray,hlen]; omega
  have eg:∀ args w,(callFunc g args).run P w=.ok (.enter g args) w:=by
    obtain ⟨fn,f1,f2,f3⟩:=hc.1
    obtain ⟨c,hcb⟩:∃ c,fn.body=some c:=by cases h:fn.body with
      | none=>rw [h] at f3; cases f3
      | some c=>exact ⟨c,rfl⟩
    exact enters_of f1 f2 hcb
  have hcall:=Any.slices_SortFunc L enc hone (fun x y=>cf x.x y.x) (c3p hO) g #[] b off cap dl.toArray w eg hcmp hH hb hbig
  rw [List.size_toArray,hlen] at hcall
  refine hcall.mono ?_
  rintro e w' ⟨rfl,d',n,os,hp,hs,rfl⟩
  rw [show l.length=dl.toArray.size by simp [hlen]] at hp hs
  rw [b9b]
  have hpp:=c3A hp
  have hss:=c06 (d:=d') (by rw [hp.1]; exact hs)
  have hfin:=b9f (cf:=cf) hS hL hnd hfree hl hcm hO htie e1 e3 (by simpa using hpp) (hss.imp (fun h=>h)) n os
  rw [hflat] at hfin
  have ee:(List.map enc d'.toList).toArray=Array.map enc d':=by apply Array.ext'; simp
  rw [ee] at hfin
  obtain ⟨f1,f2,f3⟩:=hfin
  have f1':C0 (b::O) w (sortWorld id w b off n (Array.map enc d') os):=f1.mono (fun c hc=>by simp at hc; simp [hc])
  refine ⟨[],[],b::(List.map K6.ow d'.toList).flatten,S,rfl,f1',fun _ h=>h,fun _ h=>.inl h,⟨rfl,rfl⟩,⟨_,b::(List.map K6.ow d'.toList).flatten,[.func (.func g) #[] #[]],[],rfl,rfl,f3,by simp,⟨_,[],rfl,rfl,rfl⟩⟩,?_,?_⟩
  · rw [List.nil_append]
    exact List.nodup_cons.2 ⟨fun h=>(List.nodup_cons.1 hnd).1 (f2.mem_iff.1 h),f2.nodup_iff.2 (List.nodup_cons.1 hnd).2⟩
  · intro c hc
    have hc:c∈b::O:=by
      rw [List.nil_append] at hc
      rcases List.mem_cons.1 hc with h|h
      · simp [h]
      · exact List.mem_cons_of_mem _ (f2.mem_iff.1 h)
    exact ⟨(hL c hc).1,.inr hc,Nat.lt_of_lt_of_le (hL c hc).2 f1.size⟩
end
end Go.Ex
