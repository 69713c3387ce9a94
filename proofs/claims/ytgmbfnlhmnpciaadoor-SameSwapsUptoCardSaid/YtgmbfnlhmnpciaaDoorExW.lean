import Derived.Test.YtgmbfnlhmnpciaaDoorExK8
import Derived.WalkKit
import Derived.ProofKit
import Derived.OpenShut
import Derived.JoinedCond

namespace Go.Ex
open Go.ChangeShapes Go.WideShapes Go.ChangeAt Go.RowKit

section
variable {P:Program} {X:Type} {enc:TypeId×Value→X} {W:World} {sp:Nat→Bool} {held:Bool}

/-! how many values and letters: of a reading, of what is read -/
def bulkL {α:Type _} (f:α→Nat):List α→Nat
 | []=>0
 | x::l=>f x+bulkL f l
def Ty.flat:Ty→Bool
 | .int _|.bool|.str|.unit=>true
 | .fn _=>false
 | .hole _=>false
 | .map _ _ _=>false
 | .box _ _ _=>false
 | .pair a b=>a.flat && b.flat
 | .arr _ t=>t.flat
 | .slc o t=>!o && t.flat
def Ty.bulk:(t:Ty)→t.den→Nat
 | .int _,_=>1
 | .bool,_=>1
 | .str,s=>List.length s+1
 | .unit,_=>0
 | .fn _,_=>0
 | .hole _,_=>0
 | .map _ _ _,_=>0
 | .box _ _ _,_=>0
 | .pair a b,x=>a.bulk x.1+b.bulk x.2
 | .arr _ t,l=>bulkL t.bulk l
 | .slc _ t,l=>bulkL t.bulk l+1
mutual
def bulkW {H:Type}:DataW H→Nat
 | .lit (.string bytes)=>bytes.length+1
 | .lit _=>1
 | .nil=>1
 | .ptr d=>bulkW d+1
 | .slice elems spare=>bulkWAll elems+bulkWAll spare+1
 | .agg parts=>bulkWAll parts+1
 | .iface _ d=>bulkW d+1
 | .map entries=>bulkWEntries entries+1
 | .held _=>1
def bulkWAll {H:Type}:List (DataW H)→Nat
 | []=>0
 | d::r=>bulkW d+bulkWAll r
def bulkWEntries {H:Type}:List (Lit×DataW H)→Nat
 | []=>0
 | x::r=>bulkWEntry x+bulkWEntries r
def bulkWEntry {H:Type}:Lit×DataW H→Nat
 | (.string bytes,d)=>bytes.length+bulkW d+1
 | (_,d)=>bulkW d+1
end
theorem bulkWAll_map {H β:Type}:∀ (xs:List (DataW H×β)),bulkWAll (xs.map (·.1))=bulkL (fun x=>bulkW x.1) xs
 | []=>rfl
 | x::xs=>by simp only [List.map_cons,bulkWAll,bulkL,bulkWAll_map xs]

theorem repL_of {α β:Type} {R:List Nat→List Value→α→Prop} {sz:Nat} {bk:α→Nat} {bw:β→Nat}:∀ {n:Nat} {cs:List Value} {xs:List β},xs.length=n→cs.length=n*sz→(∀ i,i<n→∃ y z,xs[i]?=some z∧R [] ((cs.drop (i*sz)).take sz) y∧bk y≤bw z) →
  ∃ l:List α,l.length=n∧RepL R sz [] cs l∧bulkL bk l≤bulkL bw xs
 | 0,cs,[],_,h,_=>⟨[],rfl,⟨rfl,by simpa using h⟩,Nat.le_refl _⟩
 | n+1,cs,x::xs,hx,h,hr=>by
  obtain ⟨y,z,hz,hy,hb⟩:=hr 0 (by omega)
  have e:(n+1)*sz=n*sz+sz:=Nat.succ_mul n sz
  obtain ⟨l,h1,h2,h3⟩:=repL_of (R:=R) (bk:=bk) (bw:=bw) (n:=n) (cs:=cs.drop sz) (sz:=sz) (xs:=xs) (by simpa using hx) (by simp; omega) (fun i hi=>by
   obtain ⟨y,z,hz,hy,hb⟩:=hr (i+1) (by omega)
   refine ⟨y,z,by simpa using hz,?_,hb⟩
   rw [List.drop_drop]
   rw [show sz+i*sz=(i+1)*sz by rw [Nat.succ_mul]; omega]
   exact hy)
  have hz:x=z:=by simpa using hz
  subst hz
  exact ⟨y::l,by simp [h1],⟨[],[],rfl,by simpa using hy,h2⟩,by simp only [bulkL]; omega⟩
 | 0,_,_::_,h,_,_=>by simp at h
 | _+1,_,[],h,_,_=>by simp at h

theorem cellsOf_ty {n:Nat} {T:TypeId} {t:Ty} (h:tyOk P n T t=true):P.cellsOf T=t.size:=by
 obtain ⟨i,h1,h2,_⟩:=tyOk_info h
 simp [Program.cellsOf,h1,h2]

theorem rep_of_trod_aux:∀ (t:Ty),t.flat=true →
  (∀ {n:Nat} {T:TypeId} {fuel:Nat} {cs:List Value} {x:DataW X×List MemPlace},tyOk P n T t=true→DataW.trod enc P W 0 sp held fuel T cs=some x→∃ y:t.den,Rep W.heap (fun b=>b<W.heap.size) t [] cs y∧t.bulk y≤bulkW x.1) ∧
  (∀ {n:Nat} {fs:List Field} {off m:Nat} {cs:List Value} {xs:List (DataW X×List MemPlace)},fieldsOk (tyOk P n) fs off t=true→xs.length=fs.length→(∀ (i:Nat) (f:Field),fs[i]?=some f→DataW.trod enc P W 0 sp held m f.type ((cs.drop f.offset).take (P.cellsOf f.type))=xs[i]?) →
   ∃ y:t.den,Rep W.heap (fun b=>b<W.heap.size) t [] ((cs.drop off).take t.size) y∧t.bulk y≤bulkL (fun x=>bulkW x.1) xs):=by
 intro t
 have strct:∀ {t:Ty},(∀ {n:Nat} {fs:List Field} {off m:Nat} {cs:List Value} {xs:List (DataW X×List MemPlace)},fieldsOk (tyOk P n) fs off t=true→xs.length=fs.length→(∀ (i:Nat) (f:Field),fs[i]?=some f→DataW.trod enc P W 0 sp held m f.type ((cs.drop f.offset).take (P.cellsOf f.type))=xs[i]?) →
   ∃ y:t.den,Rep W.heap (fun b=>b<W.heap.size) t [] ((cs.drop off).take t.size) y∧t.bulk y≤bulkL (fun x=>bulkW x.1) xs)→t.agg=true→(∀ n u,t≠.arr n u) →
   ∀ {n:Nat} {T:TypeId} {fuel:Nat} {cs:List Value} {x:DataW X×List MemPlace},tyOk P n T t=true→DataW.trod enc P W 0 sp held fuel T cs=some x→∃ y:t.den,Rep W.heap (fun b=>b<W.heap.size) t [] cs y∧t.bulk y≤bulkW x.1:=by
  intro t hB hag hna n T fuel cs x hT h
  obtain ⟨fs,k',h1,h2⟩:=tyOk_struct hT hag hna
  obtain ⟨xs,m,_,rfl,hl,hlen,hf⟩:=DataW.trod_struct h1 h
  obtain ⟨y,hy,hb⟩:=hB (cs:=cs) (m:=m) (xs:=xs) h2 (by simpa using hlen) (fun i f hf'=>hf i f (by simpa using hf'))
  refine ⟨y,?_,?_⟩
  ·rw [cellsOf_ty hT] at hl
   rw [List.drop_zero,List.take_of_length_le (by omega)] at hy
   exact hy
  ·simp only [bulkW,bulkWAll_map]; omega
 induction t with
 | int k =>
  intro _
  refine ⟨?_,by intro n fs off m cs xs h; cases fs<;>simp [fieldsOk] at h⟩
  intro n T fuel cs x hT h
  obtain ⟨z,rfl,rfl,hw⟩:=DataW.trod_int (tyOk_int hT) h
  simp only [Lit.wf,Bool.and_eq_true,decide_eq_true_eq] at hw
  exact ⟨z,⟨rfl,rfl,hw⟩,by simp [Ty.bulk,bulkW]⟩
 | bool =>
  intro _
  refine ⟨?_,by intro n fs off m cs xs h; cases fs<;>simp [fieldsOk] at h⟩
  intro n T fuel cs x hT h
  obtain ⟨b,rfl,rfl⟩:=DataW.trod_bool (tyOk_bool hT) h
  exact ⟨b,⟨rfl,rfl⟩,by simp [Ty.bulk,bulkW]⟩
 | str =>
  intro _
  refine ⟨?_,by intro n fs off m cs xs h; cases fs<;>simp [fieldsOk] at h⟩
  intro n T fuel cs x hT h
  obtain ⟨s,rfl,rfl,hl⟩:=DataW.trod_string (tyOk_str hT) h
  exact ⟨s.data.toList,⟨rfl,rfl,hl⟩,by simp [Ty.bulk,bulkW]⟩
 | unit =>
  intro _
  have hB:∀ {n:Nat} {fs:List Field} {off m:Nat} {cs:List Value} {xs:List (DataW X×List MemPlace)},fieldsOk (tyOk P n) fs off .unit=true→xs.length=fs.length→(∀ (i:Nat) (f:Field),fs[i]?=some f→DataW.trod enc P W 0 sp held m f.type ((cs.drop f.offset).take (P.cellsOf f.type))=xs[i]?) →
    ∃ y:(.unit:Ty).den,Rep W.heap (fun b=>b<W.heap.size) .unit [] ((cs.drop off).take (.unit:Ty).size) y∧(.unit:Ty).bulk y≤bulkL (fun x=>bulkW x.1) xs:=fun _ _ _=>⟨(),⟨rfl,by simp [Ty.size]⟩,by simp [Ty.bulk]⟩
  exact ⟨strct hB rfl (by simp),hB⟩
 | fn f=>intro h; cases h
 | hole t _=>intro h; cases h
 | map o a b=>intro h; cases h
 | box o g t=>intro h; cases h
 | pair a b iha ihb =>
  intro hflat
  simp only [Ty.flat,Bool.and_eq_true] at hflat
  have hB:∀ {n:Nat} {fs:List Field} {off m:Nat} {cs:List Value} {xs:List (DataW X×List MemPlace)},fieldsOk (tyOk P n) fs off (.pair a b)=true→xs.length=fs.length→(∀ (i:Nat) (f:Field),fs[i]?=some f→DataW.trod enc P W 0 sp held m f.type ((cs.drop f.offset).take (P.cellsOf f.type))=xs[i]?) →
    ∃ y:((.pair a b):Ty).den,Rep W.heap (fun b=>b<W.heap.size) (.pair a b) [] ((cs.drop off).take ((.pair a b):Ty).size) y∧((.pair a b):Ty).bulk y≤bulkL (fun x=>bulkW x.1) xs:=by
   intro n fs off m cs xs hf hlx hx
   cases fs with
   | nil=>simp [fieldsOk] at hf
   | cons f fs =>
    cases xs with
    | nil=>simp at hlx
    | cons x xs =>
    simp only [fieldsOk,Bool.and_eq_true] at hf
    obtain ⟨⟨⟨⟨h1,_⟩,h3⟩,_⟩,h5⟩:=hf
    have h1:f.offset=off:=Nat.eq_of_beq_eq_true h1
    have hx0:=hx 0 f (by simp)
    rw [h1,cellsOf_ty h3] at hx0
    obtain ⟨y1,hy1,hb1⟩:=(iha hflat.1).1 h3 (hx0.trans (by simp:_=some x))
    obtain ⟨y2,hy2,hb2⟩:=(ihb hflat.2).2 (cs:=cs) (m:=m) (xs:=xs) h5 (by simpa using hlx) (fun i f hf=>by simpa using hx (i+1) f (by simpa using hf))
    refine ⟨(y1,y2),⟨[],[],rfl,?_,?_⟩,?_⟩
    ·rw [List.take_take,Nat.min_eq_left (by simp [Ty.size])]; exact hy1
    ·rw [← List.drop_drop] at hy2
     rw [List.drop_take,show (Ty.pair a b).size - a.size=b.size by simp [Ty.size]]; exact hy2
    ·simp only [Ty.bulk,bulkL]; omega
  exact ⟨strct hB rfl (by simp),hB⟩
 | arr n t ih =>
  intro hflat
  refine ⟨?_,by intro n fs off m cs xs h; cases fs<;>simp [fieldsOk] at h⟩
  intro k T fuel cs x hT h
  obtain ⟨e,k',h1,h2,h3⟩:=tyOk_arr hT
  obtain ⟨xs,m,_,rfl,hl,hlen,hf⟩:=DataW.trod_array h1 h
  rw [cellsOf_ty hT] at hl
  have hs:(Ty.arr n t).size=n*t.size:=rfl
  rw [hs] at hl
  obtain ⟨l,g1,g2,g3⟩:=repL_of (R:=Rep W.heap (fun b=>b<W.heap.size) t) (bk:=t.bulk) (bw:=fun x:DataW X×List MemPlace=>bulkW x.1) hlen hl (fun i hi=>by
   have:=hf i hi
   rw [cellsOf_ty h3] at this
   have e:=List.getElem?_eq_getElem (l:=xs) (i:=i) (by omega)
   obtain ⟨y,hy,hb⟩:=(ih hflat).1 h3 (this.trans e)
   exact ⟨y,_,e,hy,hb⟩)
  exact ⟨l,⟨g1,g2⟩,by simp only [Ty.bulk,bulkW,bulkWAll_map]; omega⟩
 | slc o t ih =>
  intro hflat
  simp only [Ty.flat,Bool.and_eq_true,Bool.not_eq_true'] at hflat
  obtain ⟨rfl,hsh⟩:=hflat
  refine ⟨?_,by intro n fs off m cs xs h; cases fs<;>simp [fieldsOk] at h⟩
  intro k T fuel cs x hT h
  obtain ⟨e,k',h1,h2,h3⟩:=tyOk_slc hT
  have hsz:=cellsOf_ty h3
  rcases DataW.trod_slice h1 h with ⟨rfl,rfl⟩|⟨a,len,cap,elems,rest,n,_,rfl,rfl,_,hlc,hcm,hel,hf,_,_⟩
  ·exact ⟨([]:List t.den),.inl ⟨rfl,⟨none,0,rfl,by simp⟩,rfl⟩,by simp [Ty.bulk,bulkW,bulkL]⟩
  ·rw [hsz] at hf
   by_cases h0:len=0
   ·subst h0
    exact ⟨([]:List t.den),.inl ⟨rfl,⟨some a,cap,rfl,by simp⟩,rfl⟩,by simp [Ty.bulk,bulkW,bulkL]⟩
   ·have hcell:∀ i,i<len→∃ ci y z,W.cells? 0 (a.add (i*t.size)) t.size=some ci∧Rep W.heap (fun b=>b<W.heap.size) t [] ci y∧elems[i]?=some z∧t.bulk y≤bulkW z.1:=by
     intro i hi
     have:=hf i hi
     have e:=List.getElem?_eq_getElem (l:=elems) (i:=i) (by omega)
     rw [e] at this
     obtain ⟨ci,k1,k2⟩:=Option.bind_eq_some_iff.1 this
     obtain ⟨y,hy,hb⟩:=(ih hsh).1 h3 k2
     exact ⟨ci,y,_,k1,hy,e,hb⟩
    obtain ⟨c0,_,_,k1,_⟩:=hcell 0 (by omega)
    obtain ⟨_,l0,g0⟩:=World.cells?_some k1
    obtain ⟨b,off,spot⟩:=a
    have hone:=g0 0 (by omega)
    have hsome:∃ v,W.cell? (Addr.mk b off spot)=some v:=by
     have:c0[0]?=some c0[0]:=List.getElem?_eq_getElem (by omega)
     rw [this,Nat.zero_mul] at hone
     exact ⟨_,hone⟩
    obtain ⟨v0,hv0⟩:=hsome
    obtain ⟨arr,T0,fz,hh,hspot⟩:∃ arr T0 fz,W.heap[b]?=some (.cells arr T0 fz)∧spot=none:=by
     unfold World.cell? at hv0
     split at hv0
     ·rename_i c T0 fz hh
      split at hv0
      ·cases hv0
      ·rename_i hs
       exact ⟨c,T0,fz,hh,by simpa using hs⟩
     ·cases hv0
    subst hspot
    have hblk:blk W.heap b=arr.toList:=by simp only [blk,hh]
    have hci:∀ i ci,i<len→W.cells? 0 ((Addr.mk b off none).add (i*t.size)) t.size=some ci→off+i*t.size+t.size≤(blk W.heap b).length∧ci=cellsAt W.heap b (off+i*t.size) t.size:=by
     intro i ci hi hc
     obtain ⟨_,l1,g1⟩:=World.cells?_some hc
     have hj:∀ j,j<t.size→(blk W.heap b)[off+i*t.size+j]?=ci[j]?:=by
      intro j hj
      have:=g1 j hj
      rw [Addr.add_none,Addr.add_none] at this
      simp only [World.cell?,hh] at this
      rw [hblk,← this]; simp
     have hle:off+i*t.size+t.size≤(blk W.heap b).length:=by
      have:=hj (t.size - 1) (by omega)
      rw [List.getElem?_eq_getElem (by omega:t.size - 1<ci.length)] at this
      have:=(List.getElem?_eq_some_iff.1 this).1
      omega
     refine ⟨hle,List.ext_getElem? (fun j=>?_)⟩
     by_cases hjt:j<t.size
     ·rw [← hj j hjt]
      simp only [cellsAt,List.getElem?_take,if_pos hjt,List.getElem?_drop]
     ·rw [List.getElem?_eq_none (by omega),List.getElem?_eq_none (by rw [cellsAt_length _ _ _ hle]; omega)]
    have hlen:off+len*t.size≤(blk W.heap b).length:=by
     obtain ⟨ci,y,_,q1,_⟩:=hcell (len - 1) (by omega)
     have:=(hci (len - 1) ci (by omega) q1).1
     have e:len*t.size=(len - 1)*t.size+t.size:=by
      rw [← Nat.succ_mul]; congr 1; omega
     omega
    obtain ⟨l,q1,q2,q3⟩:=repL_of (R:=Rep W.heap (fun b=>b<W.heap.size) t) (bk:=t.bulk) (bw:=fun x:DataW X×List MemPlace=>bulkW x.1) (n:=len) (sz:=t.size) (cs:=cellsAt W.heap b off (len*t.size)) hel (cellsAt_length _ _ _ hlen) (fun i hi=>by
     obtain ⟨ci,y,z,r1,r2,r3,r4⟩:=hcell i hi
     have hle:i*t.size+t.size≤len*t.size:=by rw [← Nat.succ_mul]; exact Nat.mul_le_mul_right _ hi
     rw [cellsAt_drop,cellsAt_take _ _ _ _ (by omega),← (hci i ci hi r1).2]
     exact ⟨y,z,r3,r2,r4⟩)
    have hblt:b<W.heap.size:=(Array.getElem?_eq_some_iff.1 hh).1
    subst q1
    exact ⟨l,.inr ⟨b,off,cap,[],rfl,hlc,⟨hcm,by simp⟩,hlen,q2,rfl,rfl,hblt⟩,by simp only [Ty.bulk,bulkW,bulkWAll_map]; omega⟩

end
end Go.Ex

namespace Go.Ex
open Go.ChangeShapes Go.WideShapes Go.ChangeAt Go.RowKit

section
variable {P:Program} {X:Type} {enc:TypeId×Value→X} {W W':World} {sp:Nat→Bool} {held:Bool}

theorem cells_of_ok {k:Nat} {T:TypeId} {t:Ty} (hT:tyOk P k T t=true) {r:Go.Reach} {base:Nat} {v:Value} (h:Value.okWide P W r base T v):v=toV t v.cells.toList:=by
 obtain ⟨d,hd,hag⟩:=tyOk_agg hT
 unfold Value.okWide at h
 rw [hd] at h
 cases t with
 | int q =>
  have hu:=tyOk_int hT
  rw [hd] at hu; cases hu
  simp only [Cell.okWide,hd,Cell.ok] at h
  cases v<;>simp_all [toV,Ty.agg,Value.cells]
 | bool =>
  have hu:=tyOk_bool hT
  rw [hd] at hu; cases hu
  simp only [Cell.okWide,hd,Cell.ok] at h
  cases v<;>simp_all [toV,Ty.agg,Value.cells]
 | str =>
  have hu:=tyOk_str hT
  rw [hd] at hu; cases hu
  simp only [Cell.okWide,hd,Cell.ok] at h
  cases v<;>simp_all [toV,Ty.agg,Value.cells]
 | fn f =>
  obtain ⟨_,_,_,hu⟩:=tyOk_fn hT
  rw [hd] at hu; cases hu
  simp only [Cell.okWide,hd,Cell.ok] at h
  cases v<;>simp_all [toV,Ty.agg,Value.cells]
 | map o a b =>
  obtain ⟨_,_,_,hu,_⟩:=tyOk_map hT
  rw [hd] at hu; cases hu
  simp only [Cell.okWide,hd,Cell.ok] at h
  cases v<;>simp_all [toV,Ty.agg,Value.cells]
 | box o g a =>
  cases g with
  | none =>
   obtain ⟨_,_,hu,_⟩:=tyOk_box hT
   rw [hd] at hu; cases hu
   simp only [Cell.okWide,hd,Cell.ok] at h
   cases v<;>simp_all [toV,Ty.agg,Value.cells]
  | some f =>
   obtain ⟨_,_,_,hu⟩:=tyOk_boxF hT
   rw [hd] at hu; cases hu
   simp only [Cell.okWide,hd,Cell.ok] at h
   cases v<;>simp_all [toV,Ty.agg,Value.cells]
 | slc o u =>
  obtain ⟨e,_,hu,_⟩:=tyOk_slc hT
  rw [hd] at hu; cases hu
  simp only [Cell.okWide,hd,Cell.ok] at h
  cases v<;>simp_all [toV,Ty.agg,Value.cells]
 | hole u =>
  obtain ⟨e,hu⟩:=tyOk_hole hT
  rw [hd] at hu; cases hu
  simp only [Cell.okWide,hd,Cell.ok] at h
  cases v<;>simp_all [toV,Ty.agg,Value.cells]
 | _ =>
  cases d<;>first|(exact (Bool.false_ne_true hag.symm).elim)|skip
  all_goals
   obtain ⟨cs,rfl,_⟩:=h
   simp [toV,Ty.agg,Value.cells]

def tysOk (P:Program):List TypeId→List Ty→Bool
 | [],[]=>true
 | T::ts,t::us=>tyOk P 100 T t && t.flat && P.readableRec T && decide (T<P.types.size) && tysOk P ts us
 | _,_=>false

def bulkK:(us:List Ty)→DK (us.map .v)→Nat
 | [],_=>0
 | t::us,x=>t.bulk x.1+bulkK us x.2

theorem ks_of_trod:∀ {ts:List TypeId} {us:List Ty},tysOk P ts us=true→∀ {vs:List Value} {ds:List (DataW X)} {ps:List MemPlace} {base:Nat} {r:Go.Reach},DataW.TrodAll enc P W 0 sp held ts vs ds ps →
  (∀ (j:Nat) T v,ts[j]?=some T→vs[j]?=some v→Value.okWide P W r base T v)→∃ x:DK (us.map .v),KsRep W.heap (fun b=>b<W.heap.size) (us.map .v) vs x []∧ds.length=ts.length∧bulkK us x≤bulkWAll ds
 | [],[],_,vs,ds,ps,base,r,h,_=>by
  obtain ⟨rfl,rfl,rfl⟩:=trodAll_nil h
  exact ⟨(),⟨rfl,rfl⟩,rfl,Nat.le_refl _⟩
 | [],_::_,h,_,_,_,_,_,_,_=>by cases h
 | _::_,[],h,_,_,_,_,_,_,_=>by cases h
 | T::ts,t::us,hty,vs,ds,ps,base,r,h,hok=>by
  simp only [tysOk,Bool.and_eq_true] at hty
  obtain ⟨⟨⟨⟨h1,h2⟩,_⟩,_⟩,h5⟩:=hty
  obtain ⟨v,vs',d,ds',p,q,rfl,rfl,rfl,⟨fuel,hv⟩,hr⟩:=trodAll_cons h
  obtain ⟨y,hy,hb⟩:=(rep_of_trod_aux t h2).1 h1 hv
  obtain ⟨x,hx,hl,hb2⟩:=ks_of_trod h5 hr (fun j T v hT hv=>hok (j+1) T v (by simpa using hT) (by simpa using hv))
  exact ⟨(y,x),⟨v,vs',[],[],rfl,rfl,⟨rfl,_,cells_of_ok h1 (hok 0 T v rfl rfl),hy⟩,hx⟩,by simp [hl],by simp only [bulkK,bulkWAll]; exact Nat.add_le_add hb hb2⟩

theorem trodAll_stays (hl:laidOutB P=true) (hb:Below W.heap.size W W'):∀ {ts:List TypeId} {us:List Ty},tysOk P ts us=true→∀ {vs:List Value} {ds:List (DataW X)} {ps:List MemPlace},DataW.TrodAll enc P W 0 (fun _=>true) true ts vs ds ps →
  (∀ p∈ps,p.block<W.heap.size)→(∀ p∈ps,sp p.block=true)→DataW.TrodAll enc P W' 0 sp true ts vs ds ps
 | [],[],_,vs,ds,ps,h,_,_=>by
  obtain ⟨rfl,rfl,rfl⟩:=trodAll_nil h
  rfl
 | [],_::_,h,_,_,_,_,_,_=>by cases h
 | _::_,[],h,_,_,_,_,_,_=>by cases h
 | T::ts,t::us,hty,vs,ds,ps,h,hlt,hsp=>by
  simp only [tysOk,Bool.and_eq_true] at hty
  obtain ⟨⟨⟨⟨_,_⟩,h3⟩,h4⟩,h5⟩:=hty
  obtain ⟨v,vs',d,ds',p,q,rfl,rfl,rfl,hv,hr⟩:=trodAll_cons h
  refine trodAll_cons_mk (WideElems.Trod_stays hl h3 (of_decide_eq_true h4) hv (fun x hx=>hb.same (hlt x (by simp [hx]))) (fun x hx=>hsp x (by simp [hx]))) ?_
  exact trodAll_stays hl hb h5 hr (fun x hx=>hlt x (by simp [hx])) (fun x hx=>hsp x (by simp [hx]))

def lawC (us:List Ty) (pre:DK (us.map .v)→Prop):Ctr:={ ps:=us.map .v,rs:=[.bool],pre:=pre,fn:=fun _=>(true,()),out:=fun _=>noOut us }
where noOut:(us:List Ty)→DL (wts (us.map .v))
 | []=>()
 | _::us=>noOut us

theorem map_lnk:∀ us:List Ty,(us.map PK.v).any PK.lnk=false
 | []=>rfl
 | _::us=>map_lnk us

theorem law_calls {C:Checked} {f:FuncId} {fn:Func} {s:ChangeSpec} {apart fresh handsOn again:Bool} {us:List Ty} {tb:TypeId} {pre:DK (us.map .v)→Prop}
  (hl:laidOutB C.prog=true) (hty:tysOk C.prog fn.params.toList us=true) (hvars:s.vars=[]) (hs:∀ ds:List (DataW X),ds.length=fn.params.toList.length→s.fn X ds={ results:=[.lit (.bool true)],args:=ds })
  (hres:fn.resultTypes=#[tb]) (htb:C.prog.underlying tb=some .bool) (hv:(lawC us pre).Valid C.prog f)
  {W:World} (hgl:GlOk C.prog W (fun b=>b<W.heap.size)) {base:Nat} {args:Array Value} {ds gs:List (DataW X)} {before:List MemPlace} {rr:Go.Reach} (hpre:∀ x,bulkK us x≤bulkWAll ds→pre x)
  (hval:∀ (j:Nat) t v,fn.params[j]?=some t→args[j]?=some v→Value.okWide C.prog W rr base t v) (hW:DataW.Whole enc C.prog fn.params.toList s.vars apart W args.toList ds gs before) :
  Calls C.prog f args W fun e W'=>∃ v,e=.returned v∧s.post enc C.prog fn apart fresh handsOn again W args v W':=by
 have hlt:=DataW.Whole.lt hW
 have hW':=hW
 obtain ⟨p,q,hA,hV,rfl,hz,hn⟩:=hW
 rw [hvars] at hV
 obtain ⟨rfl,rfl⟩:=trodVars_none hV
 simp only [List.append_nil] at hlt hz hn hW'
 obtain ⟨x,hx,hlen,hbk⟩:=ks_of_trod hty hA (fun j T v hT hv=>hval j T v (by simpa using hT) (by simpa using hv))
 have hc:=hv.run W (fun b=>b<W.heap.size) args.toList x [] (fun _ h=>h) hgl (hpre x hbk) hx (klink_none (map_lnk us)) List.nodup_nil (by simp)
 refine Calls.mono (by simpa using hc) ?_
 rintro e w' ⟨us',O,Lo,S',rfl,hpast,_,_,⟨v,us2,O1,O2,cs,rfl,rfl,rfl,hR,hR2⟩,_,_,_⟩
 have hb:RowKit.Below W.heap.size W w':=⟨hpast.os,hpast.tape.1,hpast.out,hpast.size,fun k hk=>hpast.frame k hk (by simp)⟩
 obtain ⟨rfl,rfl⟩:=hR2
 obtain ⟨_,rfl⟩:=hR
 have hret:retV [toV .bool [.bool ((lawC us pre).fn x).1]]=.bool true:=rfl
 rw [hret]
 have hfn':=hs ds hlen
 have hargs:∀ sp:Nat→Bool,(∀ x∈p,sp x.block=true)→DataW.TrodAll enc C.prog w' 0 sp true fn.params.toList args.toList ds p:=fun sp hsp=>trodAll_stays hl hb hty hA hlt hsp
 have hrs:∀ (b:Nat) (sp:Nat→Bool) (hd:Bool),DataW.TrodAll enc C.prog w' b sp hd fn.resultTypes.toList ((Value.bool true).resultList fn.resultTypes.size) [.lit (.bool true)] []:=by
  intro b sp hd
  rw [hres]
  exact trodAll_cons_mk (shut_bool htb _) trodAll_mk0
 have hvs:∀ sp:Nat→Bool,DataW.TrodVars enc C.prog w' sp s.vars [] []:=by intro sp; rw [hvars]; rfl
 have hold:∀ x∈p,(fun b=>decide (b<W.heap.size)) x.block=true:=fun x hx=>by simpa using hlt x hx
 refine ⟨_,rfl,ds,[],p,[],p,[],hW',?_,?_,?_,?_,?_⟩
 ·rw [List.append_nil,hfn']; exact hrs _ _ _
 ·rw [List.append_nil,hfn']; exact hargs _ hold
 ·rw [List.append_nil,hfn']; exact hvs _
 ·exact hb.frame _
 ·intro _
  refine ⟨ok_one hres rfl (okWide_bool_mk htb _),.lit (.bool true)::ds,[],p,⟨[]++p,[],trodAll_append (hargs _ (fun _ _=>rfl)) (hrs _ _ _),hvs _,by simp,?_,?_⟩,fun x hx _=>by simpa using hx⟩
  ·intro b off hp
   rw [hb.frozen (hlt _ hp)]
   exact hz b off hp
  ·exact hn

def smallC (us:List Ty):Ctr:=lawC us (fun x=>bulkK us x≤1048576)
end
end Go.Ex
