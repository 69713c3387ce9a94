import Derived.Orders
import Derived.Below
import Derived.KernelRfl
import Derived.Laws.Cells
set_option linter.unusedVariables false
set_option linter.unusedSimpArgs false
set_option linter.unusedSectionVars false
abbrev yY:=List UInt8
set_option linter.defProp false
def aAa:=@Bool.and_eq_true
def aAb:=@List.getD_eq_getElem?_getD
def aAc:=@Option.some.injEq
def aAd:=@Nat.eq_of_beq_eq_true
def aAe:=@List.length_append
def aAf:=@List.getElem?_eq_getElem
def aAg:=@List.nodup_append
def aAh:=@List.length_cons
def aAi:=@List.mem_append
def aAj:=@Nat.le_refl
def aAk:=@List.length_take
def aAl:=@List.append_assoc
def aAm:=@Nat.mul_le_mul_right
def aAn:=@List.length_map
def aAo:=@Array.getElem?_eq_some_iff
def aAp:=@List.mem_cons
def aAq:=@List.length_drop
def aAr:=@Nat.lt_of_lt_of_le
def aAs:=@List.nodup_cons
def aAt:=@Bool.not_eq_true'
def aAu:=@List.take_of_length_le
def aAv:=@Nat.le_trans
def aAw:=@List.nodup_nil
def aAx:=@Prod.mk.injEq
def aAy:=@Bool.false_ne_true
def aAz:=@Nat.zero_le
def aBa:=@List.cons.injEq
def aBb:=@List.mem_append_left
def aBc:=@List.append_nil
def aBd:=@List.mem_cons_of_mem
def aBe:=@Option.map_some
def aBf:=@Nat.succ_mul
def aBg:=@List.mem_singleton
def aBh:=@List.all_eq_true
def aBi:=@List.getElem?_drop
def aBj:=@List.drop_drop
def aBk:=@Nat.add_assoc
def aBl:=@Nat.add_mul
def aBm:=@List.append_eq_nil_iff
def aBn:=@List.getElem?_take
def aBo:=@Bool.or_eq_true
def aBp:=@List.mem_cons_self
def aBq:=@Decidable.not_not
def aBr:=@List.mem_append_right
def aBs:=@List.Perm.append_left
def aBt:=@List.mem_filter
def aBu:=@Bool.or_eq_false_iff
def aBv:=@List.take_append_drop
def aBw:=@List.length_singleton
def aBx:=@List.getElem?_eq_none
def aBy:=@Array.getElem?_eq_getElem
def aBz:=@List.mem_filterMap
def aCa:=@List.length_set
def aCb:=@List.drop_zero
def aCc:=@Nat.min_eq_left
def aCd:=@List.length_pos_iff
def aCe:=@List.prefix_rfl
def aCf:=@Array.getElem?_eq_none
def aCg:=@List.length_replicate
def aCh:=@List.length_nil
def aCi:=@Array.getD_eq_getD_getElem?
def aCj:=@List.length_eq_zero_iff
def aCk:=@Bool.false_eq_true
def aCl:=@Option.map_eq_some_iff
def aCm:=@Option.isNone_iff_eq_none
def aCn:=@List.take_take
def aCo:=@List.mem_range
def aCp:=@List.getElem_mem
def aCq:=@Int.toNat_natCast
def aCr:=@Option.map_none
def aCs:=@Nat.add_sub_cancel_left
def aCt:=@List.all_cons
def aCu:=@List.mem_map
def aCv:=@List.cons_append
def aCw:=@Array.length_toList
def aCx:=@Nat.lt_irrefl
def aCy:=@Nat.le_of_ble_eq_true
def aCz:=@List.perm_append_comm
def aDa:=@List.filterMap_append
def aDb:=@List.map_cons
def aDc:=@Array.getElem?_setIfInBounds
def aDd:=@List.take_left'
def aDe:=@List.filter_eq_self
def aDf:=@Nat.blt_eq
def aDg:=@List.filter_cons
def aDh:=@List.filter_append
def aDi:=@Bool.or_false
def aDj:=@List.getElem?_eq_some_iff
def aDk:=@List.drop_take
def aDl:=@List.eq_nil_iff_forall_not_mem
def aDm:=@List.getElem?_cons_succ
def aDn:=@Nat.le_add_right
def aDo:=@List.take_length
def aDp:=@List.take_append_of_le_length
def aDq:=@List.not_mem_nil
def aDr:=@List.drop_eq_nil_of_le
def aDs:=@Nat.lt_or_gt_of_ne
def aDt:=@Nat.add_zero
def aDu:=@List.ext_getElem?
def aDv:=@List.getElem?_append_right
def aDw:=@Int.tmod_eq_emod_of_nonneg
def aDx:=@Option.map_map
def aDy:=@List.drop_eq_getElem_cons
def aDz:=@List.replicate_succ
def aEa:=@Int.toNat_of_nonneg
def aEb:=@Int.le_refl
def aEc:=@Array.getElem?_push
def aEd:=@Nat.lt_or_ge
def aEe:=@List.pairwise_cons
def aEf:=@List.length_mapIdx
def aEg:=@Int.tmod_lt_of_pos
def aEh:=@Int.eq_ofNat_of_zero_le
def aEi:=@Int.ediv_nonneg
def aEj:=@Bool.true_and
def aEk:=@List.getElem?_set
def aEl:=@List.flatten_cons
def aEm:=@Bool.not_eq_false
def aEn:=@Array.getElem?_setIfInBounds_ne
def aEo:=@Nat.zero_add
def aEp:=@Int.emod_add_mul_ediv
def aEq:=@Array.getElem?_modify
def aEr:=@Nat.pow_le_pow_right
def aEs:=@List.range_eq_range'
def aEt:=@List.mem_of_mem_drop
def aEu:=@List.mem_of_getElem?
def aEv:=@Option.some.inj
def aEw:=@List.nil_prefix
def aEx:=@List.map_append
def aEy:=@List.drop_left'
def aEz:=@Int.emod_nonneg
def aFa:=@Nat.zero_mul
def aFb:=@Nat.le_of_eq
def aFc:=@List.prefix_append
def aFd:=@Int.le_of_lt
def aFe:=@Bool.not_eq_false'
def aFf:=@List.getElem?_append_left
def aFg:=@List.Perm.refl
def aFh:=@List.size_toArray
def aFi:=@List.flatMap_cons
def aFj:=@Array.size_append
def aFk:=@List.getElem?_cons_zero
def aFl:=@List.any_cons
def aFm:=@List.ext_getElem
def aFn:=@List.any_eq_true
def aFo:=@Nat.pow_succ
def aFp:=@Nat.beq_refl
def aFq:=@Nat.add_comm
def aFr:=@List.headD_cons
def aFs:=@Nat.ble_eq
def aFt:=@Nat.div_lt_of_lt_mul
def aFu:=@List.mem_of_mem_take
def aFv:=@List.take_zero
def aFw:=@Int.mul_nonneg
def aFx:=@List.take_succ_cons
def aFy:=@Nat.xor_lt_two_pow
def aFz:=@Nat.add_sub_cancel
def aGa:=@Int.natCast_nonneg
def aGb:=@Bool.not_true
def aGc:=@List.take_add_one
def aGd:=@List.mem_range'_1
def aGe:=@List.filter_congr
def aGf:=@Int.neg_tmod
def aGg:=@Int.le.intro
def aGh:=@Option.getD_some
def aGi:=@Option.bind_some
def aGj:=@List.range'_succ
def aGk:=@List.drop_append_of_le_length
def aGl:=@Int.ediv_le_self
def aGm:=@List.prefix_append_right_inj
def aGn:=@Nat.min_def
def aGo:=@Nat.le_succ
def aGp:=@List.foldl_cons
def aGq:=@Int.tdiv_eq_ediv_of_nonneg
def aGr:=@Array.toList_setIfInBounds
def aGs:=@List.mapM_cons
def aGt:=@Bool.false_and
def aGu:=@Array.mapM_eq_mapM_toList
def aGv:=@Array.size_setIfInBounds
def aGw:=@Array.ext'
def aGx:=@List.take_nil
def aGy:=@List.prefix_iff_eq_take
def aGz:=@List.getElem?_replicate
def aHa:=@List.cons.inj
def aHb:=@Bool.and_self
def aHc:=@Nat.testBit_lt_two_pow
def aHd:=@List.sum_replicate_nat
def aHe:=@List.getElem?_set_self
def aHf:=@List.getElem?_dropLast
def aHg:=@List.filter_eq_nil_iff
def aHh:=@List.Perm.append_right
def aHi:=@Nat.sub_self
def aHj:=@List.map_nil
def aHk:=@List.map_map
def aHl:=@Bool.beq_eq_decide_eq
def aHm:=@Array.getElem?_toList
def aHn:=@Array.getElem?_append
def aHo:=@List.pairwise_append
def aHp:=@List.getElem?_mapIdx
def aHq:=@List.getElem?_append
def aHr:=@Bool.and_eq_true_iff
def aHs:=@Array.toArray_toList
def aHt:=@Nat.mul_one
def aHu:=@Nat.add_le_add_left
def aHv:=@List.takeWhile_cons
def aHw:=@List.length_flatten
def aHx:=@List.getElem_of_mem
def aHy:=@List.filter_sublist
def aHz:=@List.dropWhile_cons
def aIa:=@Int.neg_neg
def aIb:=@Iff.rfl
namespace Go.Ex
inductive Ty where
 | int (k:IntKind)|bool|str|unit
 | fn (f:Nat)
 | map (o:Bool) (k v:Ty)
 | box (o:Bool) (g:Option Nat) (t:Ty)
 | pair (a b:Ty)
 | arr (n:Nat) (t:Ty)
 | d0 (o:Bool) (t:Ty)
 | hole (t:Ty)
 | B9 (t:Ty)
 deriving DecidableEq,Inhabited
@[reducible] def Ty.den:Ty->Type
 | .int _=>Int
 | .bool=>Bool
 | .str=>yY
 | .unit=>Unit
 | .fn _=>Bool
 | .map _ k v=>Option (List (k.den×v.den))
 | .box _ _ t=>Option t.den
 | .pair a b=>a.den×b.den
 | .arr _ t=>List t.den
 | .d0 _ t=>List t.den
 | .hole t=>List t.den
 | .B9 t=>Nat×(List t.den×List t.den)
def Ty.s4:(t:Ty)->t.den
 | .int _=>(0:Int)
 | .bool=>false
 | .str=>([]:yY)
 | .unit=>()
 | .fn _=>false
 | .map _ _ _=>none
 | .box _ _ _=>none
 | .pair a b=>(a.s4,b.s4)
 | .arr n t=>List.replicate n t.s4
 | .d0 _ _=>[]
 | .hole _=>[]
 | .B9 _=>(1,([],[]))
def Ty.size:Ty->Nat
 | .int _|.bool|.str|.fn _|.d0 _ _|.map _ _ _|.box _ _ _|.hole _|.B9 _=>1
 | .unit=>0
 | .pair a b=>a.size+b.size
 | .arr n t=>n*t.size
def Ty.shared:Ty->Bool
 | .int _|.bool|.str|.unit|.fn _|.hole _=>true
 | .pair a b=>a.shared && b.shared
 | .arr _ t=>t.shared
 | .d0 o t=>!o && t.shared
 | .map o _ _=>!o
 | .box o _ t=>!o && t.shared
 | .B9 _=>false
def Ty.W4:Ty->Bool
 | .pair a b=>a.W4 && b.W4
 | .arr _ t=>t.W4
 | .d0 _ t=>t.W4
 | .box _ _ t=>t.W4
 | .map _ k v=>k.W4 && v.W4
 | .hole _=>false
 | .B9 _=>false
 | _=>true
def Ty.agg:Ty->Bool
 | .pair _ _|.unit|.arr _ _=>true
 | _=>false
def Ty.sh:Ty->Ty
 | .pair a b=>.pair a.sh b.sh
 | .arr n t=>.arr n t.sh
 | .d0 _ t=>.d0 false t.sh
 | .hole t=>.d0 false t.sh
 | .B9 t=>.B9 t.sh
 | .box _ g t=>.box false g t.sh
 | .map _ k v=>.map false k v
 | t=>t
def Ty.shH:Ty->Ty
 | .pair a b=>.pair a.shH b.shH
 | .hole t=>.hole t
 | .B9 t=>.B9 t.sh
 | .arr n t=>.arr n t.sh
 | .d0 _ t=>.d0 false t.sh
 | .box _ g t=>.box false g t.sh
 | .map _ k v=>.map false k v
 | t=>t
def Ty.okH:Ty->Bool
 | .pair a b=>a.okH && b.okH
 | .hole _=>true
 | .B9 _=>false
 | .arr _ t=>t.W4
 | .d0 _ t=>t.W4
 | .box _ _ t=>t.W4
 | .map _ k v=>k.W4 && v.W4
 | _=>true
def Dg:Value->Bool
 | .slice _ _ _=>true
 | _=>false
def r9 (k:IntKind) (n:Int):Prop:=k.min<=n/\n<=k.max
def w6 (H:Array Go.Obj) (b:Nat):List Value :=
 match H[b]? with
 | some (.cells arr _ _)=>arr.toList
 | _=>[]
def e8 (H:Array Go.Obj) (b off n:Nat):List Value:=((w6 H b).drop off).take n
def zX (o:Bool) (cap:Nat):Prop:=cap<=maxLen/\(o=true->1<=cap)
def j5 {α:Type} (R:List Nat->List Value->α->Prop) (sz:Nat):List Nat->List Value->List α->Prop
 | O,cs,[]=>O=[]/\cs=[]
 | O,cs,x::l=>∃ O1 O2,O=O1++O2/\R O1 (cs.take sz) x/\j5 R sz O2 (cs.drop sz) l
def Lie (H:Array Go.Obj) (b:Nat) (arr:Array Value) (T:TypeId) (fz:Nat×Nat):Prop:=H[b]?=some (.cells arr T fz)/\(fz=(0,0)\/arr.size<=fz.1)
def P5 (H:Array Go.Obj) (b n:Nat):Prop:=∃ arr T,(∃ fz,Lie H b arr T fz)/\n<=arr.size
def Ty.isB:Ty->Bool
 | .int .u8=>true
 | _=>false
def V4 (q:Bool) (H:Array Go.Obj) (b n:Nat):Prop:=∃ arr T,(∃ fz,H[b]?=some (.cells arr T fz)/\(fz=(0,0)\/(q=true/\arr.size<=fz.1)))/\n<=arr.size
theorem V4.free {q:Bool} {H:Array Go.Obj} {b n:Nat}:V4 q H b n->P5 H b n:=λ⟨arr,T,⟨fz,e,ef⟩,hn⟩=>⟨arr,T,⟨fz,e,ef.imp id (·.2)⟩,hn⟩
def fnV (f:Nat) (b:Bool):Value:=match b with|true=>.func (.func f) #[] #[]|false=>if f=4000000 then .nilIface else .nilFunc
def xi (g:Option Nat) (a:Addr):Value:=match g with|none=>.pointer (some a)|some f=>.func (.func f) #[] #[.pointer (some a)]
def Dc (g:Option Nat):Value:=match g with|none=>.pointer none|some _=>.nilFunc
theorem Yj {g:Option Nat} {a b:Addr} (h:xi g a=xi g b):a=b:=by cases g<;>simpa [xi] using h
theorem Pf {g:Option Nat} {a:Addr} (h:xi g a=Dc g):False:=by cases g<;>cases h
def l5 (t:Ty) (cs:List Value):Value:=if t.agg then .agg cs.toArray else cs.headD undef
def S3 {α β:Type} (R:List Value->α->Prop) (R':List Value->β->Prop) (t u:Ty):List MapEntry->List (α×β)->Prop
 | [],l=>l=[]
 | e::es,l=>∃ x y l' cs ds,l=(x,y)::l'/\e.key=l5 t cs/\R cs x/\e.val=l5 u ds/\R' ds y/\S3 R R' t u es l'
def g9 (H:Array Go.Obj) (S:Nat->Prop):(t:Ty)->List Nat->List Value->t.den->Prop
 | .int k,O,cs,n=>O=[]/\cs=[.int k n]/\r9 k n
 | .bool,O,cs,b=>O=[]/\cs=[.bool b]
 | .str,O,cs,s=>O=[]/\cs=[.string ⟨s.toArray⟩]/\s.length<=maxLen
 | .unit,O,cs,_=>O=[]/\cs=[]
 | .fn f,O,cs,b=>O=[]/\cs=[fnV f b]
 | .map o k v,O,cs,x=>(x=none/\O=[]/\cs=[.map none]) \/
  ∃ l b es ck,x=some l/\cs=[.map (some b)]/\H[b]?=some (.map es ck)/\S3 (g9 H S k []) (g9 H S v []) k v es.toList l /\
   match o with
   | true=>O=[b]
   | false=>O=[]/\S b
 | .box o g t,O,cs,x=>(x=none/\O=[]/\cs=[Dc g]) \/
  ∃ y b off O',x=some y/\cs=[xi g ⟨b,off,none⟩]/\off+t.size<=(w6 H b).length/\g9 H S t O' (e8 H b off t.size) y /\
   match o with
   | true=>O=b::O'/\P5 H b (off+t.size)
   | false=>O=[]/\O'=[]/\S b
 | .pair a b,O,cs,x=>∃ O1 O2,O=O1++O2/\g9 H S a O1 (cs.take a.size) x.1/\g9 H S b O2 (cs.drop a.size) x.2
 | .arr n t,O,cs,l=>List.length l=n/\j5 (g9 H S t) t.size O cs l
 | .d0 o t,O,cs,l =>
  (O=[]/\(∃ a c,cs=[.slice a 0 c]/\(o=true->c=0))/\l=[]) \/
  ∃ b off cap O',cs=[.slice (some ⟨b,off,none⟩) (List.length l) cap]/\List.length l<=cap/\zX o cap /\
   off+List.length l*t.size<=(w6 H b).length/\j5 (g9 H S t) t.size O' (e8 H b off (List.length l*t.size)) l /\
   match o with
   | true=>O=b::O'/\V4 t.isB H b (off+cap*t.size)
   | false=>O=[]/\O'=[]/\S b
 | .hole _,O,cs,_=>O=[]/\∃ v,cs=[v]/\Dg v=true
 | .B9 t,O,cs,(0,l,_) =>
  (O=[]/\(∃ a c,cs=[.slice a 0 c]/\(false=true->c=0))/\l=[]) \/
  ∃ b off cap O',cs=[.slice (some ⟨b,off,none⟩) (List.length l) cap]/\List.length l<=cap/\zX false cap /\
   off+List.length l*t.size<=(w6 H b).length/\j5 (g9 H S t) t.size O' (e8 H b off (List.length l*t.size)) l /\
   (O=[]/\O'=[]/\S b)
 | .B9 t,O,cs,(1,l,_) =>
  (O=[]/\(∃ a c,cs=[.slice a 0 c]/\(true=true->c=0))/\l=[]) \/
  ∃ b off cap O',cs=[.slice (some ⟨b,off,none⟩) (List.length l) cap]/\List.length l<=cap/\zX true cap /\
   off+List.length l*t.size<=(w6 H b).length/\j5 (g9 H S t) t.size O' (e8 H b off (List.length l*t.size)) l /\
   (O=b::O'/\V4 t.isB H b (off+cap*t.size))
 | .B9 t,O,cs,(n+2,l,m) =>
  ∃ b off O',cs=[.slice (some ⟨b,off,none⟩) (List.length l) (List.length l+List.length m)]/\zX true (List.length l+List.length m) /\
   off+List.length (l++m)*t.size<=(w6 H b).length/\j5 (g9 H S t) t.size O' (e8 H b off (List.length (l++m)*t.size)) (l++m) /\
   match n with
   | 0=>O=b::O'/\V4 t.isB H b (off+(List.length l+List.length m)*t.size)
   | _=>O=[]/\O'=[]/\S b
section
variable {H H':Array Go.Obj} {S S':Nat->Prop}
theorem g9.m1 {t:Ty} {O:List Nat} {cs:List Value} {l m:List t.den}:g9 H S (.B9 t) O cs (1,l,m)↔g9 H S (.d0 true t) O cs l:=aIb
theorem Q5 {b:Nat} (h:H'[b]?=H[b]?):w6 H' b=w6 H b:=by simp only [w6,h]
theorem l6 {b:Nat} (h:H'[b]?=H[b]?) (off n:Nat):e8 H' b off n=e8 H b off n:=by simp only [e8,Q5 h]
theorem j5.mono {α:Type} {R R':List Nat->List Value->α->Prop} {sz:Nat} {L:List Nat}:∀ {l:List α} {O:List Nat} {cs:List Value},
  (∀ b∈O,b∈L)->(∀ O cs x,(∀ b∈O,b∈L)->R O cs x->R' O cs x)->j5 R sz O cs l->j5 R' sz O cs l
 | [],_,_,_,_,h=>h
 | _::_,_,_,hL,hr,⟨O1,O2,e,h1,h2⟩=>by
  subst e;exact ⟨O1,O2,rfl,hr _ _ _ (λ b hb=>hL b (by simp [hb])) h1,j5.mono (λ b hb=>hL b (by simp [hb])) hr h2⟩
theorem S3.mono {α β:Type} {R R1:List Value->α->Prop} {R' R1':List Value->β->Prop} {t u:Ty} (h:∀ cs x,R cs x->R1 cs x) (h':∀ cs x,R' cs x->R1' cs x):∀ {es:List MapEntry} {l:List (α×β)},S3 R R' t u es l->S3 R1 R1' t u es l
 | [],_,e=>e
 | _::_,_,⟨x,y,l',cs,ds,e,e1,e2,e3,e4,e5⟩=>⟨x,y,l',cs,ds,e,e1,h _ _ e2,e3,h' _ _ e4,S3.mono h h' e5⟩
theorem g9.KW {o:Bool} {t:Ty} (ih:∀ {O:List Nat} {cs:List Value} {x:t.den},g9 H S t O cs x->(∀ b,b∈O\/S b->H'[b]?=H[b]?)->(∀ b,S b->S' b)->g9 H' S' t O cs x)
  {O:List Nat} {cs:List Value} {x:List t.den} (h:g9 H S (.d0 o t) O cs x) (hH:∀ b,b∈O\/S b->H'[b]?=H[b]?) (hS:∀ b,S b->S' b):g9 H' S' (.d0 o t) O cs x:=by
 rcases h with h|⟨b,off,cap,O',h1,h2,h3,h4,h5,h6⟩
 ·exact Or.inl h
 ·refine Or.inr ⟨b,off,cap,O',h1,h2,h3,?_⟩
  have hb:H'[b]?=H[b]?:=by
   apply hH;cases o with
   | true=>left; rw [h6.1]; simp
   | false=>right; exact h6.2.2
  have bU:∀ c∈O',c∈O:=by
   intro c hc;cases o with
   | true=>rw [h6.1]; simp [hc]
   | false=>rw [h6.2.1] at hc; cases hc
  rw [Q5 hb,l6 hb];refine ⟨h4,j5.mono (L:=O) bU (λ O1 c y hL hr=>ih hr (λ b hb=>hH b (hb.imp (hL b) id)) hS) h5,?_⟩;cases o with
  | true=>obtain ⟨e,arr,T,e1,e2⟩:=h6; obtain ⟨fz,e1,e3⟩:=e1; exact ⟨e,arr,T,⟨fz,hb.trans e1,e3⟩,e2⟩
  | false=>exact ⟨h6.1,h6.2.1,hS b h6.2.2⟩
theorem g9.u5:∀ {t:Ty} {O:List Nat} {cs:List Value} {x:t.den},g9 H S t O cs x ->
  (∀ b,b∈O\/S b->H'[b]?=H[b]?)->(∀ b,S b->S' b)->g9 H' S' t O cs x:=by
 intro t
 induction t with
 | int k=>intro O cs x h _ _; exact h
 | bool=>intro O cs x h _ _; exact h
 | str=>intro O cs x h _ _; exact h
 | unit=>intro O cs x h _ _; exact h
 | fn f=>intro O cs x h _ _; exact h
 | hole t=>intro O cs x h _ _; exact h
 | map o k v ihk ihv =>
  rintro O cs x (h|⟨l,b,es,ck,h0,h2,h3,h4,h5⟩) hH hS
  ·exact .inl h
  have gw:∀ c,c∈([]:List Nat)\/S c->H'[c]?=H[c]?:=λ c hc=>hH c (.inr (by rcases hc with hc|hc; cases hc; exact hc));have hb:H'[b]?=H[b]?:=by
   apply hH;cases o with
   | true=>left; rw [h5]; simp
   | false=>right; exact h5.2
  refine .inr ⟨l,b,es,ck,h0,h2,hb.trans h3,h4.mono (λ _ _ h=>ihk h gw hS) (λ _ _ h=>ihv h gw hS),?_⟩;cases o with
  | true=>exact h5
  | false=>exact ⟨h5.1,hS b h5.2⟩
 | box o g t ih =>
  rintro O cs x (h|⟨y,b,off,O',h0,h1,h2,h3,h4⟩) hH hS
  ·exact .inl h
  have hb:H'[b]?=H[b]?:=by
   apply hH;cases o with
   | true=>left; rw [h4.1]; simp
   | false=>right; exact h4.2.2
  have bU:∀ c∈O',c∈O:=by
   intro c hc;cases o with
   | true=>rw [h4.1]; simp [hc]
   | false=>rw [h4.2.1] at hc; cases hc
  refine .inr ⟨y,b,off,O',h0,h1,by rw [Q5 hb]; exact h2,by rw [l6 hb]; exact ih h3 (λ b hb=>hH b (hb.imp (bU b) id)) hS,?_⟩;cases o with
  | true=>obtain ⟨e,arr,T,e1,e2⟩:=h4; obtain ⟨fz,e1,e3⟩:=e1; exact ⟨e,arr,T,⟨fz,hb.trans e1,e3⟩,e2⟩
  | false=>exact ⟨h4.1,h4.2.1,hS b h4.2.2⟩
 | pair a b iha ihb =>
  rintro O cs x ⟨O1,O2,rfl,h1,h2⟩ hH hS;exact ⟨O1,O2,rfl,iha h1 (λ b hb=>hH b (hb.imp (λ h=>by simp [h]) id)) hS,ihb h2 (λ b hb=>hH b (hb.imp (λ h=>by simp [h]) id)) hS⟩
 | arr n t ih =>
  rintro O cs x ⟨h1,h2⟩ hH hS;refine ⟨h1,j5.mono (L:=O) (λ _ h=>h) (λ O1 c y hL hr=>?_) h2⟩;exact ih hr (λ b hb=>hH b (hb.imp (hL b) id)) hS
 | d0 o t ih=>intro O cs x h hH hS; exact g9.KW ih h hH hS
 | B9 t ih =>
  rintro O cs ⟨n,l,m⟩ h hH hS
  match n,h with
  | 0,h=>exact g9.KW (o:=false) ih h hH hS
  | 1,h=>exact g9.KW (o:=true) ih h hH hS
  | n+2,⟨b,off,O',h1,h2,h3,h4,h5⟩ =>
   have hb:H'[b]?=H[b]?:=by
    apply hH;cases n with
    | zero=>left; rw [h5.1]; simp
    | succ n=>right; exact h5.2.2
   have bU:∀ c∈O',c∈O:=by
    intro c hc;cases n with
    | zero=>rw [h5.1]; simp [hc]
    | succ n=>rw [h5.2.1] at hc; cases hc
   refine ⟨b,off,O',h1,h2,by rw [Q5 hb]; exact h3,by rw [l6 hb]; exact j5.mono (L:=O) bU (λ O1 c y hL hr=>ih hr (λ b hb=>hH b (hb.imp (hL b) id)) hS) h4,?_⟩;cases n with
   | zero=>obtain ⟨e,arr,T,e1,e2⟩:=h5; obtain ⟨fz,e1,e3⟩:=e1; exact ⟨e,arr,T,⟨fz,hb.trans e1,e3⟩,e2⟩
   | succ n=>exact ⟨h5.1,h5.2.1,hS b h5.2.2⟩
theorem j5.length {α:Type} {R:List Nat->List Value->α->Prop} {sz:Nat} (hR:∀ O cs x,R O cs x->cs.length=sz):∀ {l:List α} {O:List Nat} {cs:List Value},
  j5 R sz O cs l->cs.length=l.length*sz
 | [],_,_,⟨_,h⟩=>by simp [h]
 | x::l,_,cs,⟨O1,O2,_,h1,h2⟩=>by
  have e1:=hR _ _ _ h1;have e2:=j5.length hR h2;simp only [aAk,aAq,aAh,aBf] at *
  omega
theorem g9.length:∀ {t:Ty} {O:List Nat} {cs:List Value} {x:t.den},g9 H S t O cs x->cs.length=t.size:=by
 intro t
 induction t with
 | int k=>rintro O cs x ⟨_,rfl,_⟩; rfl
 | bool=>rintro O cs x ⟨_,rfl⟩; rfl
 | str=>rintro O cs x ⟨_,rfl,_⟩; rfl
 | unit=>rintro O cs x ⟨_,rfl⟩; rfl
 | fn f=>rintro O cs x ⟨_,rfl⟩; rfl
 | hole t=>rintro O cs x ⟨_,v,rfl,_⟩; rfl
 | map o k v=>rintro O cs x (⟨_,_,rfl⟩|⟨l,b,es,ck,_,rfl,_⟩)<;>rfl
 | box o g t=>rintro O cs x (⟨_,_,rfl⟩|⟨y,b,off,O',_,rfl,_⟩)<;>rfl
 | pair a b iha ihb =>
  rintro O cs x ⟨O1,O2,rfl,h1,h2⟩;have e1:=iha h1;have e2:=ihb h2;simp only [aAk,aAq,Ty.size] at *
  omega
 | arr n t ih =>
  rintro O cs x ⟨h1,h2⟩;have:=j5.length (λ _ _ _ h=>ih h) h2;simp only [Ty.size];rw [this,h1]
 | d0 o t ih =>
  rintro O cs x h;rcases h with ⟨_,⟨_,_,rfl,_⟩,_⟩|⟨b,off,cap,O',rfl,_⟩<;>rfl
 | B9 t ih =>
  rintro O cs ⟨n,l,m⟩ h
  match n,h with
  | 0,h=>rcases h with ⟨_,⟨_,_,rfl,_⟩,_⟩|⟨b,off,cap,O',rfl,_⟩<;>rfl
  | 1,h=>rcases h with ⟨_,⟨_,_,rfl,_⟩,_⟩|⟨b,off,cap,O',rfl,_⟩<;>rfl
  | n+2,⟨b,off,O',h1,_⟩=>rw [h1]; rfl
theorem j5.O7 {α:Type} {R:List Nat->List Value->α->Prop} {sz:Nat} (hR:∀ O cs x,R O cs x->O=[]):∀ {l:List α} {O:List Nat} {cs:List Value},j5 R sz O cs l->O=[]
 | [],_,_,⟨h,_⟩=>h
 | _::_,_,_,⟨O1,O2,e,h1,h2⟩=>by rw [e,hR _ _ _ h1,j5.O7 hR h2]; rfl
theorem g9.O7:∀ {t:Ty} {O:List Nat} {cs:List Value} {x:t.den},t.shared=true->g9 H S t O cs x->O=[]:=by
 intro t
 induction t with
 | int k=>intro O cs x _ h; exact h.1
 | bool=>intro O cs x _ h; exact h.1
 | str=>intro O cs x _ h; exact h.1
 | unit=>intro O cs x _ h; exact h.1
 | fn f=>intro O cs x _ h; exact h.1
 | hole t=>intro O cs x _ h; exact h.1
 | map o k v =>
  rintro O cs x hs (h|⟨l,b,es,ck,_,_,_,_,h6⟩)
  ·exact h.2.1
  simp only [Ty.shared,aAt] at hs;rw [hs] at h6; exact h6.1
 | box o g t =>
  rintro O cs x hs (h|⟨y,b,off,O',_,_,_,_,h6⟩)
  ·exact h.2.1
  simp only [Ty.shared,aAa,aAt] at hs;rw [hs.1] at h6; exact h6.1
 | pair a b iha ihb =>
  rintro O cs x hs ⟨O1,O2,rfl,h1,h2⟩;simp only [Ty.shared,aAa] at hs;rw [iha hs.1 h1,ihb hs.2 h2]; rfl
 | arr n t ih =>
  rintro O cs x hs ⟨h1,h2⟩;exact j5.O7 (λ _ _ _ h=>ih hs h) h2
 | d0 o t ih =>
  rintro O cs x hs h;simp only [Ty.shared,aAa,aAt] at hs;rcases h with h|⟨b,off,cap,O',_,_,_,_,_,h6⟩
  ·exact h.1
  ·rw [hs.1] at h6; exact h6.1
 | B9 t ih=>intro O cs x hs; cases hs
theorem j5.xA {α:Type} {R:List Nat->List Value->α->Prop} {sz:Nat} {p:Nat->Prop} (hR:∀ O cs x,R O cs x->∀ b∈O,p b):∀ {l:List α} {O:List Nat} {cs:List Value},j5 R sz O cs l->∀ b∈O,p b
 | [],_,_,⟨h,_⟩=>by rw [h]; simp
 | _::_,_,_,⟨O1,O2,e,h1,h2⟩=>by
  subst e; intro b hb;rcases aAi.1 hb with h|h
  ·exact hR _ _ _ h1 b h
  ·exact j5.xA hR h2 b h
theorem g9.Kf {o:Bool} {t:Ty} (ih:∀ {O:List Nat} {cs:List Value} {x:t.den},g9 H S t O cs x->∀ b∈O,b<H.size) {O:List Nat} {cs:List Value} {x:List t.den} (h:g9 H S (.d0 o t) O cs x):∀ b∈O,b<H.size:=by
 rcases h with h|⟨b,off,cap,O',_,_,_,_,h5,h6⟩
 ·rw [h.1]; simp
 ·cases o with
  | true =>
   intro c hc;rw [h6.1] at hc;rcases aAp.1 hc with rfl|hc
   ·obtain ⟨_,arr,T,⟨fz,e,_⟩,_⟩:=h6; exact (aAo.1 e).1
   ·exact j5.xA (λ _ _ _ h=>ih h) h5 c hc
  | false=>rw [h6.1]; simp
theorem g9.xA:∀ {t:Ty} {O:List Nat} {cs:List Value} {x:t.den},g9 H S t O cs x->∀ b∈O,b<H.size:=by
 intro t
 induction t with
 | int k=>intro O cs x h; rw [h.1]; simp
 | bool=>intro O cs x h; rw [h.1]; simp
 | str=>intro O cs x h; rw [h.1]; simp
 | unit=>intro O cs x h; rw [h.1]; simp
 | fn f=>intro O cs x h; rw [h.1]; simp
 | hole t=>intro O cs x h; rw [h.1]; simp
 | map o k v =>
  rintro O cs x (⟨_,rfl,_⟩|⟨l,b,es,ck,_,_,h3,_,h6⟩) c hc
  ·cases hc
  cases o with
  | true =>
   rw [h6] at hc;obtain rfl:c=b:=by simpa using hc
   exact (aAo.1 h3).1
  | false=>rw [h6.1] at hc; cases hc
 | box o g t ih =>
  rintro O cs x (⟨_,rfl,_⟩|⟨y,b,off,O',_,_,_,h3,h6⟩)
  ·simp
  cases o with
  | true =>
   intro c hc;rw [h6.1] at hc;rcases aAp.1 hc with rfl|hc
   ·obtain ⟨_,arr,T,⟨fz,e,_⟩,_⟩:=h6; exact (aAo.1 e).1
   ·exact ih h3 c hc
  | false=>rw [h6.1]; simp
 | pair a b iha ihb =>
  rintro O cs x ⟨O1,O2,rfl,h1,h2⟩ b hb;rcases aAi.1 hb with h|h
  ·exact iha h1 b h
  ·exact ihb h2 b h
 | arr n t ih =>
  rintro O cs x ⟨h1,h2⟩;exact j5.xA (λ _ _ _ h=>ih h) h2
 | d0 o t ih=>intro O cs x h; exact g9.Kf ih h
 | B9 t ih =>
  rintro O cs ⟨n,l,m⟩ h
  match n,h with
  | 0,h=>exact g9.Kf (o:=false) ih h
  | 1,h=>exact g9.Kf (o:=true) ih h
  | n+2,⟨b,off,O',_,_,_,h5,h6⟩ =>
   cases n with
   | zero =>
    intro c hc;rw [h6.1] at hc;rcases aAp.1 hc with rfl|hc
    ·obtain ⟨_,arr,T,⟨fz,e,_⟩,_⟩:=h6; exact (aAo.1 e).1
    ·exact j5.xA (λ _ _ _ h=>ih h) h5 c hc
   | succ n=>rw [h6.1]; simp
theorem j5.split {α:Type} {R:List Nat->List Value->α->Prop} {sz:Nat} {d:α}:∀ {l:List α} {O:List Nat} {cs:List Value} {i:Nat},i<l.length->j5 R sz O cs l ->
  ∃ O1 O2 O3,O=O1++(O2++O3)/\j5 R sz O1 (cs.take (i*sz)) (l.take i)/\R O2 ((cs.drop (i*sz)).take sz) (l.getD i d)/\j5 R sz O3 (cs.drop ((i+1)*sz)) (l.drop (i+1))
 | [],_,_,_,hi,_=>by simp at hi
 | x::l,_,cs,0,_,⟨O1,O2,e,h1,h2⟩=>⟨[],O1,O2,by simpa using e,by simp [j5],by simpa using h1,by simpa using h2⟩
 | x::l,_,cs,i+1,hi,⟨O1,O2,e,h1,h2⟩=>by
  obtain ⟨P1,P2,P3,e',g1,g2,g3⟩:=j5.split (d:=d) (i:=i) (by simpa using hi) h2;refine ⟨O1++P1,P2,P3,by rw [e,e']; simp,?_,?_,?_⟩
  ·refine ⟨O1,P1,rfl,?_,?_⟩
   ·rw [aCn,aCc (by rw [aBf]; omega)]; exact h1
   ·rw [aDk,show (i+1)*sz - sz=i*sz from by rw [aBf]; omega]; exact g1
  ·rw [aBj,show sz+i*sz=(i+1)*sz from by rw [aBf]; omega] at g2
   simpa using g2
  ·rw [aBj,show sz+(i+1)*sz=(i+1+1)*sz from by rw [aBf (i+1)]; omega] at g3
   simpa using g3
theorem j5.join {α:Type} {R:List Nat->List Value->α->Prop} {sz:Nat} (hR:∀ O cs x,R O cs x->cs.length=sz) {y:α}:∀ {l:List α} {O1 O2 O3:List Nat} {cs:List Value} {i:Nat},i<l.length ->
  j5 R sz O1 (cs.take (i*sz)) (l.take i)->R O2 ((cs.drop (i*sz)).take sz) y->j5 R sz O3 (cs.drop ((i+1)*sz)) (l.drop (i+1)) ->
  j5 R sz (O1++(O2++O3)) cs (l.set i y)
 | [],_,_,_,_,_,hi,_,_,_=>by simp at hi
 | x::l,O1,O2,O3,cs,0,_,h1,h2,h3=>by
  simp only [aFa,aFv,j5] at h1;rw [h1.1];exact ⟨O2,O3,rfl,by simpa using h2,by simpa using h3⟩
 | x::l,O1,O2,O3,cs,i+1,hi,⟨P1,P2,e,h1,lF⟩,h2,h3=>by
  subst e;refine ⟨P1,P2++(O2++O3),by simp,?_,?_⟩
  ·rw [aCn,aCc (by rw [aBf]; omega)] at h1; exact h1
  ·refine j5.join hR (by simpa using hi) ?_ ?_ ?_
   ·rw [aDk,show (i+1)*sz - sz=i*sz from by rw [aBf]; omega] at lF; exact lF
   ·rw [aBj,show sz+i*sz=(i+1)*sz from by rw [aBf]; omega]; exact h2
   ·rw [aBj,show sz+(i+1)*sz=(i+1+1)*sz from by rw [aBf (i+1)]; omega]
    simpa using h3
theorem j5.append {α:Type} {R:List Nat->List Value->α->Prop} {sz:Nat} (hR:∀ O cs x,R O cs x->cs.length=sz):∀ {l l':List α} {O O':List Nat} {cs cs':List Value},
  j5 R sz O cs l->j5 R sz O' cs' l'->j5 R sz (O++O') (cs++cs') (l++l')
 | [],_,_,_,_,_,⟨h1,h2⟩,h=>by subst h1; subst h2; simpa using h
 | x::l,l',O,O',cs,cs',⟨O1,O2,e,h1,h2⟩,h=>by
  have hl:=hR _ _ _ h1;simp only [aAk] at hl;refine ⟨O1,O2++O',by rw [e]; simp,?_,?_⟩
  ·rw [aDp (by omega)]; exact h1
  ·rw [aGk (by omega)]; exact j5.append hR h2 h
theorem j5.det {α:Type} {R R':List Nat->List Value->α->Prop} {sz:Nat} (hR:∀ O O' cs x,R O cs x->R' O' cs x->O=O'):∀ {l:List α} {O O':List Nat} {cs:List Value},
  j5 R sz O cs l->j5 R' sz O' cs l->O=O'
 | [],_,_,_,⟨h,_⟩,⟨h',_⟩=>by rw [h,h']
 | _::_,_,_,_,⟨O1,O2,e,h1,h2⟩,⟨O1',O2',e',lF,fG⟩=>by
  rw [e,e',hR _ _ _ _ h1 lF,j5.det hR h2 fG]
theorem g9.Jb {o:Bool} {t:Ty} (ih:∀ {O O':List Nat} {cs:List Value} {x:t.den},g9 H S t O cs x->g9 H S' t O' cs x->O=O') {O O':List Nat} {cs:List Value} {x:List t.den} (h:g9 H S (.d0 o t) O cs x) (h':g9 H S' (.d0 o t) O' cs x):O=O':=by
 cases o with
 | false =>
  have hO:∀ {O:List Nat} {x:(Ty.d0 false t).den} {S:Nat->Prop},g9 H S (.d0 false t) O cs x->O=[]:=by
   rintro O x S (h|⟨b,off,cap,O',_,_,_,_,_,h6⟩)
   ·exact h.1
   ·exact h6.1
  rw [hO h,hO h']
 | true =>
  rcases h with ⟨h1,⟨a,c,h2,h3⟩,h4⟩|⟨b,off,cap,P,c1,c2,c3,c4,c5,c6,c7⟩
  ·rcases h' with ⟨k1,_⟩|⟨b',aA,gL,P',d1,d2,d3,d4,d5,d6,d7⟩
   ·rw [h1,k1]
   ·rw [h2] at d1; simp only [aBa,Value.slice.injEq,and_true] at d1; have:=d3.2 rfl; have:=h3 rfl; omega
  ·rcases h' with ⟨h1,⟨a,c,h2,h3⟩,h4⟩|⟨b',aA,gL,P',d1,d2,d3,d4,d5,d6,d7⟩
   ·rw [h2] at c1; simp only [aBa,Value.slice.injEq,and_true] at c1; have:=c3.2 rfl; have:=h3 rfl; omega
   ·rw [c1] at d1
    simp only [aBa,Value.slice.injEq,aAc,Addr.mk.injEq,and_true] at d1;obtain ⟨⟨rfl,rfl⟩,-,rfl⟩:=d1;rw [c6,d6,j5.det (R:=g9 H S t) (R':=g9 H S' t) (λ O O' cs x h h'=>ih h h') c5 d5]
theorem g9.det:∀ {t:Ty} {O O':List Nat} {cs:List Value} {x:t.den},g9 H S t O cs x->g9 H S' t O' cs x->O=O':=by
 intro t
 induction t with
 | int k=>intro O O' cs x h h'; rw [h.1,h'.1]
 | bool=>intro O O' cs x h h'; rw [h.1,h'.1]
 | str=>intro O O' cs x h h'; rw [h.1,h'.1]
 | unit=>intro O O' cs x h h'; rw [h.1,h'.1]
 | fn f=>intro O O' cs x h h'; rw [h.1,h'.1]
 | hole t=>intro O O' cs x h h'; rw [h.1,h'.1]
 | map o k v =>
  rintro O O' cs x (⟨_,rfl,rfl⟩|⟨l,b,es,ck,_,rfl,_,_,h6⟩) (⟨_,rfl,e⟩|⟨l',b',es',ck',_,e,_,_,g6⟩)
  ·rfl
  ·simp at e
  ·simp at e
  ·simp only [aBa,Value.map.injEq,aAc,and_true] at e
   cases o with
   | true=>rw [h6,g6,e]
   | false=>rw [h6.1,g6.1]
 | box o g t ih =>
  rintro O O' cs x (⟨hx,rfl,rfl⟩|⟨y,b,off,P,hx,rfl,h2,h3,h4⟩) (⟨_,rfl,e⟩|⟨y',b',aA,P',eg,e,g2,g3,g4⟩)
  ·rfl
  ·exact (Pf (by simpa using e.symm)).elim
  ·exact (Pf (by simpa using e)).elim
  have e:=Yj (by simpa using e);cases e;rw [hx] at eg; cases eg;cases o with
  | true=>rw [h4.1,g4.1,ih h3 g3]
  | false=>rw [h4.1,g4.1]
 | pair a b iha ihb =>
  rintro O O' cs x ⟨O1,O2,rfl,h1,h2⟩ ⟨O1',O2',rfl,lF,fG⟩;rw [iha h1 lF,ihb h2 fG]
 | arr n t ih =>
  rintro O O' cs x ⟨h1,h2⟩ ⟨lF,fG⟩;exact j5.det (R:=g9 H S t) (R':=g9 H S' t) (λ O O' cs x h h'=>ih h h') h2 fG
 | d0 o t ih=>intro O O' cs x h h'; exact g9.Jb ih h h'
 | B9 t ih =>
  rintro O O' cs ⟨n,l,m⟩ h h'
  match n,h,h' with
  | 0,h,h'=>exact g9.Jb (o:=false) ih h h'
  | 1,h,h'=>exact g9.Jb (o:=true) ih h h'
  | n+2,⟨b,off,P,c1,c2,c3,c4,c5⟩,⟨b',aA,P',d1,d2,d3,d4,d5⟩ =>
   rw [c1] at d1;simp only [aBa,Value.slice.injEq,aAc,Addr.mk.injEq,and_true] at d1;obtain ⟨rfl,rfl⟩:=d1;cases n with
   | zero=>rw [c5.1,d5.1,j5.det (R:=g9 H S t) (R':=g9 H S' t) (λ O O' cs x h h'=>ih h h') c4 d4]
   | succ n=>rw [c5.1,d5.1]
end
end Go.Ex
namespace Go.Ex
inductive Step where
 | l8 (i:Nat)
 | idx (i:Int)
 deriving Inhabited
def Ty.er (a b:Ty):Bool:=decide (a.sh=b.sh)
def j9:(t:Ty)->t.den->List Step->Option (Sigma Ty.den)
 | t,x,[]=>some ⟨t,x⟩
 | .pair a _,x,.l8 0::p=>j9 a x.1 p
 | .pair _ b,x,.l8 (n+1)::p=>j9 b x.2 (.l8 n::p)
 | .arr _ t,x,.idx i::p=>j9 t (List.getD x i.toNat t.s4) p
 | .d0 true t,x,.idx i::p=>j9 t (List.getD x i.toNat t.s4) p
 | _,_,_=>none
def x8:(t:Ty)->t.den->List Step->Prop
 | _,_,[]=>True
 | .pair a _,x,.l8 0::p=>x8 a x.1 p
 | .pair _ b,x,.l8 (n+1)::p=>x8 b x.2 (.l8 n::p)
 | .arr n t,x,.idx i::p=>(0<=i/\i<n)/\x8 t (List.getD x i.toNat t.s4) p
 | .d0 true t,x,.idx i::p=>(0<=i/\i<List.length x)/\x8 t (List.getD x i.toNat t.s4) p
 | _,_,_=>False
def u6:(t:Ty)->t.den->List Step->(u:Ty)->u.den->Option (Sigma Ty.den)
 | t,_,[],u,y=>if u.sh=t.sh then some ⟨u,y⟩ else none
 | .pair a b,x,.l8 0::p,u,y=>match u6 a x.1 p u y with
  | some ⟨t',z⟩=>some ⟨.pair t' b,(z,x.2)⟩
  | none=>none
 | .pair a b,x,.l8 (n+1)::p,u,y=>match u6 b x.2 (.l8 n::p) u y with
  | some ⟨t',z⟩=>some ⟨.pair a t',(x.1,z)⟩
  | none=>none
 | .arr n t,x,.idx i::p,u,y=>match u6 t (List.getD x i.toNat t.s4) p u y with
  | some ⟨t',z⟩=>if h:t'=t then some ⟨.arr n t,List.set x i.toNat (h▸z)⟩ else none
  | none=>none
 | .d0 true t,x,.idx i::p,u,y=>match u6 t (List.getD x i.toNat t.s4) p u y with
  | some ⟨t',z⟩=>if h:t'=t then some ⟨.d0 true t,List.set x i.toNat (h▸z)⟩ else none
  | none=>none
 | _,_,_,_,_=>none
theorem S6:∀ t:Ty,t.sh.size=t.size:=by
 intro t
 induction t with
 | pair a b iha ihb=>simp only [Ty.sh,Ty.size,iha,ihb]
 | arr n t ih=>simp only [Ty.sh,Ty.size,ih]
 | _=>rfl
theorem F9 {u t:Ty} (h:u.sh=t.sh):u.size=t.size:=by rw [<- S6 u,h,S6]
def y8 (H:Array Go.Obj):Ty->List Step->Nat->Nat->Option (Nat×Nat)
 | _,[],b,off=>some (b,off)
 | .pair a _,.l8 0::p,b,off=>y8 H a p b off
 | .pair a c,.l8 (n+1)::p,b,off=>y8 H c (.l8 n::p) b (off+a.size)
 | .arr _ t,.idx i::p,b,off=>y8 H t p b (off+i.toNat*t.size)
 | .d0 true t,.idx i::p,b,off=>match (w6 H b)[off]? with
  | some (.slice (some a) _ _)=>y8 H t p a.block (a.off+i.toNat*t.size)
  | _=>none
 | _,_,_,_=>none
def w5 (H:Array Go.Obj) (S:Nat->Prop):(t:Ty)->List Step->Nat->Nat->List Nat->t.den->Prop
 | _,[],_,_,O,_=>O=[]
 | .pair a c,.l8 0::p,b,off,O,x=>∃ O1 O2,O=O1++O2/\w5 H S a p b off O1 x.1/\g9 H S c O2 (e8 H b (off+a.size) c.size) x.2
 | .pair a c,.l8 (n+1)::p,b,off,O,x=>∃ O1 O2,O=O1++O2/\g9 H S a O1 (e8 H b off a.size) x.1/\w5 H S c (.l8 n::p) b (off+a.size) O2 x.2
 | .arr n t,.idx i::p,b,off,O,l=>List.length l=n/\(0<=i/\i<n)/\∃ O1 O2 O3,O=O1++(O2++O3) /\
   j5 (g9 H S t) t.size O1 (e8 H b off (i.toNat*t.size)) (List.take i.toNat l) /\
   w5 H S t p b (off+i.toNat*t.size) O2 (List.getD l i.toNat t.s4) /\
   j5 (g9 H S t) t.size O3 (e8 H b (off+(i.toNat+1)*t.size) ((n - (i.toNat+1))*t.size)) (List.drop (i.toNat+1) l)
 | .d0 true t,.idx i::p,b,off,O,l=>(0<=i/\i<List.length l)/\∃ b1 o1 cap O1 O2 O3,O=b1::(O1++(O2++O3)) /\
   (w6 H b)[off]?=some (.slice (some ⟨b1,o1,none⟩) (List.length l) cap)/\List.length l<=cap/\zX true cap/\V4 t.isB H b1 (o1+cap*t.size) /\
   j5 (g9 H S t) t.size O1 (e8 H b1 o1 (i.toNat*t.size)) (List.take i.toNat l) /\
   w5 H S t p b1 (o1+i.toNat*t.size) O2 (List.getD l i.toNat t.s4) /\
   j5 (g9 H S t) t.size O3 (e8 H b1 (o1+(i.toNat+1)*t.size) ((List.length l - (i.toNat+1))*t.size)) (List.drop (i.toNat+1) l)
 | _,_,_,_,_,_=>False
section
variable {H H':Array Go.Obj} {S S':Nat->Prop}
theorem n7 (b off n m:Nat) (h:m<=n):(e8 H b off n).take m=e8 H b off m:=by
 simp only [e8,aCn,aCc h]
theorem o6 (b off n m:Nat):(e8 H b off n).drop m=e8 H b (off+m) (n - m):=by
 simp only [e8,aDk,aBj]
theorem Mf (b off n:Nat) (h:off+n<=(w6 H b).length):(e8 H b off n).length=n:=by
 simp only [e8,aAk,aAq]; omega
theorem Lz (b off n m:Nat):e8 H b off (n+m)=e8 H b off n++e8 H b (off+n) m:=by
 simp only [e8,List.take_add,aBj]
theorem R3 (b off:Nat) (v:Value):e8 H b off 1=[v]↔(w6 H b)[off]?=some v:=by
 simp only [e8];constructor
 ·intro h
  have:((w6 H b).drop off)[0]?=some v:=by
   cases hd:(w6 H b).drop off with
   | nil=>rw [hd] at h; simp at h
   | cons a l=>rw [hd] at h; simp at h; simp [h]
  simpa using this
 ·intro h
  obtain ⟨bf,e⟩:=aDj.1 h;rw [aDy bf];simp [e]
theorem P5.w6 {b n:Nat} (h:P5 H b n):n<=(w6 H b).length:=by
 obtain ⟨arr,T,⟨fz,e,_⟩,hn⟩:=h;simp only [Ex.w6,e];simpa using hn
theorem P5.mono {b n m:Nat} (h:P5 H b n) (hm:m<=n):P5 H b m:=by
 obtain ⟨arr,T,e,hn⟩:=h;exact ⟨arr,T,e,aAv hm hn⟩
theorem V4.mono {q:Bool} {b n m:Nat} (h:V4 q H b n) (hm:m<=n):V4 q H b m:=by
 obtain ⟨arr,T,e,hn⟩:=h;exact ⟨arr,T,e,aAv hm hn⟩
theorem E1 {i:Int} {n sz:Nat} (h:0<=i/\i<n):i.toNat<n/\i.toNat*sz+sz<=n*sz/\(i.toNat+1)*sz=i.toNat*sz+sz/\(n - (i.toNat+1))*sz=n*sz - (i.toNat*sz+sz):=by
 have h1:i.toNat<n:=by omega
 have h2:(i.toNat+1)*sz<=n*sz:=aAm _ h1;have h3:(i.toNat+1)*sz=i.toNat*sz+sz:=aBf _ _;refine ⟨h1,by omega,h3,?_⟩;rw [Nat.sub_mul,h3]
theorem focus:∀ {t:Ty} {p:List Step} {b off:Nat} {O:List Nat} {x:t.den},g9 H S t O (e8 H b off t.size) x->off+t.size<=(w6 H b).length->x8 t x p ->
  ∀ {u:Ty} {y:u.den},j9 t x p=some ⟨u,y⟩ ->
  ∃ O1 O2 b' aA,O.Perm (O1++O2)/\w5 H S t p b off O1 x/\y8 H t p b off=some (b',aA)/\g9 H S u O2 (e8 H b' aA u.size) y /\
   aA+u.size<=(w6 H b').length/\((b'=b/\off<=aA/\aA+u.size<=off+t.size)\/(b'∈O1/\P5 H b' (aA+u.size))):=by
 intro t
 induction t with
 | pair a c iha ihc =>
  intro p b off O x hR hb ho u y hg
  match p,ho,hg with
  | [],_,hg=>simp only [j9,aAc] at hg; cases hg; exact ⟨[],O,b,off,by simp,rfl,rfl,hR,hb,.inl ⟨rfl,aAj _,aAj _⟩⟩
  | .l8 0::p,ho,hg =>
   obtain ⟨P1,P2,rfl,h1,h2⟩:=hR;simp only [Ty.size] at *
   rw [n7 _ _ _ _ (by omega)] at h1;rw [o6,aCs] at h2;obtain ⟨O1,O2,b',aA,e1,e2,e3,e4,e5,e6⟩:=iha h1 (by omega) ho hg;refine ⟨O1++P2,O2,b',aA,?_,⟨O1,P2,rfl,e2,h2⟩,e3,e4,e5,?_⟩
   ·refine (e1.append_right P2).trans ?_
    rw [aAl,aAl];exact aBs O1 aCz
   ·rcases e6 with ⟨g1,g2,g3⟩|⟨g1,g2⟩
    ·exact .inl ⟨g1,g2,by omega⟩
    ·exact .inr ⟨by simp [g1],g2⟩
  | .l8 (n+1)::p,ho,hg =>
   obtain ⟨P1,P2,rfl,h1,h2⟩:=hR;simp only [Ty.size] at *
   rw [n7 _ _ _ _ (by omega)] at h1;rw [o6,aCs] at h2;obtain ⟨O1,O2,b',aA,e1,e2,e3,e4,e5,e6⟩:=ihc h2 (by omega) ho hg;refine ⟨P1++O1,O2,b',aA,?_,⟨P1,O1,rfl,h1,e2⟩,e3,e4,e5,?_⟩
   ·rw [aAl]; exact aBs P1 e1
   ·rcases e6 with ⟨g1,g2,g3⟩|⟨g1,g2⟩
    ·exact .inl ⟨g1,by omega,by omega⟩
    ·exact .inr ⟨by simp [g1],g2⟩
  | .idx i::p,ho,_=>simp [x8] at ho
 | arr n t ih =>
  intro p b off O x hR hb ho u y hg
  match p,ho,hg with
  | [],_,hg=>simp only [j9,aAc] at hg; cases hg; exact ⟨[],O,b,off,by simp,rfl,rfl,hR,hb,.inl ⟨rfl,aAj _,aAj _⟩⟩
  | .idx i::p,ho,hg =>
   obtain ⟨hi,ho⟩:=ho;obtain ⟨hl,hR⟩:=hR;simp only [Ty.size] at *
   obtain ⟨b1,b2,b3,b4⟩:=E1 (sz:=t.size) hi;obtain ⟨P1,P2,P3,rfl,g1,g2,g3⟩:=j5.split (d:=t.s4) (i:=i.toNat) (by rw [hl]; exact b1) hR;rw [n7 _ _ _ _ (by omega)] at g1;rw [o6,n7 _ _ _ _ (by omega)] at g2;rw [o6,show n*t.size - (i.toNat+1)*t.size=(n - (i.toNat+1))*t.size from by omega] at g3;obtain ⟨O1,O2,b',aA,e1,e2,e3,e4,e5,e6⟩:=ih g2 (by omega) ho hg;refine ⟨P1++(O1++P3),O2,b',aA,?_,⟨hl,hi,P1,O1,P3,rfl,g1,e2,g3⟩,e3,e4,e5,?_⟩
   ·rw [aAl]
    refine aBs P1 ?_;refine (e1.append_right P3).trans ?_;rw [aAl,aAl];exact aBs O1 aCz
   ·rcases e6 with ⟨g1,g2,g3⟩|⟨g1,g2⟩
    ·exact .inl ⟨g1,by omega,by omega⟩
    ·exact .inr ⟨by simp [g1],g2⟩
  | .l8 i::p,ho,_=>simp [x8] at ho
 | d0 o t ih =>
  intro p b off O x hR hb ho u y hg
  match p,ho,hg with
  | [],_,hg=>simp only [j9,aAc] at hg; cases hg; exact ⟨[],O,b,off,by simp,by cases o<;>rfl,by cases o<;>rfl,hR,hb,.inl ⟨rfl,aAj _,aAj _⟩⟩
  | .idx i::p,ho,hg =>
   cases o with
   | false=>simp [x8] at ho
   | true =>
    obtain ⟨hi,ho⟩:=ho;rcases hR with ⟨_,_,hn⟩|⟨b1,o1,cap,O',c1,c2,c3,c4,c5,rfl,c6⟩
    ·subst hn; simp at hi; omega
    ·simp only [Ty.size] at *
     have hh:=(R3 b off _).1 c1;obtain ⟨b1',b2,b3,b4⟩:=E1 (sz:=t.size) hi;obtain ⟨P1,P2,P3,rfl,g1,g2,g3⟩:=j5.split (d:=t.s4) (i:=i.toNat) b1' c5;rw [n7 _ _ _ _ (by omega)] at g1;rw [o6,n7 _ _ _ _ (by omega)] at g2;rw [o6,show List.length x*t.size - (i.toNat+1)*t.size=(List.length x - (i.toNat+1))*t.size from by omega] at g3;obtain ⟨O1,O2,b',aA,e1,e2,e3,e4,e5,e6⟩:=ih g2 (by omega) ho hg;have cO:List.length x*t.size<=cap*t.size:=aAm _ c2;refine ⟨b1::(P1++(O1++P3)),O2,b',aA,?_,⟨hi,b1,o1,cap,P1,O1,P3,rfl,hh,c2,c3,c6,g1,e2,g3⟩,?_,e4,e5,?_⟩
     ·rw [aCv]
      refine List.Perm.cons b1 ?_;rw [aAl];refine aBs P1 ?_;refine (e1.append_right P3).trans ?_;rw [aAl,aAl];exact aBs O1 aCz
     ·simp only [y8,hh]; exact e3
     ·rcases e6 with ⟨g1,g2,g3⟩|⟨g1,g2⟩
      ·subst g1; exact .inr ⟨by simp,c6.free.mono (by omega)⟩
      ·exact .inr ⟨by simp [g1],g2⟩
  | .l8 i::p,ho,_=>cases o<;>simp [x8] at ho
 | _ =>
  intro p b off O x hR hb ho u y hg
  match p,ho,hg with
  | [],_,hg=>simp only [j9,aAc] at hg; cases hg; exact ⟨[],O,b,off,by simp,rfl,rfl,hR,hb,.inl ⟨rfl,aAj _,aAj _⟩⟩
  | .l8 i::p,ho,_=>simp [x8] at ho
  | .idx i::p,ho,_=>simp [x8] at ho
structure X1 (H H':Array Go.Obj) (b off n:Nat):Prop where
 at_:∃ arr cZ T,(∃ fz,Lie H b arr T fz/\H'[b]?=some (.cells cZ T fz))/\cZ.size=arr.size/\∀ j,(j<off\/off+n<=j)->cZ.toList[j]?=arr.toList[j]?
 rest:∀ c,c≠b->c<H.size->H'[c]?=H[c]?
theorem X1.length {b off n:Nat} (h:X1 H H' b off n) (c:Nat) (hc:c<H.size):(w6 H' c).length=(w6 H c).length:=by
 by_cases e:c=b
 ·subst e
  obtain ⟨arr,cZ,T,⟨fz,⟨e1,_⟩,e2⟩,e3,_⟩:=h.at_;simp only [w6,e1,e2]; simpa using e3
 ·rw [Q5 (h.rest c e hc)]
theorem X1.cells {b off n:Nat} (h:X1 H H' b off n) {c o m:Nat} (hc:c<H.size) (hr:c=b->o+m<=off\/off+n<=o):e8 H' c o m=e8 H c o m:=by
 by_cases e:c=b
 ·subst e
  have hr:=hr rfl;obtain ⟨arr,cZ,T,⟨fz,⟨e1,_⟩,e2⟩,e3,e4⟩:=h.at_;simp only [e8,w6,e1,e2];apply aDu;intro j;simp only [aBn,aBi]
  split
  ·rw [e4]; omega
  ·rfl
 ·exact l6 (h.rest c e hc) _ _
theorem X1.free {b off n:Nat} (h:X1 H H' b off n) {c m:Nat} (hf:P5 H c m):P5 H' c m:=by
 obtain ⟨arr,T,⟨fz,e,ef⟩,hm⟩:=hf;by_cases hc:c=b
 ·subst hc
  obtain ⟨a1,a2,T',⟨fz',⟨e1,_⟩,e2⟩,e3,_⟩:=h.at_;rw [e1] at e; cases e;exact ⟨a2,_,⟨fz,e2,ef.imp id (λ h=>by omega)⟩,by omega⟩
 ·have bf:c<H.size:=by
   rcases aEd c H.size with h|h
   ·exact h
   ·rw [aCf h] at e; cases e
  exact ⟨arr,T,⟨fz,(h.rest c hc bf).trans e,ef⟩,hm⟩
theorem X1.He {b off n:Nat} (h:X1 H H' b off n) {q:Bool} {c m:Nat} (hf:V4 q H c m):V4 q H' c m:=by
 obtain ⟨arr,T,⟨fz,e,ef⟩,hm⟩:=hf;by_cases hc:c=b
 ·subst hc
  obtain ⟨a1,a2,T',⟨fz',⟨e1,_⟩,e2⟩,e3,_⟩:=h.at_;rw [e1] at e; cases e;exact ⟨a2,_,⟨fz,e2,ef.imp id (λ h=>⟨h.1,by omega⟩)⟩,by omega⟩
 ·have bf:c<H.size:=by
   rcases aEd c H.size with h|h
   ·exact h
   ·rw [aCf h] at e; cases e
  exact ⟨arr,T,⟨fz,(h.rest c hc bf).trans e,ef⟩,hm⟩
theorem w5.range:∀ {t:Ty} {p:List Step} {b off:Nat} {O:List Nat} {x:t.den},w5 H S t p b off O x->∀ {u:Ty} {y:u.den},j9 t x p=some ⟨u,y⟩->∀ {b' aA:Nat},
  y8 H t p b off=some (b',aA)->(b'=b/\off<=aA/\aA+u.size<=off+t.size)\/b'∈O:=by
 intro t
 induction t with
 | pair a c iha ihc =>
  intro p b off O x hR u y hg b' aA hn
  match p,hR,hg,hn with
  | [],_,hg,hn =>
   simp only [j9,aAc] at hg; cases hg;simp only [y8,aAc,aAx] at hn;exact .inl ⟨hn.1.symm,by omega,by omega⟩
  | .l8 0::p,⟨O1,O2,e,h1,h2⟩,hg,hn =>
   simp only [Ty.size];rcases iha h1 hg hn with ⟨g1,g2,g3⟩|g
   ·exact .inl ⟨g1,g2,by omega⟩
   ·exact .inr (by simp [e,g])
  | .l8 (n+1)::p,⟨O1,O2,e,h1,h2⟩,hg,hn =>
   simp only [Ty.size];rcases ihc h2 hg hn with ⟨g1,g2,g3⟩|g
   ·exact .inl ⟨g1,by omega,by omega⟩
   ·exact .inr (by simp [e,g])
  | .idx i::p,hR,_,_=>simp [w5] at hR
 | arr n t ih =>
  intro p b off O x hR u y hg b' aA hn
  match p,hR,hg,hn with
  | [],_,hg,hn =>
   simp only [j9,aAc] at hg; cases hg;simp only [y8,aAc,aAx] at hn;exact .inl ⟨hn.1.symm,by omega,by omega⟩
  | .idx i::p,⟨hl,hi,O1,O2,O3,e,h1,h2,h3⟩,hg,hn =>
   simp only [Ty.size];obtain ⟨b1,b2,b3,b4⟩:=E1 (sz:=t.size) hi;rcases ih h2 hg hn with ⟨g1,g2,g3⟩|g
   ·exact .inl ⟨g1,by omega,by omega⟩
   ·exact .inr (by simp [e,g])
  | .l8 i::p,hR,_,_=>simp [w5] at hR
 | d0 o t ih =>
  intro p b off O x hR u y hg b' aA hn
  match p,hR,hg,hn with
  | [],_,hg,hn =>
   simp only [j9,aAc] at hg; cases hg;have hn:some (b,off)=some (b',aA):=by cases o<;>exact hn
   simp only [aAc,aAx] at hn;exact .inl ⟨hn.1.symm,by omega,by omega⟩
  | .idx i::p,hR,hg,hn =>
   cases o with
   | false=>simp [w5] at hR
   | true =>
    obtain ⟨hi,b1,o1,cap,O1,O2,O3,e,e1,e2,e3,e4,e5,e6,e7⟩:=hR;simp only [y8,e1] at hn;rcases ih e6 hg hn with ⟨g1,g2,g3⟩|g
    ·exact .inr (by rw [g1,e]; simp)
    ·exact .inr (by rw [e]; simp [g])
  | .l8 i::p,hR,_,_=>cases o<;>simp [w5] at hR
 | _ =>
  intro p b off O x hR u y hg b' aA hn
  match p,hR,hg,hn with
  | [],_,hg,hn =>
   simp only [j9,aAc] at hg; cases hg;simp only [y8,aAc,aAx] at hn;exact .inl ⟨hn.1.symm,by omega,by omega⟩
  | .l8 i::p,hR,_,_=>simp [w5] at hR
  | .idx i::p,hR,_,_=>simp [w5] at hR
theorem j5.chg {t:Ty} {O:List Nat} {b off n o m:Nat} {l:List t.den} {c:Nat} (h:j5 (g9 H S t) t.size O (e8 H c o m) l) (hc:X1 H H' b off n)
  (hO:∀ d∈O,d≠b/\d<H.size) (hS:∀ d,S d->d≠b/\d<H.size) (fZ:∀ d,S d->S' d) (bf:c<H.size) (hr:c=b->o+m<=off\/off+n<=o) :
  j5 (g9 H' S' t) t.size O (e8 H' c o m) l:=by
 rw [hc.cells bf hr];refine j5.mono (L:=O) (λ _ h=>h) (λ O1 cs x hL hr=>?_) h;exact hr.u5 (λ d hd=>by
  rcases hd with hd|hd
  ·exact hc.rest d (hO d (hL d hd)).1 (hO d (hL d hd)).2
  ·exact hc.rest d (hS d hd).1 (hS d hd).2) fZ
theorem g9.chg {t:Ty} {O:List Nat} {b off n o m:Nat} {x:t.den} {c:Nat} (h:g9 H S t O (e8 H c o m) x) (hc:X1 H H' b off n)
  (hO:∀ d∈O,d≠b/\d<H.size) (hS:∀ d,S d->d≠b/\d<H.size) (fZ:∀ d,S d->S' d) (bf:c<H.size) (hr:c=b->o+m<=off\/off+n<=o) :
  g9 H' S' t O (e8 H' c o m) x:=by
 rw [hc.cells bf hr];exact h.u5 (λ d hd=>by
  rcases hd with hd|hd
  ·exact hc.rest d (hO d hd).1 (hO d hd).2
  ·exact hc.rest d (hS d hd).1 (hS d hd).2) fZ
theorem Ca:∀ {t:Ty} {p:List Step} {b off:Nat} {O1:List Nat} {x:t.den},w5 H S t p b off O1 x ->
  ∀ {u0:Ty} {y0:u0.den},j9 t x p=some ⟨u0,y0⟩->∀ {b' aA:Nat},y8 H t p b off=some (b',aA) ->
  off+t.size<=(w6 H b).length->b<H.size->O1.Nodup->b∉O1->(∀ c∈O1,¬ S c/\c<H.size)->¬ S b->(∀ c,S c->c<H.size)->(∀ c,S c->S' c) ->
  ∀ {u:Ty} {y:u.den} {O2:List Nat} {z:Sigma Ty.den},X1 H H' b' aA u0.size->g9 H' S' u O2 (e8 H' b' aA u.size) y->u6 t x p u y=some z ->
  ∃ O,O.Perm (O1++O2)/\g9 H' S' z.1 O (e8 H' b off z.1.size) z.2/\z.1.sh=t.sh:=by
 intro t
 induction t with
 | pair a c iha ihc =>
  intro p b off O1 x hR u0 y0 hg b' aA hn hb dx aJ bR ch im hS fZ u y O2 z hc hy hz
  match p,hR,hg,hn,hz with
  | [],hR,hg,hn,hz =>
   simp only [u6] at hz;split at hz
   ·rename_i e
    cases hz;simp only [y8,aAc,aAx] at hn;obtain ⟨rfl,rfl⟩:=hn;have hR:O1=[]:=hR;exact ⟨O2,by rw [hR]; simp,hy,e⟩
   ·cases hz
  | .l8 0::p,⟨P1,P2,e,h1,h2⟩,hg,hn,hz =>
   subst e;simp only [u6] at hz;split at hz
   ·rename_i t' w hw
    cases hz;simp only [aAg,aAi,not_or] at aJ bR;simp only [Ty.size] at hb;obtain ⟨O,g1,g2,g3⟩:=iha h1 hg hn (by omega) dx aJ.1 bR.1 (λ c hc=>ch c (by simp [hc])) im hS fZ hc hy hw;have bp:=w5.range h1 hg hn;have aW:=F9 g3;refine ⟨O++P2,?_,⟨O,P2,rfl,?_,?_⟩,by simp only [Ty.sh,g3]⟩
    ·refine (g1.append_right P2).trans ?_
     rw [aAl,aAl];exact aBs P1 aCz
    ·simp only [Ty.size]; rw [n7 _ _ _ _ (by omega)]; exact g2
    ·simp only [Ty.size]; rw [o6,aCs,aW]
     refine h2.chg hc (λ d hd=>⟨?_,(ch d (by simp [hd])).2⟩) (λ d hd=>⟨?_,hS d hd⟩) fZ dx (λ e=>?_)
     ·rintro rfl
      rcases bp with ⟨g,_⟩|g
      ·subst g; exact bR.2 hd
      ·exact aJ.2.2 _ g _ hd rfl
     ·rintro rfl
      rcases bp with ⟨g,_⟩|g
      ·subst g; exact im hd
      ·exact (ch _ (by simp [g])).1 hd
     ·rcases bp with ⟨_,g,g'⟩|g
      ·right; omega
      ·exact absurd (by simp [e,g]:b∈P1) bR.1
   ·cases hz
  | .l8 (n+1)::p,⟨P1,P2,e,h1,h2⟩,hg,hn,hz =>
   subst e;simp only [u6] at hz;split at hz
   ·rename_i t' w hw
    cases hz;simp only [aAg,aAi,not_or] at aJ bR;simp only [Ty.size] at hb;obtain ⟨O,g1,g2,g3⟩:=ihc h2 hg hn (by omega) dx aJ.2.1 bR.2 (λ c hc=>ch c (by simp [hc])) im hS fZ hc hy hw;have bp:=w5.range h2 hg hn;refine ⟨P1++O,?_,⟨P1,O,rfl,?_,?_⟩,by simp only [Ty.sh,g3]⟩
    ·rw [aAl]; exact aBs P1 g1
    ·simp only [Ty.size]; rw [n7 _ _ _ _ (by omega)]
     refine h1.chg hc (λ d hd=>⟨?_,(ch d (by simp [hd])).2⟩) (λ d hd=>⟨?_,hS d hd⟩) fZ dx (λ e=>?_)
     ·rintro rfl
      rcases bp with ⟨g,_⟩|g
      ·subst g; exact bR.1 hd
      ·exact aJ.2.2 _ hd _ g rfl
     ·rintro rfl
      rcases bp with ⟨g,_⟩|g
      ·subst g; exact im hd
      ·exact (ch _ (by simp [g])).1 hd
     ·rcases bp with ⟨_,g,g'⟩|g
      ·left; omega
      ·exact absurd (by simp [e,g]:b∈P2) bR.2
    ·simp only [Ty.size]; rw [o6,aCs]; exact g2
   ·cases hz
  | .idx i::p,hR,_,_,_=>simp [w5] at hR
 | arr n t ih =>
  intro p b off O1 x hR u0 y0 hg b' aA hn hb dx aJ bR ch im hS fZ u y O2 z hc hy hz
  match p,hR,hg,hn,hz with
  | [],hR,hg,hn,hz =>
   simp only [u6] at hz;split at hz
   ·rename_i e
    cases hz;simp only [y8,aAc,aAx] at hn;obtain ⟨rfl,rfl⟩:=hn;have hR:O1=[]:=hR;exact ⟨O2,by rw [hR]; simp,hy,e⟩
   ·cases hz
  | .idx i::p,⟨hl,hi,P1,P2,P3,e,h1,h2,h3⟩,hg,hn,hz =>
   subst e;simp only [u6] at hz;split at hz
   ·rename_i t' w hw
    split at hz
    ·rename_i ht; subst ht; cases hz
     simp only [aAg,aAi,not_or] at aJ bR;obtain ⟨b1,b2,b3,b4⟩:=E1 (sz:=t'.size) hi;simp only [Ty.size] at hb;obtain ⟨O,g1,g2,g3⟩:=ih h2 hg hn (by omega) dx aJ.2.1.1 bR.2.1 (λ c hc=>ch c (by simp [hc])) im hS fZ hc hy hw;have bp:=w5.range h2 hg hn;have bt:∀ d,(d∈P1\/d∈P3)->d≠b'/\d<H.size:=by
      intro d hd;refine ⟨?_,(ch d (by rcases hd with h|h<;>simp [h])).2⟩;rintro rfl;rcases bp with ⟨g,_⟩|g
      ·subst g; rcases hd with h|h
       ·exact bR.1 h
       ·exact bR.2.2 h
      ·rcases hd with h|h
       ·exact aJ.2.2 _ h _ (.inl g) rfl
       ·exact aJ.2.1.2.2 _ g _ h rfl
     have iQ:∀ d,S d->d≠b'/\d<H.size:=by
      intro d hd;refine ⟨?_,hS d hd⟩;rintro rfl;rcases bp with ⟨g,_⟩|g
      ·subst g; exact im hd
      ·exact (ch _ (by simp [g])).1 hd
     refine ⟨P1++(O++P3),?_,⟨by simpa using hl,j5.join (λ _ _ _ h=>g9.length h) (by rw [hl]; exact b1) ?_ ?_ ?_⟩,rfl⟩
     ·rw [aAl]
      refine aBs P1 ?_;refine (g1.append_right P3).trans ?_;rw [aAl,aAl];exact aBs P2 aCz
     ·simp only [Ty.size]; rw [n7 _ _ _ _ (by omega)]
      refine h1.chg hc (λ d hd=>bt d (.inl hd)) iQ fZ dx (λ e=>?_);rcases bp with ⟨_,g,g'⟩|g
      ·left; omega
      ·exact absurd (by simp [e,g]:b∈P2) bR.2.1
     ·simp only [Ty.size]; rw [o6,n7 _ _ _ _ (by omega)]; exact g2
     ·simp only [Ty.size]; rw [o6,show n*t'.size - (i.toNat+1)*t'.size=(n - (i.toNat+1))*t'.size from by omega]
      refine h3.chg hc (λ d hd=>bt d (.inr hd)) iQ fZ dx (λ e=>?_);rcases bp with ⟨_,g,g'⟩|g
      ·right; omega
      ·exact absurd (by simp [e,g]:b∈P2) bR.2.1
    ·cases hz
   ·cases hz
  | .l8 i::p,hR,_,_,_=>simp [w5] at hR
 | d0 o t ih =>
  intro p b off O1 x hR u0 y0 hg b' aA hn hb dx aJ bR ch im hS fZ u y O2 z hc hy hz
  match p,hR,hg,hn,hz with
  | [],hR,hg,hn,hz =>
   have hz:(if u.sh=(Ty.d0 o t).sh then some (⟨u,y⟩:Sigma Ty.den) else none)=some z:=by cases o<;>exact hz
   split at hz
   ·rename_i e
    cases hz;have hn:some (b,off)=some (b',aA):=by cases o<;>exact hn
    simp only [aAc,aAx] at hn;obtain ⟨rfl,rfl⟩:=hn;have hR:O1=[]:=by cases o<;>exact hR
    exact ⟨O2,by rw [hR]; simp,hy,e⟩
   ·cases hz
  | .idx i::p,hR,hg,hn,hz =>
   cases o with
   | false=>simp [w5] at hR
   | true =>
    obtain ⟨hi,c1,o1,cap,P1,P2,P3,e,e1,e2,e3,e4,e5,e6,e7⟩:=hR;subst e;simp only [y8,e1] at hn;simp only [u6] at hz;split at hz
    ·rename_i t' w hw
     split at hz
     ·rename_i ht; subst ht; cases hz
      simp only [aAg,aAi,aAs,aAp,not_or] at aJ bR;obtain ⟨b1,b2,b3,b4⟩:=E1 (sz:=t'.size) hi;have cO:List.length x*t'.size<=cap*t'.size:=aAm _ e2;have qa:=e4.free.w6;have dJ:c1<H.size:=(ch c1 (by simp)).2;obtain ⟨O,g1,g2,g3⟩:=ih e6 hg hn (by omega) dJ aJ.2.2.1.1 aJ.1.2.1 (λ c hc=>ch c (by simp [hc])) (ch c1 (by simp)).1 hS fZ hc hy hw;have bp:=w5.range e6 hg hn;have eu:b≠b':=by
       rintro rfl;rcases bp with ⟨g,_⟩|g
       ·exact bR.1 g
       ·exact bR.2.2.1 g
      have bt:∀ d,(d∈P1\/d∈P3)->d≠b'/\d<H.size:=by
       intro d hd;refine ⟨?_,(ch d (by rcases hd with h|h<;>simp [h])).2⟩;rintro rfl;rcases bp with ⟨g,_⟩|g
       ·subst g; rcases hd with h|h
        ·exact aJ.1.1 h
        ·exact aJ.1.2.2 h
       ·rcases hd with h|h
        ·exact aJ.2.2.2 _ h _ (.inl g) rfl
        ·exact aJ.2.2.1.2.2 _ g _ h rfl
      have iQ:∀ d,S d->d≠b'/\d<H.size:=by
       intro d hd;refine ⟨?_,hS d hd⟩;rintro rfl;rcases bp with ⟨g,_⟩|g
       ·subst g; exact (ch _ (by simp)).1 hd
       ·exact (ch _ (by simp [g])).1 hd
      have jb:e8 H' b off 1=[.slice (some ⟨c1,o1,none⟩) (List.length x) cap]:=by
       rw [l6 (hc.rest b eu dx)]; exact (R3 b off _).2 e1
      refine ⟨c1::(P1++(O++P3)),?_,.inr ⟨c1,o1,cap,P1++(O++P3),by simp only [Ty.size,aCa]; exact jb,by simpa using e2,e3,?_,?_,rfl,hc.He e4⟩,rfl⟩
      ·rw [aCv]
       refine List.Perm.cons c1 ?_;rw [aAl];refine aBs P1 ?_;refine (g1.append_right P3).trans ?_;rw [aAl,aAl];exact aBs P2 aCz
      ·rw [hc.length c1 dJ]; simp only [aCa]; omega
      ·simp only [aCa]
       refine j5.join (λ _ _ _ h=>g9.length h) b1 ?_ ?_ ?_
       ·rw [n7 _ _ _ _ (by omega)]
        refine e5.chg hc (λ d hd=>bt d (.inl hd)) iQ fZ dJ (λ e=>?_);rcases bp with ⟨_,g,g'⟩|g
        ·left; omega
        ·exact absurd (by simp [e,g]:c1∈P2) aJ.1.2.1
       ·rw [o6,n7 _ _ _ _ (by omega)]; exact g2
       ·rw [o6,show List.length x*t'.size - (i.toNat+1)*t'.size=(List.length x - (i.toNat+1))*t'.size from by omega]
        refine e7.chg hc (λ d hd=>bt d (.inr hd)) iQ fZ dJ (λ e=>?_);rcases bp with ⟨_,g,g'⟩|g
        ·right; omega
        ·exact absurd (by simp [e,g]:c1∈P2) aJ.1.2.1
     ·cases hz
    ·cases hz
  | .l8 i::p,hR,_,_,_=>cases o<;>simp [w5] at hR
 | _ =>
  intro p b off O1 x hR u0 y0 hg b' aA hn hb dx aJ bR ch im hS fZ u y O2 z hc hy hz
  match p,hR,hg,hn,hz with
  | [],hR,hg,hn,hz =>
   simp only [u6] at hz;split at hz
   ·rename_i e
    cases hz;simp only [y8,aAc,aAx] at hn;obtain ⟨rfl,rfl⟩:=hn;have hR:O1=[]:=hR;exact ⟨O2,by rw [hR]; simp,hy,e⟩
   ·cases hz
  | .l8 i::p,hR,_,_,_=>simp [w5] at hR
  | .idx i::p,hR,_,_,_=>simp [w5] at hR
end
end Go.Ex
namespace Go.Ex
def kp:List Step->List Step->Bool
 | _,[]=>true
 | [],.l8 _::p=>kp [] p
 | [],.idx _::_=>false
 | .l8 n::q,.l8 m::p=>if n=m then kp q p else true
 | .idx _::q,.idx _::p=>kp q p
 | _,_=>false
section
variable {H H':Array Go.Obj} {S S':Nat->Prop}
theorem xW {b off n o m:Nat} (h:e8 H' b off n=e8 H b off n) (h1:off<=o) (h2:o+m<=off+n):e8 H' b o m=e8 H b o m:=by
 have e:∀ K:Array Go.Obj,e8 K b o m=((e8 K b off n).drop (o - off)).take m:=by
  intro K;rw [o6,n7 _ _ _ _ (by omega),show off+(o - off)=o from by omega]
 rw [e H',e H,h]
theorem b6Z {b off n:Nat} (h:e8 H' b off n=e8 H b off n) {j:Nat} (h1:off<=j) (h2:j<off+n):(w6 H' b)[j]?=(w6 H b)[j]?:=by
 have e:∀ K:Array Go.Obj,(w6 K b)[j]?=(e8 K b off n)[j - off]?:=by
  intro K;simp only [e8,aBn,aBi];rw [if_pos (by omega),show off+(j - off)=j from by omega]
 rw [e H',e H,h]
theorem Ss:∀ {t:Ty} {x:t.den} {p:List Step},x8 t x p->∃ u y,j9 t x p=some ⟨u,y⟩:=by
 intro t
 induction t with
 | pair a c iha ihc =>
  intro x p h
  match p,h with
  | [],_=>exact ⟨_,_,rfl⟩
  | .l8 0::p,h=>exact iha h
  | .l8 (n+1)::p,h=>exact ihc h
  | .idx i::p,h=>simp [x8] at h
 | arr n t ih =>
  intro x p h
  match p,h with
  | [],_=>exact ⟨_,_,rfl⟩
  | .idx i::p,h=>exact ih h.2
  | .l8 i::p,h=>simp [x8] at h
 | d0 o t ih =>
  intro x p h
  match p,h with
  | [],_=>cases o<;>exact ⟨_,_,rfl⟩
  | .idx i::p,h=>cases o with
   | true=>exact ih h.2
   | false=>simp [x8] at h
  | .l8 i::p,h=>cases o<;>simp [x8] at h
 | _ =>
  intro x p h
  match p,h with
  | [],_=>exact ⟨_,_,rfl⟩
  | .idx i::p,h=>simp [x8] at h
  | .l8 i::p,h=>simp [x8] at h
theorem Ee:∀ {t t':Ty} {p:List Step} {b off:Nat},t'.sh=t.sh->kp [] p=true->y8 H' t' p b off=y8 H t p b off:=by
 intro t
 induction t with
 | pair a c iha ihc =>
  intro t' p b off h hp;cases t'<;>simp only [Ty.sh] at h<;>try cases h
  rename_i a' c';simp only [Ty.pair.injEq] at h
  match p,hp with
  | [],_=>rfl
  | .l8 0::p,hp=>exact iha h.1 hp
  | .l8 (n+1)::p,hp=>simp only [y8,F9 h.1]; exact ihc h.2 (by simpa [kp] using hp)
  | .idx i::p,hp=>simp [kp] at hp
 | d0 o t ih =>
  intro t' p b off h hp;cases t'<;>simp only [Ty.sh] at h<;>try cases h
  ·rename_i o' _
   match p,hp with
   | [],_=>cases o<;>cases o'<;>rfl
   | .l8 i::p,hp=>cases o<;>cases o'<;>simp [y8]
   | .idx i::p,hp=>simp [kp] at hp
  ·match p,hp with
   | [],_=>cases o<;>rfl
   | .l8 i::p,hp=>cases o<;>simp [y8]
   | .idx i::p,hp=>simp [kp] at hp
 | hole t ih =>
  intro t' p b off h hp;cases t'<;>simp only [Ty.sh] at h<;>try cases h
  ·rename_i o' _
   match p,hp with
   | [],_=>cases o'<;>rfl
   | .l8 i::p,hp=>cases o'<;>simp [y8]
   | .idx i::p,hp=>simp [kp] at hp
  ·match p,hp with
   | [],_=>rfl
   | .l8 i::p,hp=>simp [y8]
   | .idx i::p,hp=>simp [kp] at hp
 | _ =>
  intro t' p b off h hp;cases t'<;>simp only [Ty.sh] at h<;>try cases h
  all_goals
   match p,hp with
   | [],_=>rfl
   | .l8 i::p,hp=>simp [y8]
   | .idx i::p,hp=>simp [kp] at hp
theorem DM:∀ {t t':Ty} {p:List Step} {x:t.den} {y:t'.den},t'.sh=t.sh->kp [] p=true->x8 t x p->x8 t' y p:=by
 intro t
 induction t with
 | pair a c iha ihc =>
  intro t' p x y h hp ho;cases t'<;>simp only [Ty.sh] at h<;>try cases h
  rename_i a' c';simp only [Ty.pair.injEq] at h
  match p,hp,ho with
  | [],_,_=>trivial
  | .l8 0::p,hp,ho=>exact iha (t':=a') (y:=y.1) h.1 hp ho
  | .l8 (n+1)::p,hp,ho=>exact ihc (t':=c') (y:=y.2) h.2 (by simpa [kp] using hp) ho
  | .idx i::p,hp,_=>simp [kp] at hp
 | d0 o t ih =>
  intro t' p x y h hp ho
  match p,hp,ho with
  | [],_,_=>simp [x8]
  | .l8 i::p,hp,ho=>cases o<;>simp [x8] at ho
  | .idx i::p,hp,_=>simp [kp] at hp
 | _ =>
  intro t' p x y h hp ho
  match p,hp,ho with
  | [],_,_=>simp [x8]
  | .l8 i::p,hp,ho=>simp [x8] at ho
  | .idx i::p,hp,_=>simp [kp] at hp
theorem zp:∀ {t:Ty} {p:List Step} {b off:Nat} {O:List Nat} {x:t.den},g9 H S t O (e8 H b off t.size) x->off+t.size<=(w6 H b).length->x8 t x p ->
  e8 H' b off t.size=e8 H b off t.size->(∀ c∈O,H'[c]?=H[c]?)->y8 H' t p b off=y8 H t p b off:=by
 intro t
 induction t with
 | pair a c iha ihc =>
  intro p b off O x hR hb ho hc hO
  match p,ho with
  | [],_=>rfl
  | .l8 0::p,ho =>
   obtain ⟨P1,P2,rfl,h1,h2⟩:=hR;simp only [Ty.size] at *
   rw [n7 _ _ _ _ (by omega)] at h1;exact iha h1 (by omega) ho (xW hc (by omega) (by omega)) (λ c hc=>hO c (by simp [hc]))
  | .l8 (n+1)::p,ho =>
   obtain ⟨P1,P2,rfl,h1,h2⟩:=hR;simp only [Ty.size] at *
   rw [o6,aCs] at h2;exact ihc h2 (by omega) ho (xW hc (by omega) (by omega)) (λ c hc=>hO c (by simp [hc]))
  | .idx i::p,ho=>simp [x8] at ho
 | arr n t ih =>
  intro p b off O x hR hb ho hc hO
  match p,ho with
  | [],_=>rfl
  | .idx i::p,ho =>
   obtain ⟨hi,ho⟩:=ho;obtain ⟨hl,hR⟩:=hR;simp only [Ty.size] at *
   obtain ⟨b1,b2,b3,b4⟩:=E1 (sz:=t.size) hi;obtain ⟨P1,P2,P3,rfl,g1,g2,g3⟩:=j5.split (d:=t.s4) (i:=i.toNat) (by rw [hl]; exact b1) hR;rw [o6,n7 _ _ _ _ (by omega)] at g2;exact ih g2 (by omega) ho (xW hc (by omega) (by omega)) (λ c hc=>hO c (by simp [hc]))
  | .l8 i::p,ho=>simp [x8] at ho
 | d0 o t ih =>
  intro p b off O x hR hb ho hc hO
  match p,ho with
  | [],_=>cases o<;>rfl
  | .idx i::p,ho =>
   cases o with
   | false=>simp [x8] at ho
   | true =>
    obtain ⟨hi,ho⟩:=ho;rcases hR with ⟨_,_,hn⟩|⟨b1,o1,cap,O',c1,c2,c3,c4,c5,rfl,c6⟩
    ·subst hn; simp at hi; omega
    ·simp only [Ty.size] at *
     have hh:=(R3 b off _).1 c1;have pW:=(R3 b off _).1 (hc.trans c1);obtain ⟨b1',b2,b3,b4⟩:=E1 (sz:=t.size) hi;obtain ⟨P1,P2,P3,rfl,g1,g2,g3⟩:=j5.split (d:=t.s4) (i:=i.toNat) b1' c5;rw [o6,n7 _ _ _ _ (by omega)] at g2;have cO:List.length x*t.size<=cap*t.size:=aAm _ c2;simp only [y8,hh,pW];exact ih g2 (by omega) ho (l6 (hO b1 (by simp)) _ _) (λ c hc=>hO c (by simp [hc]))
  | .l8 i::p,ho=>cases o<;>simp [x8] at ho
 | _ =>
  intro p b off O x hR hb ho hc hO
  match p,ho with
  | [],_=>rfl
  | .l8 i::p,ho=>simp [x8] at ho
  | .idx i::p,ho=>simp [x8] at ho
theorem zg {t:Ty} {p:List Step} {b off:Nat} {O:List Nat} {x:t.den} (hR:g9 H S t O (e8 H b off t.size) x) (hb:off+t.size<=(w6 H b).length) (ho:x8 t x p)
  (hc:e8 H' b off t.size=e8 H b off t.size) (hO:∀ c∈O,H'[c]?=H[c]?) {u:Ty} {y:u.den} (hg:j9 t x p=some ⟨u,y⟩) {b' aA:Nat} (hn:y8 H t p b off=some (b',aA)) :
  e8 H' b' aA u.size=e8 H b' aA u.size:=by
 obtain ⟨O1,O2,c1,c2,e1,e2,e3,e4,e5,e6⟩:=focus hR hb ho hg
 rw [hn] at e3; cases e3;rcases e6 with ⟨rfl,g1,g2⟩|⟨g1,_⟩
 ·exact xW hc g1 g2
 ·exact l6 (hO _ (e1.mem_iff.2 (by simp [g1]))) _ _
theorem xu {α:Type} (l:List α) (i j:Nat) (v d:α):(l.set i v).getD j d=if i=j/\j<l.length then v else l.getD j d:=by
 simp only [aAb,aEk];by_cases h:i=j
 ·subst h
  by_cases h2:i<l.length<;>simp [h2]
 ·simp [h]
theorem Xe:∀ {t:Ty} {x:t.den} {p:List Step} {u:Ty} {y:u.den} {z:Sigma Ty.den},u6 t x p u y=some z->z.1.sh=t.sh:=by
 intro t
 induction t with
 | pair a c iha ihc =>
  intro x p u y z h
  match p,h with
  | [],h =>
   simp only [u6] at h;split at h
   ·rename_i e; cases h; exact e
   ·cases h
  | .l8 0::p,h =>
   simp only [u6] at h;split at h
   ·rename_i t' w hw; cases h; simp only [Ty.sh,iha hw]
   ·cases h
  | .l8 (n+1)::p,h =>
   simp only [u6] at h;split at h
   ·rename_i t' w hw; cases h; simp only [Ty.sh,ihc hw]
   ·cases h
  | .idx i::p,h=>simp [u6] at h
 | arr n t ih =>
  intro x p u y z h
  match p,h with
  | [],h =>
   simp only [u6] at h;split at h
   ·rename_i e; cases h; exact e
   ·cases h
  | .idx i::p,h =>
   simp only [u6] at h;split at h
   ·split at h
    ·cases h; rfl
    ·cases h
   ·cases h
  | .l8 i::p,h=>simp [u6] at h
 | d0 o t ih =>
  intro x p u y z h
  match p,h with
  | [],h =>
   have h:(if u.sh=(Ty.d0 o t).sh then some (⟨u,y⟩:Sigma Ty.den) else none)=some z:=by cases o<;>exact h
   split at h
   ·rename_i e; cases h; exact e
   ·cases h
  | .idx i::p,h =>
   cases o with
   | false=>simp [u6] at h
   | true =>
    simp only [u6] at h;split at h
    ·split at h
     ·cases h; rfl
     ·cases h
    ·cases h
  | .l8 i::p,h=>cases o<;>simp [u6] at h
 | _ =>
  intro x p u y z h
  match p,h with
  | [],h =>
   simp only [u6] at h;split at h
   ·rename_i e; cases h; exact e
   ·cases h
  | .idx i::p,h=>simp [u6] at h
  | .l8 i::p,h=>simp [u6] at h
theorem Qq:∀ {t:Ty} {q:List Step} {b off:Nat} {O1:List Nat} {x:t.den},w5 H S t q b off O1 x ->
  ∀ {u0:Ty} {y0:u0.den},j9 t x q=some ⟨u0,y0⟩->∀ {b' aA:Nat},y8 H t q b off=some (b',aA) ->
  off+t.size<=(w6 H b).length->b<H.size->O1.Nodup->b∉O1->(∀ c∈O1,c<H.size) ->
  ∀ {u:Ty} {y:u.den} {z:Sigma Ty.den},X1 H H' b' aA u0.size->u6 t x q u y=some z ->
  ∀ {p:List Step},kp q p=true->x8 t x p->y8 H' z.1 p b off=y8 H t p b off/\x8 z.1 z.2 p:=by
 intro t
 induction t with
 | pair a c iha ihc =>
  intro q b off O1 x hR u0 y0 hg b' aA hn hb dx aJ bR ch u y z hc hz p hk ho
  match q,hR,hg,hn,hz,hk with
  | [],hR,hg,hn,hz,hk =>
   simp only [u6] at hz;split at hz
   ·rename_i e; cases hz; exact ⟨Ee e hk,DM e hk ho⟩
   ·cases hz
  | .l8 0::q,⟨P1,P2,e,h1,h2⟩,hg,hn,hz,hk =>
   subst e;simp only [u6] at hz;split at hz
   ·rename_i t' w hw
    cases hz;simp only [aAg,aAi,not_or] at aJ bR;simp only [Ty.size] at hb;have bp:=w5.range h1 hg hn
    match p,hk,ho with
    | [],_,_=>exact ⟨rfl,trivial⟩
    | .l8 0::p,hk,ho =>
     exact iha h1 hg hn (by omega) dx aJ.1 bR.1 (λ c hc=>ch c (by simp [hc])) hc hw (by simpa [kp] using hk) ho
    | .l8 (m+1)::p,_,ho =>
     have aW:t'.size=a.size:=F9 (Xe hw);refine ⟨?_,ho⟩;simp only [y8,aW];refine zp h2 (by omega) ho ?_ ?_
     ·refine hc.cells dx (λ e=>?_)
      rcases bp with ⟨_,g,g'⟩|g
      ·right; omega
      ·exact absurd (by simp [e,g]:b∈P1) bR.1
     ·intro d hd
      refine hc.rest d ?_ (ch d (by simp [hd]));rintro rfl;rcases bp with ⟨g,_⟩|g
      ·subst g; exact bR.2 hd
      ·exact aJ.2.2 _ g _ hd rfl
    | .idx i::p,hk,_=>simp [kp] at hk
   ·cases hz
  | .l8 (n+1)::q,⟨P1,P2,e,h1,h2⟩,hg,hn,hz,hk =>
   subst e;simp only [u6] at hz;split at hz
   ·rename_i t' w hw
    cases hz;simp only [aAg,aAi,not_or] at aJ bR;simp only [Ty.size] at hb;have bp:=w5.range h2 hg hn
    match p,hk,ho with
    | [],_,_=>exact ⟨rfl,trivial⟩
    | .l8 0::p,_,ho =>
     refine ⟨?_,ho⟩;simp only [y8];refine zp h1 (by omega) ho ?_ ?_
     ·refine hc.cells dx (λ e=>?_)
      rcases bp with ⟨_,g,g'⟩|g
      ·left; omega
      ·exact absurd (by simp [e,g]:b∈P2) bR.2
     ·intro d hd
      refine hc.rest d ?_ (ch d (by simp [hd]));rintro rfl;rcases bp with ⟨g,_⟩|g
      ·subst g; exact bR.1 hd
      ·exact aJ.2.2 _ hd _ g rfl
    | .l8 (m+1)::p,hk,ho =>
     exact ihc h2 hg hn (by omega) dx aJ.2.1 bR.2 (λ c hc=>ch c (by simp [hc])) hc hw (by
      simp only [kp,Nat.add_right_cancel_iff] at hk ⊢; exact hk) ho
    | .idx i::p,hk,_=>simp [kp] at hk
   ·cases hz
  | .idx i::q,hR,_,_,_,_=>simp [w5] at hR
 | arr n t ih =>
  intro q b off O1 x hR u0 y0 hg b' aA hn hb dx aJ bR ch u y z hc hz p hk ho
  match q,hR,hg,hn,hz,hk with
  | [],hR,hg,hn,hz,hk =>
   simp only [u6] at hz;split at hz
   ·rename_i e; cases hz; exact ⟨Ee e hk,DM e hk ho⟩
   ·cases hz
  | .idx i::q,⟨hl,hi,P1,P2,P3,e,h1,h2,h3⟩,hg,hn,hz,hk =>
   subst e;simp only [u6] at hz;split at hz
   ·rename_i t' w hw
    split at hz
    ·rename_i ht; subst ht; cases hz
     simp only [aAg,aAi,not_or] at aJ bR;obtain ⟨b1,b2,b3,b4⟩:=E1 (sz:=t'.size) hi;simp only [Ty.size] at hb;have bp:=w5.range h2 hg hn
     match p,hk,ho with
     | [],_,_=>exact ⟨rfl,trivial⟩
     | .idx j::p,hk,ho =>
      obtain ⟨hj,ho⟩:=ho;obtain ⟨d1,d2,d3,d4⟩:=E1 (sz:=t'.size) hj;simp only [y8,x8];by_cases bS:i.toNat=j.toNat
      ·rw [<- bS] at ho ⊢
       have:=ih h2 hg hn (by omega) dx aJ.2.1.1 bR.2.1 (λ c hc=>ch c (by simp [hc])) hc hw (by simpa [kp] using hk) ho;refine ⟨this.1,hj,?_⟩;rw [xu,if_pos ⟨rfl,by rw [hl]; exact b1⟩];exact this.2
      ·rw [xu,if_neg (by simp [bS])]
       refine ⟨?_,hj,ho⟩;have bt:∀ d,(d∈P1\/d∈P3)->H'[d]?=H[d]?:=by
        intro d hd;refine hc.rest d ?_ (ch d (by rcases hd with h|h<;>simp [h]));rintro rfl;rcases bp with ⟨g,_⟩|g
        ·subst g; rcases hd with h|h
         ·exact bR.1 h
         ·exact bR.2.2 h
        ·rcases hd with h|h
         ·exact aJ.2.2 _ h _ (.inl g) rfl
         ·exact aJ.2.1.2.2 _ g _ h rfl
       rcases aDs bS with bf|fp
       ·
        have hd:j.toNat - (i.toNat+1)<(List.drop (i.toNat+1) x).length:=by simp only [aAq]; omega
        obtain ⟨Q1,Q2,Q3,e,k1,k2,k3⟩:=j5.split (d:=t'.s4) hd h3;have e1:(i.toNat+1)*t'.size+(j.toNat - (i.toNat+1))*t'.size=j.toNat*t'.size:=by rw [<- aBl]; congr 1; omega
        have hm:(j.toNat - (i.toNat+1))*t'.size+t'.size<=(n - (i.toNat+1))*t'.size:=by omega
        rw [o6,n7 _ _ _ _ (by omega),aBk,e1] at k2;have e2:(List.drop (i.toNat+1) x).getD (j.toNat - (i.toNat+1)) t'.s4=List.getD x j.toNat t'.s4:=by
         simp only [aAb,aBi];rw [show i.toNat+1+(j.toNat - (i.toNat+1))=j.toNat from by omega]
        rw [e2] at k2;refine zp k2 (by omega) ho ?_ (λ d hd=>bt d (.inr (by rw [e]; simp [hd])));refine hc.cells dx (λ e=>?_);rcases bp with ⟨_,g,g'⟩|g
        ·right; omega
        ·exact absurd (by simp [e,g]:b∈P2) bR.2.1
       ·have hd:j.toNat<(List.take i.toNat x).length:=by simp only [aAk]; omega
        obtain ⟨Q1,Q2,Q3,e,k1,k2,k3⟩:=j5.split (d:=t'.s4) hd h1;have hm:j.toNat*t'.size+t'.size<=i.toNat*t'.size:=by
         rw [<- aBf]; exact aAm _ (by omega)
        rw [o6,n7 _ _ _ _ (by omega)] at k2;have e2:(List.take i.toNat x).getD j.toNat t'.s4=List.getD x j.toNat t'.s4:=by
         simp only [aAb,aBn];rw [if_pos (by omega)]
        rw [e2] at k2;refine zp k2 (by omega) ho ?_ (λ d hd=>bt d (.inl (by rw [e]; simp [hd])));refine hc.cells dx (λ e=>?_);rcases bp with ⟨_,g,g'⟩|g
        ·left; omega
        ·exact absurd (by simp [e,g]:b∈P2) bR.2.1
     | .l8 i::p,hk,_=>simp [kp] at hk
    ·cases hz
   ·cases hz
  | .l8 i::q,hR,_,_,_,_=>simp [w5] at hR
 | d0 o t ih =>
  intro q b off O1 x hR u0 y0 hg b' aA hn hb dx aJ bR ch u y z hc hz p hk ho
  match q,hR,hg,hn,hz,hk with
  | [],hR,hg,hn,hz,hk =>
   have hz:(if u.sh=(Ty.d0 o t).sh then some (⟨u,y⟩:Sigma Ty.den) else none)=some z:=by cases o<;>exact hz
   split at hz
   ·rename_i e; cases hz; exact ⟨Ee e hk,DM e hk ho⟩
   ·cases hz
  | .idx i::q,hR,hg,hn,hz,hk =>
   cases o with
   | false=>simp [w5] at hR
   | true =>
    obtain ⟨hi,c1,o1,cap,P1,P2,P3,e,e1,e2,e3,e4,e5,e6,e7⟩:=hR;subst e;simp only [y8,e1] at hn;simp only [u6] at hz;split at hz
    ·rename_i t' w hw
     split at hz
     ·rename_i ht; subst ht; cases hz
      simp only [aAg,aAi,aAs,aAp,not_or] at aJ bR;obtain ⟨b1,b2,b3,b4⟩:=E1 (sz:=t'.size) hi;have cO:List.length x*t'.size<=cap*t'.size:=aAm _ e2;have qa:=e4.free.w6;have dJ:c1<H.size:=ch c1 (by simp);have bp:=w5.range e6 hg hn;have eu:b≠b':=by
       rintro rfl;rcases bp with ⟨g,_⟩|g
       ·exact bR.1 g
       ·exact bR.2.2.1 g
      have jb:(w6 H' b)[off]?=some (.slice (some ⟨c1,o1,none⟩) (List.length x) cap):=by
       rw [Q5 (hc.rest b eu dx)]; exact e1
      match p,hk,ho with
      | [],_,_=>exact ⟨rfl,trivial⟩
      | .idx j::p,hk,ho =>
       obtain ⟨hj,ho⟩:=ho;obtain ⟨d1,d2,d3,d4⟩:=E1 (sz:=t'.size) hj;simp only [y8,x8,e1,jb,aCa];by_cases bS:i.toNat=j.toNat
       ·rw [<- bS] at ho ⊢
        have:=ih e6 hg hn (by omega) dJ aJ.2.2.1.1 aJ.1.2.1 (λ c hc=>ch c (by simp [hc])) hc hw (by simpa [kp] using hk) ho;refine ⟨this.1,hj,?_⟩;rw [xu,if_pos ⟨rfl,b1⟩];exact this.2
       ·rw [xu,if_neg (by simp [bS])]
        refine ⟨?_,hj,ho⟩;have bt:∀ d,(d∈P1\/d∈P3)->H'[d]?=H[d]?:=by
         intro d hd;refine hc.rest d ?_ (ch d (by rcases hd with h|h<;>simp [h]));rintro rfl;rcases bp with ⟨g,_⟩|g
         ·subst g; rcases hd with h|h
          ·exact aJ.1.1 h
          ·exact aJ.1.2.2 h
         ·rcases hd with h|h
          ·exact aJ.2.2.2 _ h _ (.inl g) rfl
          ·exact aJ.2.2.1.2.2 _ g _ h rfl
        rcases aDs bS with bf|fp
        ·have hd:j.toNat - (i.toNat+1)<(List.drop (i.toNat+1) x).length:=by simp only [aAq]; omega
         obtain ⟨Q1,Q2,Q3,e,k1,k2,k3⟩:=j5.split (d:=t'.s4) hd e7;have f1:(i.toNat+1)*t'.size+(j.toNat - (i.toNat+1))*t'.size=j.toNat*t'.size:=by rw [<- aBl]; congr 1; omega
         have hm:(j.toNat - (i.toNat+1))*t'.size+t'.size<=(List.length x - (i.toNat+1))*t'.size:=by omega
         rw [o6,n7 _ _ _ _ (by omega),aBk,f1] at k2;have f2:(List.drop (i.toNat+1) x).getD (j.toNat - (i.toNat+1)) t'.s4=List.getD x j.toNat t'.s4:=by
          simp only [aAb,aBi];rw [show i.toNat+1+(j.toNat - (i.toNat+1))=j.toNat from by omega]
         rw [f2] at k2;refine zp k2 (by omega) ho ?_ (λ d hd=>bt d (.inr (by rw [e]; simp [hd])));refine hc.cells dJ (λ e=>?_);rcases bp with ⟨_,g,g'⟩|g
         ·right; omega
         ·exact absurd (by simp [e,g]:c1∈P2) aJ.1.2.1
        ·have hd:j.toNat<(List.take i.toNat x).length:=by simp only [aAk]; omega
         obtain ⟨Q1,Q2,Q3,e,k1,k2,k3⟩:=j5.split (d:=t'.s4) hd e5;have hm:j.toNat*t'.size+t'.size<=i.toNat*t'.size:=by
          rw [<- aBf]; exact aAm _ (by omega)
         rw [o6,n7 _ _ _ _ (by omega)] at k2;have f2:(List.take i.toNat x).getD j.toNat t'.s4=List.getD x j.toNat t'.s4:=by
          simp only [aAb,aBn];rw [if_pos (by omega)]
         rw [f2] at k2;refine zp k2 (by omega) ho ?_ (λ d hd=>bt d (.inl (by rw [e]; simp [hd])));refine hc.cells dJ (λ e=>?_);rcases bp with ⟨_,g,g'⟩|g
         ·left; omega
         ·exact absurd (by simp [e,g]:c1∈P2) aJ.1.2.1
      | .l8 i::p,hk,_=>simp [kp] at hk
     ·cases hz
    ·cases hz
  | .l8 i::q,hR,_,_,_,_=>cases o<;>simp [w5] at hR
 | _ =>
  intro q b off O1 x hR u0 y0 hg b' aA hn hb dx aJ bR ch u y z hc hz p hk ho
  match q,hR,hg,hn,hz,hk with
  | [],hR,hg,hn,hz,hk =>
   simp only [u6] at hz;split at hz
   ·rename_i e; cases hz; exact ⟨Ee e hk,DM e hk ho⟩
   ·cases hz
  | .idx i::q,hR,_,_,_,_=>simp [w5] at hR
  | .l8 i::q,hR,_,_,_,_=>simp [w5] at hR
end
end Go.Ex
namespace Go.Ex
def kc:Ty->List Step->List Step->Bool
 | .pair a _,.l8 0::q,.l8 0::p=>kc a q p
 | .pair _ _,.l8 0::_,.l8 (_+1)::_=>true
 | .pair _ _,.l8 (_+1)::_,.l8 0::_=>true
 | .pair _ b,.l8 (n+1)::q,.l8 (m+1)::p=>kc b (.l8 n::q) (.l8 m::p)
 | .arr _ t,.idx _::q,.idx _::p=>kc t q p
 | .d0 true t,.idx _::q,.idx _::p=>kc t q p
 | .d0 true _,.idx _::_,[]=>true
 | _,_,_=>false
section
variable {H H':Array Go.Obj} {S S':Nat->Prop}
theorem c2g:∀ {t:Ty} {q:List Step} {b off:Nat} {O1:List Nat} {x:t.den},w5 H S t q b off O1 x ->
  ∀ {u0:Ty} {y0:u0.den},j9 t x q=some ⟨u0,y0⟩->∀ {b' aA:Nat},y8 H t q b off=some (b',aA) ->
  off+t.size<=(w6 H b).length->b<H.size->O1.Nodup->b∉O1->(∀ c∈O1,c<H.size) ->
  ∀ {u:Ty} {y:u.den} {z:Sigma Ty.den},X1 H H' b' aA u0.size->u6 t x q u y=some z ->
  ∀ {p:List Step},kc t q p=true->x8 t x p->∀ {u1:Ty} {y1:u1.den},j9 t x p=some ⟨u1,y1⟩ ->
  (∃ y2:u1.den,j9 z.1 z.2 p=some ⟨u1,y2⟩)/\∀ b1 o1,y8 H t p b off=some (b1,o1)->e8 H' b1 o1 u1.size=e8 H b1 o1 u1.size:=by
 intro t
 induction t with
 | pair a c iha ihc =>
  intro q b off O1 x hR u0 y0 hg b' aA hn hb dx aJ bR ch u y z hc hz p hk ho u1 y1 dq
  match q,hR,hg,hn,hz,hk with
  | [],_,_,_,_,hk=>simp [kc] at hk
  | .l8 0::q,⟨P1,P2,e,h1,h2⟩,hg,hn,hz,hk =>
   subst e;simp only [u6] at hz;split at hz
   ·rename_i t' w hw
    cases hz;simp only [aAg,aAi,not_or] at aJ bR;simp only [Ty.size] at hb;have bp:=w5.range h1 hg hn
    match p,hk,ho,dq with
    | [],hk,_,_=>simp [kc] at hk
    | .l8 0::p,hk,ho,dq =>
     exact iha h1 hg hn (by omega) dx aJ.1 bR.1 (λ c hc=>ch c (by simp [hc])) hc hw (by simpa [kc] using hk) ho dq
    | .l8 (m+1)::p,_,ho,dq =>
     refine ⟨⟨y1,dq⟩,λ b1 o1 fj=>?_⟩;refine zg h2 (by omega) ho ?_ ?_ dq fj
     ·refine hc.cells dx (λ e=>?_)
      rcases bp with ⟨_,g,g'⟩|g
      ·right; omega
      ·exact absurd (by simp [e,g]:b∈P1) bR.1
     ·intro d hd
      refine hc.rest d ?_ (ch d (by simp [hd]));rintro rfl;rcases bp with ⟨g,_⟩|g
      ·subst g; exact bR.2 hd
      ·exact aJ.2.2 _ g _ hd rfl
    | .idx i::p,hk,_,_=>simp [kc] at hk
   ·cases hz
  | .l8 (n+1)::q,⟨P1,P2,e,h1,h2⟩,hg,hn,hz,hk =>
   subst e;simp only [u6] at hz;split at hz
   ·rename_i t' w hw
    cases hz;simp only [aAg,aAi,not_or] at aJ bR;simp only [Ty.size] at hb;have bp:=w5.range h2 hg hn
    match p,hk,ho,dq with
    | [],hk,_,_=>simp [kc] at hk
    | .l8 0::p,_,ho,dq =>
     refine ⟨⟨y1,dq⟩,λ b1 o1 fj=>?_⟩;refine zg h1 (by omega) ho ?_ ?_ dq fj
     ·refine hc.cells dx (λ e=>?_)
      rcases bp with ⟨_,g,g'⟩|g
      ·left; omega
      ·exact absurd (by simp [e,g]:b∈P2) bR.2
     ·intro d hd
      refine hc.rest d ?_ (ch d (by simp [hd]));rintro rfl;rcases bp with ⟨g,_⟩|g
      ·subst g; exact bR.1 hd
      ·exact aJ.2.2 _ hd _ g rfl
    | .l8 (m+1)::p,hk,ho,dq =>
     exact ihc h2 hg hn (by omega) dx aJ.2.1 bR.2 (λ c hc=>ch c (by simp [hc])) hc hw (by simpa [kc] using hk) ho dq
    | .idx i::p,hk,_,_=>simp [kc] at hk
   ·cases hz
  | .idx i::q,hR,_,_,_,_=>simp [w5] at hR
 | arr n t ih =>
  intro q b off O1 x hR u0 y0 hg b' aA hn hb dx aJ bR ch u y z hc hz p hk ho u1 y1 dq
  match q,hR,hg,hn,hz,hk with
  | [],_,_,_,_,hk=>simp [kc] at hk
  | .idx i::q,⟨hl,hi,P1,P2,P3,e,h1,h2,h3⟩,hg,hn,hz,hk =>
   subst e;simp only [u6] at hz;split at hz
   ·rename_i t' w hw
    split at hz
    ·rename_i ht; subst ht; cases hz
     simp only [aAg,aAi,not_or] at aJ bR;obtain ⟨b1,b2,b3,b4⟩:=E1 (sz:=t'.size) hi;simp only [Ty.size] at hb;have bp:=w5.range h2 hg hn
     match p,hk,ho,dq with
     | [],hk,_,_=>simp [kc] at hk
     | .idx j::p,hk,ho,dq =>
      obtain ⟨hj,ho⟩:=ho;obtain ⟨d1,d2,d3,d4⟩:=E1 (sz:=t'.size) hj;simp only [j9] at dq ⊢;simp only [y8];by_cases bS:i.toNat=j.toNat
      ·rw [<- bS] at ho dq ⊢
       rw [xu,if_pos ⟨rfl,by rw [hl]; exact b1⟩];exact ih h2 hg hn (by omega) dx aJ.2.1.1 bR.2.1 (λ c hc=>ch c (by simp [hc])) hc hw (by simpa [kc] using hk) ho dq
      ·rw [xu,if_neg (by simp [bS])]
       refine ⟨⟨y1,dq⟩,λ bb oo fj=>?_⟩;have bt:∀ d,(d∈P1\/d∈P3)->H'[d]?=H[d]?:=by
        intro d hd;refine hc.rest d ?_ (ch d (by rcases hd with h|h<;>simp [h]));rintro rfl;rcases bp with ⟨g,_⟩|g
        ·subst g; rcases hd with h|h
         ·exact bR.1 h
         ·exact bR.2.2 h
        ·rcases hd with h|h
         ·exact aJ.2.2 _ h _ (.inl g) rfl
         ·exact aJ.2.1.2.2 _ g _ h rfl
       rcases aDs bS with bf|fp
       ·have hd:j.toNat - (i.toNat+1)<(List.drop (i.toNat+1) x).length:=by simp only [aAq]; omega
        obtain ⟨Q1,Q2,Q3,e,k1,k2,k3⟩:=j5.split (d:=t'.s4) hd h3;have e1:(i.toNat+1)*t'.size+(j.toNat - (i.toNat+1))*t'.size=j.toNat*t'.size:=by rw [<- aBl]; congr 1; omega
        have hm:(j.toNat - (i.toNat+1))*t'.size+t'.size<=(n - (i.toNat+1))*t'.size:=by omega
        rw [o6,n7 _ _ _ _ (by omega),aBk,e1] at k2;have e2:(List.drop (i.toNat+1) x).getD (j.toNat - (i.toNat+1)) t'.s4=List.getD x j.toNat t'.s4:=by
         simp only [aAb,aBi];rw [show i.toNat+1+(j.toNat - (i.toNat+1))=j.toNat from by omega]
        rw [e2] at k2;refine zg k2 (by omega) ho ?_ (λ d hd=>bt d (.inr (by rw [e]; simp [hd]))) dq fj;refine hc.cells dx (λ e=>?_);rcases bp with ⟨_,g,g'⟩|g
        ·right; omega
        ·exact absurd (by simp [e,g]:b∈P2) bR.2.1
       ·have hd:j.toNat<(List.take i.toNat x).length:=by simp only [aAk]; omega
        obtain ⟨Q1,Q2,Q3,e,k1,k2,k3⟩:=j5.split (d:=t'.s4) hd h1;have hm:j.toNat*t'.size+t'.size<=i.toNat*t'.size:=by
         rw [<- aBf]; exact aAm _ (by omega)
        rw [o6,n7 _ _ _ _ (by omega)] at k2;have e2:(List.take i.toNat x).getD j.toNat t'.s4=List.getD x j.toNat t'.s4:=by
         simp only [aAb,aBn];rw [if_pos (by omega)]
        rw [e2] at k2;refine zg k2 (by omega) ho ?_ (λ d hd=>bt d (.inl (by rw [e]; simp [hd]))) dq fj;refine hc.cells dx (λ e=>?_);rcases bp with ⟨_,g,g'⟩|g
        ·left; omega
        ·exact absurd (by simp [e,g]:b∈P2) bR.2.1
     | .l8 i::p,hk,_,_=>simp [kc] at hk
    ·cases hz
   ·cases hz
  | .l8 i::q,hR,_,_,_,_=>simp [w5] at hR
 | d0 o t ih =>
  intro q b off O1 x hR u0 y0 hg b' aA hn hb dx aJ bR ch u y z hc hz p hk ho u1 y1 dq
  match q,hR,hg,hn,hz,hk with
  | [],_,_,_,_,hk=>cases o<;>simp [kc] at hk
  | .idx i::q,hR,hg,hn,hz,hk =>
   cases o with
   | false=>simp [w5] at hR
   | true =>
    obtain ⟨hi,c1,o1,cap,P1,P2,P3,e,e1,e2,e3,e4,e5,e6,e7⟩:=hR;subst e;simp only [y8,e1] at hn;simp only [u6] at hz;split at hz
    ·rename_i t' w hw
     split at hz
     ·rename_i ht; subst ht; cases hz
      simp only [aAg,aAi,aAs,aAp,not_or] at aJ bR;obtain ⟨b1,b2,b3,b4⟩:=E1 (sz:=t'.size) hi;have cO:List.length x*t'.size<=cap*t'.size:=aAm _ e2;have qa:=e4.free.w6;have dJ:c1<H.size:=ch c1 (by simp);have bp:=w5.range e6 hg hn;have eu:b≠b':=by
       rintro rfl;rcases bp with ⟨g,_⟩|g
       ·exact bR.1 g
       ·exact bR.2.2.1 g
      match p,hk,ho,dq with
      | [],_,_,dq =>
       simp only [j9,aAc] at dq;cases dq;refine ⟨⟨_,rfl⟩,λ bb oo fj=>?_⟩;simp only [y8,aAc] at fj;cases fj;exact l6 (hc.rest b eu dx) _ _
      | .idx j::p,hk,ho,dq =>
       obtain ⟨hj,ho⟩:=ho;obtain ⟨d1,d2,d3,d4⟩:=E1 (sz:=t'.size) hj;simp only [j9] at dq ⊢;simp only [y8,e1];by_cases bS:i.toNat=j.toNat
       ·rw [<- bS] at ho dq ⊢
        rw [xu,if_pos ⟨rfl,b1⟩];exact ih e6 hg hn (by omega) dJ aJ.2.2.1.1 aJ.1.2.1 (λ c hc=>ch c (by simp [hc])) hc hw (by simpa [kc] using hk) ho dq
       ·rw [xu,if_neg (by simp [bS])]
        refine ⟨⟨y1,dq⟩,λ bb oo fj=>?_⟩;have bt:∀ d,(d∈P1\/d∈P3)->H'[d]?=H[d]?:=by
         intro d hd;refine hc.rest d ?_ (ch d (by rcases hd with h|h<;>simp [h]));rintro rfl;rcases bp with ⟨g,_⟩|g
         ·subst g; rcases hd with h|h
          ·exact aJ.1.1 h
          ·exact aJ.1.2.2 h
         ·rcases hd with h|h
          ·exact aJ.2.2.2 _ h _ (.inl g) rfl
          ·exact aJ.2.2.1.2.2 _ g _ h rfl
        rcases aDs bS with bf|fp
        ·have hd:j.toNat - (i.toNat+1)<(List.drop (i.toNat+1) x).length:=by simp only [aAq]; omega
         obtain ⟨Q1,Q2,Q3,e,k1,k2,k3⟩:=j5.split (d:=t'.s4) hd e7;have f1:(i.toNat+1)*t'.size+(j.toNat - (i.toNat+1))*t'.size=j.toNat*t'.size:=by rw [<- aBl]; congr 1; omega
         have hm:(j.toNat - (i.toNat+1))*t'.size+t'.size<=(List.length x - (i.toNat+1))*t'.size:=by omega
         rw [o6,n7 _ _ _ _ (by omega),aBk,f1] at k2;have f2:(List.drop (i.toNat+1) x).getD (j.toNat - (i.toNat+1)) t'.s4=List.getD x j.toNat t'.s4:=by
          simp only [aAb,aBi];rw [show i.toNat+1+(j.toNat - (i.toNat+1))=j.toNat from by omega]
         rw [f2] at k2;refine zg k2 (by omega) ho ?_ (λ d hd=>bt d (.inr (by rw [e]; simp [hd]))) dq fj;refine hc.cells dJ (λ e=>?_);rcases bp with ⟨_,g,g'⟩|g
         ·right; omega
         ·exact absurd (by simp [e,g]:c1∈P2) aJ.1.2.1
        ·have hd:j.toNat<(List.take i.toNat x).length:=by simp only [aAk]; omega
         obtain ⟨Q1,Q2,Q3,e,k1,k2,k3⟩:=j5.split (d:=t'.s4) hd e5;have hm:j.toNat*t'.size+t'.size<=i.toNat*t'.size:=by
          rw [<- aBf]; exact aAm _ (by omega)
         rw [o6,n7 _ _ _ _ (by omega)] at k2;have f2:(List.take i.toNat x).getD j.toNat t'.s4=List.getD x j.toNat t'.s4:=by
          simp only [aAb,aBn];rw [if_pos (by omega)]
         rw [f2] at k2;refine zg k2 (by omega) ho ?_ (λ d hd=>bt d (.inl (by rw [e]; simp [hd]))) dq fj;refine hc.cells dJ (λ e=>?_);rcases bp with ⟨_,g,g'⟩|g
         ·left; omega
         ·exact absurd (by simp [e,g]:c1∈P2) aJ.1.2.1
      | .l8 i::p,hk,_,_=>simp [kc] at hk
     ·cases hz
    ·cases hz
  | .l8 i::q,hR,_,_,_,_=>cases o<;>simp [w5] at hR
 | _ =>
  intro q b off O1 x hR u0 y0 hg b' aA hn hb dx aJ bR ch u y z hc hz p hk ho u1 y1 dq;cases q<;>simp [kc] at hk
end
end Go.Ex
