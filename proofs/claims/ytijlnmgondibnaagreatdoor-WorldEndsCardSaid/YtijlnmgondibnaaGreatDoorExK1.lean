import Derived.Orders
import Derived.Below
import Derived.KernelRfl
import Derived.Laws.Cells
set_option linter.unusedVariables false
set_option linter.unusedSimpArgs false
set_option linter.unusedSectionVars false
abbrev yY:=List UInt8
set_option linter.defProp false
def aAa:=@Bool.and_eq_true
def aAb:=@List.getD_eq_getElem?_getD
def aAc:=@Option.some.injEq
def aAd:=@List.length_append
def aAe:=@Nat.eq_of_beq_eq_true
def aAf:=@List.getElem?_eq_getElem
def aAg:=@List.nodup_append
def aAh:=@List.length_cons
def aAi:=@List.mem_append
def aAj:=@List.append_assoc
def aAk:=@Nat.le_refl
def aAl:=@List.length_map
def aAm:=@Nat.mul_le_mul_right
def aAn:=@List.length_take
def aAo:=@List.length_drop
def aAp:=@Array.getElem?_eq_some_iff
def aAq:=@List.mem_cons
def aAr:=@Nat.zero_le
def aAs:=@Nat.lt_of_lt_of_le
def aAt:=@List.nodup_cons
def aAu:=@Bool.not_eq_true'
def aAv:=@List.append_nil
def aAw:=@List.take_of_length_le
def aAx:=@Nat.le_trans
def aAy:=@List.nodup_nil
def aAz:=@List.mem_cons_of_mem
def aBa:=@Bool.false_ne_true
def aBb:=@Prod.mk.injEq
def aBc:=@List.cons.injEq
def aBd:=@List.mem_cons_self
def aBe:=@List.mem_singleton
def aBf:=@List.mem_append_left
def aBg:=@Nat.succ_mul
def aBh:=@Option.map_some
def aBi:=@List.append_eq_nil_iff
def aBj:=@List.length_set
def aBk:=@List.all_eq_true
def aBl:=@List.getElem?_drop
def aBm:=@List.drop_drop
def aBn:=@List.length_singleton
def aBo:=@Nat.add_assoc
def aBp:=@Nat.add_mul
def aBq:=@List.getElem?_take
def aBr:=@Bool.or_eq_true
def aBs:=@List.mem_append_right
def aBt:=@Decidable.not_not
def aBu:=@List.Perm.append_left
def aBv:=@List.mem_filterMap
def aBw:=@List.mem_filter
def aBx:=@Bool.or_eq_false_iff
def aBy:=@List.take_append_drop
def aBz:=@List.drop_zero
def aCa:=@Int.toNat_natCast
def aCb:=@Nat.min_eq_left
def aCc:=@List.length_replicate
def aCd:=@List.getElem?_eq_none
def aCe:=@Array.getElem?_eq_getElem
def aCf:=@List.map_cons
def aCg:=@List.length_pos_iff
def aCh:=@List.prefix_rfl
def aCi:=@List.length_nil
def aCj:=@Array.getElem?_eq_none
def aCk:=@Nat.lt_irrefl
def aCl:=@List.filterMap_cons
def aCm:=@Array.getD_eq_getD_getElem?
def aCn:=@List.getElem_mem
def aCo:=@List.cons_append
def aCp:=@List.length_eq_zero_iff
def aCq:=@Option.map_eq_some_iff
def aCr:=@Option.isNone_iff_eq_none
def aCs:=@List.take_take
def aCt:=@List.mem_range
def aCu:=@List.filterMap_append
def aCv:=@Nat.add_sub_cancel_left
def aCw:=@List.map_append
def aCx:=@Option.map_none
def aCy:=@Nat.le_of_ble_eq_true
def aCz:=@List.perm_append_comm
def aDa:=@List.mem_map
def aDb:=@Nat.le_add_right
def aDc:=@Array.getElem?_setIfInBounds
def aDd:=@List.take_left'
def aDe:=@List.filter_eq_self
def aDf:=@Nat.blt_eq
def aDg:=@List.filter_cons
def aDh:=@List.length_mapIdx
def aDi:=@List.filter_append
def aDj:=@Bool.or_false
def aDk:=@List.drop_take
def aDl:=@List.eq_nil_iff_forall_not_mem
def aDm:=@List.getElem?_cons_succ
def aDn:=@List.all_cons
def aDo:=@Int.le_refl
def aDp:=@List.take_length
def aDq:=@List.take_append_of_le_length
def aDr:=@List.eq_nil_of_length_eq_zero
def aDs:=@List.drop_eq_nil_of_le
def aDt:=@Nat.lt_or_gt_of_ne
def aDu:=@Nat.add_zero
def aDv:=@List.getElem?_append_right
def aDw:=@Int.tmod_eq_emod_of_nonneg
def aDx:=@List.mem_of_mem_drop
def aDy:=@List.mem_of_getElem?
def aDz:=@List.getElem?_eq_some_iff
def aEa:=@List.replicate_succ
def aEb:=@Int.toNat_of_nonneg
def aEc:=@Array.getElem?_push
def aEd:=@Nat.lt_or_ge
def aEe:=@Option.some.inj
def aEf:=@List.sum_cons
def aEg:=@List.pairwise_cons
def aEh:=@List.countP_append
def aEi:=@Int.tmod_lt_of_pos
def aEj:=@Int.eq_ofNat_of_zero_le
def aEk:=@Int.ediv_nonneg
def aEl:=@List.flatten_cons
def aEm:=@List.ext_getElem?
def aEn:=@Bool.not_eq_false
def aEo:=@Option.map_map
def aEp:=@Int.emod_add_mul_ediv
def aEq:=@List.not_mem_nil
def aEr:=@List.any_eq_true
def aEs:=@List.range_eq_range'
def aEt:=@List.nil_prefix
def aEu:=@List.drop_left'
def aEv:=@List.countP_nil
def aEw:=@Int.emod_nonneg
def aEx:=@Array.length_toList
def aEy:=@Nat.zero_mul
def aEz:=@Nat.zero_add
def aFa:=@List.prefix_append
def aFb:=@Int.le_of_lt
def aFc:=@Bool.not_eq_false'
def aFd:=@Bool.false_eq_true
def aFe:=@List.take_zero
def aFf:=@List.getElem?_append_left
def aFg:=@List.drop_eq_getElem_cons
def aFh:=@List.Perm.refl
def aFi:=@List.size_toArray
def aFj:=@List.getElem?_set
def aFk:=@List.flatMap_cons
def aFl:=@Array.size_append
def aFm:=@List.getElem?_replicate
def aFn:=@List.any_cons
def aFo:=@Bool.true_and
def aFp:=@List.ext_getElem
def aFq:=@Nat.le_of_eq
def aFr:=@Nat.beq_refl
def aFs:=@Nat.add_comm
def aFt:=@List.map_nil
def aFu:=@Array.getElem?_modify
def aFv:=@Nat.ble_eq
def aFw:=@Nat.pow_le_pow_right
def aFx:=@Nat.div_lt_of_lt_mul
def aFy:=@Int.mul_nonneg
def aFz:=@Nat.xor_lt_two_pow
def aGa:=@Nat.add_sub_cancel
def aGb:=@Int.natCast_nonneg
def aGc:=@Bool.not_true
def aGd:=@List.take_add_one
def aGe:=@List.getElem?_map
def aGf:=@List.filter_congr
def aGg:=@Nat.pow_succ
def aGh:=@Int.neg_tmod
def aGi:=@Int.le.intro
def aGj:=@Option.bind_some
def aGk:=@List.range'_succ
def aGl:=@List.drop_length
def aGm:=@List.drop_append_of_le_length
def aGn:=@Int.ediv_le_self
def aGo:=@List.prefix_append_right_inj
def aGp:=@Nat.min_def
def aGq:=@List.sum_append
def aGr:=@List.nil_append
def aGs:=@Int.tdiv_eq_ediv_of_nonneg
def aGt:=@Array.toList_setIfInBounds
def aGu:=@List.take_left
def aGv:=@List.mapM_cons
def aGw:=@Bool.false_and
def aGx:=@Array.mapM_eq_mapM_toList
def aGy:=@Array.size_setIfInBounds
def aGz:=@Array.ext'
def aHa:=@List.take_nil
def aHb:=@List.prefix_iff_eq_take
def aHc:=@List.getElem?_cons_zero
def aHd:=@List.cons.inj
def aHe:=@Bool.and_self
def aHf:=@Nat.testBit_lt_two_pow
def aHg:=@List.sum_replicate_nat
def aHh:=@List.getElem?_set_self
def aHi:=@List.getElem?_dropLast
def aHj:=@List.filter_eq_nil_iff
def aHk:=@List.Perm.append_right
def aHl:=@Nat.sub_self
def aHm:=@List.map_map
def aHn:=@Bool.beq_eq_decide_eq
def aHo:=@Array.getElem?_append
def aHp:=@List.pairwise_append
def aHq:=@List.mem_of_mem_take
def aHr:=@List.getElem?_mapIdx
def aHs:=@List.getElem?_append
def aHt:=@Bool.and_eq_true_iff
def aHu:=@Nat.le_succ
def aHv:=@Nat.add_le_add_left
def aHw:=@List.take_succ_cons
def aHx:=@List.takeWhile_cons
def aHy:=@List.length_flatten
def aHz:=@List.getElem_of_mem
def aIa:=@List.filter_sublist
def aIb:=@Int.neg_neg
def aIc:=@Iff.rfl
namespace Go.Ex
inductive Ty where
 | int (k:IntKind)|bool|str|unit
 | fn (f:Nat)
 | map (o:Bool) (k v:Ty)
 | box (o:Bool) (g:Option Nat) (t:Ty)
 | pair (a b:Ty)
 | arr (n:Nat) (t:Ty)
 | d0 (o:Bool) (t:Ty)
 | hole (t:Ty)
 | D4 (t:Ty)
 deriving DecidableEq,Inhabited
@[reducible] def Ty.den:Ty->Type
 | .int _=>Int
 | .bool=>Bool
 | .str=>yY
 | .unit=>Unit
 | .fn _=>Bool
 | .map _ k v=>Option (List (k.den×v.den))
 | .box _ _ t=>Option t.den
 | .pair a b=>a.den×b.den
 | .arr _ t=>List t.den
 | .d0 _ t=>List t.den
 | .hole t=>List t.den
 | .D4 t=>Nat×(List t.den×List t.den)
def Ty.w5:(t:Ty)->t.den
 | .int _=>(0:Int)
 | .bool=>false
 | .str=>([]:yY)
 | .unit=>()
 | .fn _=>false
 | .map _ _ _=>none
 | .box _ _ _=>none
 | .pair a b=>(a.w5,b.w5)
 | .arr n t=>List.replicate n t.w5
 | .d0 _ _=>[]
 | .hole _=>[]
 | .D4 _=>(1,([],[]))
def Ty.size:Ty->Nat
 | .int _|.bool|.str|.fn _|.d0 _ _|.map _ _ _|.box _ _ _|.hole _|.D4 _=>1
 | .unit=>0
 | .pair a b=>a.size+b.size
 | .arr n t=>n*t.size
def Ty.shared:Ty->Bool
 | .int _|.bool|.str|.unit|.fn _|.hole _=>true
 | .pair a b=>a.shared && b.shared
 | .arr _ t=>t.shared
 | .d0 o t=>!o && t.shared
 | .map o _ _=>!o
 | .box o _ t=>!o && t.shared
 | .D4 _=>false
def Ty.X1:Ty->Bool
 | .pair a b=>a.X1 && b.X1
 | .arr _ t=>t.X1
 | .d0 _ t=>t.X1
 | .box _ _ t=>t.X1
 | .map _ k v=>k.X1 && v.X1
 | .hole _=>false
 | .D4 _=>false
 | _=>true
def Ty.agg:Ty->Bool
 | .pair _ _|.unit|.arr _ _=>true
 | _=>false
def Ty.sh:Ty->Ty
 | .pair a b=>.pair a.sh b.sh
 | .arr n t=>.arr n t.sh
 | .d0 _ t=>.d0 false t.sh
 | .hole t=>.d0 false t.sh
 | .D4 t=>.D4 t.sh
 | .box _ g t=>.box false g t.sh
 | .map _ k v=>.map false k v
 | t=>t
def Ty.shH:Ty->Ty
 | .pair a b=>.pair a.shH b.shH
 | .hole t=>.hole t
 | .D4 t=>.D4 t.sh
 | .arr n t=>.arr n t.sh
 | .d0 _ t=>.d0 false t.sh
 | .box _ g t=>.box false g t.sh
 | .map _ k v=>.map false k v
 | t=>t
def Ty.okH:Ty->Bool
 | .pair a b=>a.okH && b.okH
 | .hole _=>true
 | .D4 _=>false
 | .arr _ t=>t.X1
 | .d0 _ t=>t.X1
 | .box _ _ t=>t.X1
 | .map _ k v=>k.X1 && v.X1
 | _=>true
def Ea:Value->Bool
 | .slice _ _ _=>true
 | _=>false
def w4 (k:IntKind) (n:Int):Prop:=k.min<=n/\n<=k.max
def y8 (H:Array Go.Obj) (b:Nat):List Value :=
 match H[b]? with
 | some (.cells arr _ _)=>arr.toList
 | _=>[]
def e8 (H:Array Go.Obj) (b off n:Nat):List Value:=((y8 H b).drop off).take n
def AB (o:Bool) (cap:Nat):Prop:=cap<=maxLen/\(o=true->1<=cap)
def j5 {α:Type} (R:List Nat->List Value->α->Prop) (sz:Nat):List Nat->List Value->List α->Prop
 | O,cs,[]=>O=[]/\cs=[]
 | O,cs,x::l=>∃ O1 O2,O=O1++O2/\R O1 (cs.take sz) x/\j5 R sz O2 (cs.drop sz) l
def Lie (H:Array Go.Obj) (b:Nat) (arr:Array Value) (T:TypeId) (fz:Nat×Nat):Prop:=H[b]?=some (.cells arr T fz)/\(fz=(0,0)\/arr.size<=fz.1)
def R0 (H:Array Go.Obj) (b n:Nat):Prop:=∃ arr T,(∃ fz,Lie H b arr T fz)/\n<=arr.size
def Ty.isB:Ty->Bool
 | .int .u8=>true
 | _=>false
def W3 (q:Bool) (H:Array Go.Obj) (b n:Nat):Prop:=∃ arr T,(∃ fz,H[b]?=some (.cells arr T fz)/\(fz=(0,0)\/(q=true/\arr.size<=fz.1)))/\n<=arr.size
theorem W3.free {q:Bool} {H:Array Go.Obj} {b n:Nat}:W3 q H b n->R0 H b n:=λ⟨arr,T,⟨fz,e,ef⟩,hn⟩=>⟨arr,T,⟨fz,e,ef.imp id (·.2)⟩,hn⟩
def fnV (f:Nat) (b:Bool):Value:=match b with|true=>.func (.func f) #[] #[]|false=>if f=4000000 then .nilIface else .nilFunc
def xG (g:Option Nat) (a:Addr):Value:=match g with|none=>.pointer (some a)|some f=>.func (.func f) #[] #[.pointer (some a)]
def DO (g:Option Nat):Value:=match g with|none=>.pointer none|some _=>.nilFunc
theorem Yx {g:Option Nat} {a b:Addr} (h:xG g a=xG g b):a=b:=by cases g<;>simpa [xG] using h
theorem OE {g:Option Nat} {a:Addr} (h:xG g a=DO g):False:=by cases g<;>cases h
def s5 (t:Ty) (cs:List Value):Value:=if t.agg then .agg cs.toArray else cs.headD undef
def vE {α β:Type} (R:List Value->α->Prop) (R':List Value->β->Prop) (t u:Ty):List MapEntry->List (α×β)->Prop
 | [],l=>l=[]
 | e::es,l=>∃ x y l' cs ds,l=(x,y)::l'/\e.key=s5 t cs/\R cs x/\e.val=s5 u ds/\R' ds y/\vE R R' t u es l'
def i6 (H:Array Go.Obj) (S:Nat->Prop):(t:Ty)->List Nat->List Value->t.den->Prop
 | .int k,O,cs,n=>O=[]/\cs=[.int k n]/\w4 k n
 | .bool,O,cs,b=>O=[]/\cs=[.bool b]
 | .str,O,cs,s=>O=[]/\cs=[.string ⟨s.toArray⟩]/\s.length<=maxLen
 | .unit,O,cs,_=>O=[]/\cs=[]
 | .fn f,O,cs,b=>O=[]/\cs=[fnV f b]
 | .map o k v,O,cs,x=>(x=none/\O=[]/\cs=[.map none]) \/
  ∃ l b es ck,x=some l/\cs=[.map (some b)]/\H[b]?=some (.map es ck)/\vE (i6 H S k []) (i6 H S v []) k v es.toList l /\
   match o with
   | true=>O=[b]
   | false=>O=[]/\S b
 | .box o g t,O,cs,x=>(x=none/\O=[]/\cs=[DO g]) \/
  ∃ y b off O',x=some y/\cs=[xG g ⟨b,off,none⟩]/\off+t.size<=(y8 H b).length/\i6 H S t O' (e8 H b off t.size) y /\
   match o with
   | true=>O=b::O'/\R0 H b (off+t.size)
   | false=>O=[]/\O'=[]/\S b
 | .pair a b,O,cs,x=>∃ O1 O2,O=O1++O2/\i6 H S a O1 (cs.take a.size) x.1/\i6 H S b O2 (cs.drop a.size) x.2
 | .arr n t,O,cs,l=>List.length l=n/\j5 (i6 H S t) t.size O cs l
 | .d0 o t,O,cs,l =>
  (O=[]/\(∃ a c,cs=[.slice a 0 c]/\(o=true->c=0))/\l=[]) \/
  ∃ b off cap O',cs=[.slice (some ⟨b,off,none⟩) (List.length l) cap]/\List.length l<=cap/\AB o cap /\
   off+List.length l*t.size<=(y8 H b).length/\j5 (i6 H S t) t.size O' (e8 H b off (List.length l*t.size)) l /\
   match o with
   | true=>O=b::O'/\W3 t.isB H b (off+cap*t.size)
   | false=>O=[]/\O'=[]/\S b
 | .hole _,O,cs,_=>O=[]/\∃ v,cs=[v]/\Ea v=true
 | .D4 t,O,cs,(0,l,_) =>
  (O=[]/\(∃ a c,cs=[.slice a 0 c]/\(false=true->c=0))/\l=[]) \/
  ∃ b off cap O',cs=[.slice (some ⟨b,off,none⟩) (List.length l) cap]/\List.length l<=cap/\AB false cap /\
   off+List.length l*t.size<=(y8 H b).length/\j5 (i6 H S t) t.size O' (e8 H b off (List.length l*t.size)) l /\
   (O=[]/\O'=[]/\S b)
 | .D4 t,O,cs,(1,l,_) =>
  (O=[]/\(∃ a c,cs=[.slice a 0 c]/\(true=true->c=0))/\l=[]) \/
  ∃ b off cap O',cs=[.slice (some ⟨b,off,none⟩) (List.length l) cap]/\List.length l<=cap/\AB true cap /\
   off+List.length l*t.size<=(y8 H b).length/\j5 (i6 H S t) t.size O' (e8 H b off (List.length l*t.size)) l /\
   (O=b::O'/\W3 t.isB H b (off+cap*t.size))
 | .D4 t,O,cs,(n+2,l,m) =>
  ∃ b off O',cs=[.slice (some ⟨b,off,none⟩) (List.length l) (List.length l+List.length m)]/\AB true (List.length l+List.length m) /\
   off+List.length (l++m)*t.size<=(y8 H b).length/\j5 (i6 H S t) t.size O' (e8 H b off (List.length (l++m)*t.size)) (l++m) /\
   match n with
   | 0=>O=b::O'/\W3 t.isB H b (off+(List.length l+List.length m)*t.size)
   | _=>O=[]/\O'=[]/\S b
section
variable {H H':Array Go.Obj} {S S':Nat->Prop}
theorem i6.m1 {t:Ty} {O:List Nat} {cs:List Value} {l m:List t.den}:i6 H S (.D4 t) O cs (1,l,m)↔i6 H S (.d0 true t) O cs l:=aIc
theorem R9 {b:Nat} (h:H'[b]?=H[b]?):y8 H' b=y8 H b:=by simp only [y8,h]
theorem l7 {b:Nat} (h:H'[b]?=H[b]?) (off n:Nat):e8 H' b off n=e8 H b off n:=by simp only [e8,R9 h]
theorem j5.mono {α:Type} {R R':List Nat->List Value->α->Prop} {sz:Nat} {L:List Nat}:∀ {l:List α} {O:List Nat} {cs:List Value},
  (∀ b∈O,b∈L)->(∀ O cs x,(∀ b∈O,b∈L)->R O cs x->R' O cs x)->j5 R sz O cs l->j5 R' sz O cs l
 | [],_,_,_,_,h=>h
 | _::_,_,_,hL,hr,⟨O1,O2,e,h1,h2⟩=>by
  subst e;exact ⟨O1,O2,rfl,hr _ _ _ (λ b hb=>hL b (by simp [hb])) h1,j5.mono (λ b hb=>hL b (by simp [hb])) hr h2⟩
theorem vE.mono {α β:Type} {R R1:List Value->α->Prop} {R' R1':List Value->β->Prop} {t u:Ty} (h:∀ cs x,R cs x->R1 cs x) (h':∀ cs x,R' cs x->R1' cs x):∀ {es:List MapEntry} {l:List (α×β)},vE R R' t u es l->vE R1 R1' t u es l
 | [],_,e=>e
 | _::_,_,⟨x,y,l',cs,ds,e,e1,e2,e3,e4,e5⟩=>⟨x,y,l',cs,ds,e,e1,h _ _ e2,e3,h' _ _ e4,vE.mono h h' e5⟩
theorem i6.LY {o:Bool} {t:Ty} (ih:∀ {O:List Nat} {cs:List Value} {x:t.den},i6 H S t O cs x->(∀ b,b∈O\/S b->H'[b]?=H[b]?)->(∀ b,S b->S' b)->i6 H' S' t O cs x)
  {O:List Nat} {cs:List Value} {x:List t.den} (h:i6 H S (.d0 o t) O cs x) (hH:∀ b,b∈O\/S b->H'[b]?=H[b]?) (hS:∀ b,S b->S' b):i6 H' S' (.d0 o t) O cs x:=by
 rcases h with h|⟨b,off,cap,O',h1,h2,h3,h4,h5,h6⟩
 ·exact Or.inl h
 ·refine Or.inr ⟨b,off,cap,O',h1,h2,h3,?_⟩
  have hb:H'[b]?=H[b]?:=by
   apply hH;cases o with
   | true=>left; rw [h6.1]; simp
   | false=>right; exact h6.2.2
  have bU:∀ c∈O',c∈O:=by
   intro c hc;cases o with
   | true=>rw [h6.1]; simp [hc]
   | false=>rw [h6.2.1] at hc; cases hc
  rw [R9 hb,l7 hb];refine ⟨h4,j5.mono (L:=O) bU (λ O1 c y hL hr=>ih hr (λ b hb=>hH b (hb.imp (hL b) id)) hS) h5,?_⟩;cases o with
  | true=>obtain ⟨e,arr,T,e1,e2⟩:=h6; obtain ⟨fz,e1,e3⟩:=e1; exact ⟨e,arr,T,⟨fz,hb.trans e1,e3⟩,e2⟩
  | false=>exact ⟨h6.1,h6.2.1,hS b h6.2.2⟩
theorem i6.x7:∀ {t:Ty} {O:List Nat} {cs:List Value} {x:t.den},i6 H S t O cs x ->
  (∀ b,b∈O\/S b->H'[b]?=H[b]?)->(∀ b,S b->S' b)->i6 H' S' t O cs x:=by
 intro t
 induction t with
 | int k=>intro O cs x h _ _; exact h
 | bool=>intro O cs x h _ _; exact h
 | str=>intro O cs x h _ _; exact h
 | unit=>intro O cs x h _ _; exact h
 | fn f=>intro O cs x h _ _; exact h
 | hole t=>intro O cs x h _ _; exact h
 | map o k v ihk ihv =>
  rintro O cs x (h|⟨l,b,es,ck,h0,h2,h3,h4,h5⟩) hH hS
  ·exact .inl h
  have gF:∀ c,c∈([]:List Nat)\/S c->H'[c]?=H[c]?:=λ c hc=>hH c (.inr (by rcases hc with hc|hc; cases hc; exact hc));have hb:H'[b]?=H[b]?:=by
   apply hH;cases o with
   | true=>left; rw [h5]; simp
   | false=>right; exact h5.2
  refine .inr ⟨l,b,es,ck,h0,h2,hb.trans h3,h4.mono (λ _ _ h=>ihk h gF hS) (λ _ _ h=>ihv h gF hS),?_⟩;cases o with
  | true=>exact h5
  | false=>exact ⟨h5.1,hS b h5.2⟩
 | box o g t ih =>
  rintro O cs x (h|⟨y,b,off,O',h0,h1,h2,h3,h4⟩) hH hS
  ·exact .inl h
  have hb:H'[b]?=H[b]?:=by
   apply hH;cases o with
   | true=>left; rw [h4.1]; simp
   | false=>right; exact h4.2.2
  have bU:∀ c∈O',c∈O:=by
   intro c hc;cases o with
   | true=>rw [h4.1]; simp [hc]
   | false=>rw [h4.2.1] at hc; cases hc
  refine .inr ⟨y,b,off,O',h0,h1,by rw [R9 hb]; exact h2,by rw [l7 hb]; exact ih h3 (λ b hb=>hH b (hb.imp (bU b) id)) hS,?_⟩;cases o with
  | true=>obtain ⟨e,arr,T,e1,e2⟩:=h4; obtain ⟨fz,e1,e3⟩:=e1; exact ⟨e,arr,T,⟨fz,hb.trans e1,e3⟩,e2⟩
  | false=>exact ⟨h4.1,h4.2.1,hS b h4.2.2⟩
 | pair a b iha ihb =>
  rintro O cs x ⟨O1,O2,rfl,h1,h2⟩ hH hS;exact ⟨O1,O2,rfl,iha h1 (λ b hb=>hH b (hb.imp (λ h=>by simp [h]) id)) hS,ihb h2 (λ b hb=>hH b (hb.imp (λ h=>by simp [h]) id)) hS⟩
 | arr n t ih =>
  rintro O cs x ⟨h1,h2⟩ hH hS;refine ⟨h1,j5.mono (L:=O) (λ _ h=>h) (λ O1 c y hL hr=>?_) h2⟩;exact ih hr (λ b hb=>hH b (hb.imp (hL b) id)) hS
 | d0 o t ih=>intro O cs x h hH hS; exact i6.LY ih h hH hS
 | D4 t ih =>
  rintro O cs ⟨n,l,m⟩ h hH hS
  match n,h with
  | 0,h=>exact i6.LY (o:=false) ih h hH hS
  | 1,h=>exact i6.LY (o:=true) ih h hH hS
  | n+2,⟨b,off,O',h1,h2,h3,h4,h5⟩ =>
   have hb:H'[b]?=H[b]?:=by
    apply hH;cases n with
    | zero=>left; rw [h5.1]; simp
    | succ n=>right; exact h5.2.2
   have bU:∀ c∈O',c∈O:=by
    intro c hc;cases n with
    | zero=>rw [h5.1]; simp [hc]
    | succ n=>rw [h5.2.1] at hc; cases hc
   refine ⟨b,off,O',h1,h2,by rw [R9 hb]; exact h3,by rw [l7 hb]; exact j5.mono (L:=O) bU (λ O1 c y hL hr=>ih hr (λ b hb=>hH b (hb.imp (hL b) id)) hS) h4,?_⟩;cases n with
   | zero=>obtain ⟨e,arr,T,e1,e2⟩:=h5; obtain ⟨fz,e1,e3⟩:=e1; exact ⟨e,arr,T,⟨fz,hb.trans e1,e3⟩,e2⟩
   | succ n=>exact ⟨h5.1,h5.2.1,hS b h5.2.2⟩
theorem j5.length {α:Type} {R:List Nat->List Value->α->Prop} {sz:Nat} (hR:∀ O cs x,R O cs x->cs.length=sz):∀ {l:List α} {O:List Nat} {cs:List Value},
  j5 R sz O cs l->cs.length=l.length*sz
 | [],_,_,⟨_,h⟩=>by simp [h]
 | x::l,_,cs,⟨O1,O2,_,h1,h2⟩=>by
  have e1:=hR _ _ _ h1;have e2:=j5.length hR h2;simp only [aAn,aAo,aAh,aBg] at *
  omega
theorem i6.length:∀ {t:Ty} {O:List Nat} {cs:List Value} {x:t.den},i6 H S t O cs x->cs.length=t.size:=by
 intro t
 induction t with
 | int k=>rintro O cs x ⟨_,rfl,_⟩; rfl
 | bool=>rintro O cs x ⟨_,rfl⟩; rfl
 | str=>rintro O cs x ⟨_,rfl,_⟩; rfl
 | unit=>rintro O cs x ⟨_,rfl⟩; rfl
 | fn f=>rintro O cs x ⟨_,rfl⟩; rfl
 | hole t=>rintro O cs x ⟨_,v,rfl,_⟩; rfl
 | map o k v=>rintro O cs x (⟨_,_,rfl⟩|⟨l,b,es,ck,_,rfl,_⟩)<;>rfl
 | box o g t=>rintro O cs x (⟨_,_,rfl⟩|⟨y,b,off,O',_,rfl,_⟩)<;>rfl
 | pair a b iha ihb =>
  rintro O cs x ⟨O1,O2,rfl,h1,h2⟩;have e1:=iha h1;have e2:=ihb h2;simp only [aAn,aAo,Ty.size] at *
  omega
 | arr n t ih =>
  rintro O cs x ⟨h1,h2⟩;have:=j5.length (λ _ _ _ h=>ih h) h2;simp only [Ty.size];rw [this,h1]
 | d0 o t ih =>
  rintro O cs x h;rcases h with ⟨_,⟨_,_,rfl,_⟩,_⟩|⟨b,off,cap,O',rfl,_⟩<;>rfl
 | D4 t ih =>
  rintro O cs ⟨n,l,m⟩ h
  match n,h with
  | 0,h=>rcases h with ⟨_,⟨_,_,rfl,_⟩,_⟩|⟨b,off,cap,O',rfl,_⟩<;>rfl
  | 1,h=>rcases h with ⟨_,⟨_,_,rfl,_⟩,_⟩|⟨b,off,cap,O',rfl,_⟩<;>rfl
  | n+2,⟨b,off,O',h1,_⟩=>rw [h1]; rfl
theorem j5.Q8 {α:Type} {R:List Nat->List Value->α->Prop} {sz:Nat} (hR:∀ O cs x,R O cs x->O=[]):∀ {l:List α} {O:List Nat} {cs:List Value},j5 R sz O cs l->O=[]
 | [],_,_,⟨h,_⟩=>h
 | _::_,_,_,⟨O1,O2,e,h1,h2⟩=>by rw [e,hR _ _ _ h1,j5.Q8 hR h2]; rfl
theorem i6.Q8:∀ {t:Ty} {O:List Nat} {cs:List Value} {x:t.den},t.shared=true->i6 H S t O cs x->O=[]:=by
 intro t
 induction t with
 | int k=>intro O cs x _ h; exact h.1
 | bool=>intro O cs x _ h; exact h.1
 | str=>intro O cs x _ h; exact h.1
 | unit=>intro O cs x _ h; exact h.1
 | fn f=>intro O cs x _ h; exact h.1
 | hole t=>intro O cs x _ h; exact h.1
 | map o k v =>
  rintro O cs x hs (h|⟨l,b,es,ck,_,_,_,_,h6⟩)
  ·exact h.2.1
  simp only [Ty.shared,aAu] at hs;rw [hs] at h6; exact h6.1
 | box o g t =>
  rintro O cs x hs (h|⟨y,b,off,O',_,_,_,_,h6⟩)
  ·exact h.2.1
  simp only [Ty.shared,aAa,aAu] at hs;rw [hs.1] at h6; exact h6.1
 | pair a b iha ihb =>
  rintro O cs x hs ⟨O1,O2,rfl,h1,h2⟩;simp only [Ty.shared,aAa] at hs;rw [iha hs.1 h1,ihb hs.2 h2]; rfl
 | arr n t ih =>
  rintro O cs x hs ⟨h1,h2⟩;exact j5.Q8 (λ _ _ _ h=>ih hs h) h2
 | d0 o t ih =>
  rintro O cs x hs h;simp only [Ty.shared,aAa,aAu] at hs;rcases h with h|⟨b,off,cap,O',_,_,_,_,_,h6⟩
  ·exact h.1
  ·rw [hs.1] at h6; exact h6.1
 | D4 t ih=>intro O cs x hs; cases hs
theorem j5.ye {α:Type} {R:List Nat->List Value->α->Prop} {sz:Nat} {p:Nat->Prop} (hR:∀ O cs x,R O cs x->∀ b∈O,p b):∀ {l:List α} {O:List Nat} {cs:List Value},j5 R sz O cs l->∀ b∈O,p b
 | [],_,_,⟨h,_⟩=>by rw [h]; simp
 | _::_,_,_,⟨O1,O2,e,h1,h2⟩=>by
  subst e; intro b hb;rcases aAi.1 hb with h|h
  ·exact hR _ _ _ h1 b h
  ·exact j5.ye hR h2 b h
theorem i6.KB {o:Bool} {t:Ty} (ih:∀ {O:List Nat} {cs:List Value} {x:t.den},i6 H S t O cs x->∀ b∈O,b<H.size) {O:List Nat} {cs:List Value} {x:List t.den} (h:i6 H S (.d0 o t) O cs x):∀ b∈O,b<H.size:=by
 rcases h with h|⟨b,off,cap,O',_,_,_,_,h5,h6⟩
 ·rw [h.1]; simp
 ·cases o with
  | true =>
   intro c hc;rw [h6.1] at hc;rcases aAq.1 hc with rfl|hc
   ·obtain ⟨_,arr,T,⟨fz,e,_⟩,_⟩:=h6; exact (aAp.1 e).1
   ·exact j5.ye (λ _ _ _ h=>ih h) h5 c hc
  | false=>rw [h6.1]; simp
theorem i6.ye:∀ {t:Ty} {O:List Nat} {cs:List Value} {x:t.den},i6 H S t O cs x->∀ b∈O,b<H.size:=by
 intro t
 induction t with
 | int k=>intro O cs x h; rw [h.1]; simp
 | bool=>intro O cs x h; rw [h.1]; simp
 | str=>intro O cs x h; rw [h.1]; simp
 | unit=>intro O cs x h; rw [h.1]; simp
 | fn f=>intro O cs x h; rw [h.1]; simp
 | hole t=>intro O cs x h; rw [h.1]; simp
 | map o k v =>
  rintro O cs x (⟨_,rfl,_⟩|⟨l,b,es,ck,_,_,h3,_,h6⟩) c hc
  ·cases hc
  cases o with
  | true =>
   rw [h6] at hc;obtain rfl:c=b:=by simpa using hc
   exact (aAp.1 h3).1
  | false=>rw [h6.1] at hc; cases hc
 | box o g t ih =>
  rintro O cs x (⟨_,rfl,_⟩|⟨y,b,off,O',_,_,_,h3,h6⟩)
  ·simp
  cases o with
  | true =>
   intro c hc;rw [h6.1] at hc;rcases aAq.1 hc with rfl|hc
   ·obtain ⟨_,arr,T,⟨fz,e,_⟩,_⟩:=h6; exact (aAp.1 e).1
   ·exact ih h3 c hc
  | false=>rw [h6.1]; simp
 | pair a b iha ihb =>
  rintro O cs x ⟨O1,O2,rfl,h1,h2⟩ b hb;rcases aAi.1 hb with h|h
  ·exact iha h1 b h
  ·exact ihb h2 b h
 | arr n t ih =>
  rintro O cs x ⟨h1,h2⟩;exact j5.ye (λ _ _ _ h=>ih h) h2
 | d0 o t ih=>intro O cs x h; exact i6.KB ih h
 | D4 t ih =>
  rintro O cs ⟨n,l,m⟩ h
  match n,h with
  | 0,h=>exact i6.KB (o:=false) ih h
  | 1,h=>exact i6.KB (o:=true) ih h
  | n+2,⟨b,off,O',_,_,_,h5,h6⟩ =>
   cases n with
   | zero =>
    intro c hc;rw [h6.1] at hc;rcases aAq.1 hc with rfl|hc
    ·obtain ⟨_,arr,T,⟨fz,e,_⟩,_⟩:=h6; exact (aAp.1 e).1
    ·exact j5.ye (λ _ _ _ h=>ih h) h5 c hc
   | succ n=>rw [h6.1]; simp
theorem j5.split {α:Type} {R:List Nat->List Value->α->Prop} {sz:Nat} {d:α}:∀ {l:List α} {O:List Nat} {cs:List Value} {i:Nat},i<l.length->j5 R sz O cs l ->
  ∃ O1 O2 O3,O=O1++(O2++O3)/\j5 R sz O1 (cs.take (i*sz)) (l.take i)/\R O2 ((cs.drop (i*sz)).take sz) (l.getD i d)/\j5 R sz O3 (cs.drop ((i+1)*sz)) (l.drop (i+1))
 | [],_,_,_,hi,_=>by simp at hi
 | x::l,_,cs,0,_,⟨O1,O2,e,h1,h2⟩=>⟨[],O1,O2,by simpa using e,by simp [j5],by simpa using h1,by simpa using h2⟩
 | x::l,_,cs,i+1,hi,⟨O1,O2,e,h1,h2⟩=>by
  obtain ⟨P1,P2,P3,e',g1,g2,g3⟩:=j5.split (d:=d) (i:=i) (by simpa using hi) h2;refine ⟨O1++P1,P2,P3,by rw [e,e']; simp,?_,?_,?_⟩
  ·refine ⟨O1,P1,rfl,?_,?_⟩
   ·rw [aCs,aCb (by rw [aBg]; omega)]; exact h1
   ·rw [aDk,show (i+1)*sz - sz=i*sz from by rw [aBg]; omega]; exact g1
  ·rw [aBm,show sz+i*sz=(i+1)*sz from by rw [aBg]; omega] at g2
   simpa using g2
  ·rw [aBm,show sz+(i+1)*sz=(i+1+1)*sz from by rw [aBg (i+1)]; omega] at g3
   simpa using g3
theorem j5.join {α:Type} {R:List Nat->List Value->α->Prop} {sz:Nat} (hR:∀ O cs x,R O cs x->cs.length=sz) {y:α}:∀ {l:List α} {O1 O2 O3:List Nat} {cs:List Value} {i:Nat},i<l.length ->
  j5 R sz O1 (cs.take (i*sz)) (l.take i)->R O2 ((cs.drop (i*sz)).take sz) y->j5 R sz O3 (cs.drop ((i+1)*sz)) (l.drop (i+1)) ->
  j5 R sz (O1++(O2++O3)) cs (l.set i y)
 | [],_,_,_,_,_,hi,_,_,_=>by simp at hi
 | x::l,O1,O2,O3,cs,0,_,h1,h2,h3=>by
  simp only [aEy,aFe,j5] at h1;rw [h1.1];exact ⟨O2,O3,rfl,by simpa using h2,by simpa using h3⟩
 | x::l,O1,O2,O3,cs,i+1,hi,⟨P1,P2,e,h1,lZ⟩,h2,h3=>by
  subst e;refine ⟨P1,P2++(O2++O3),by simp,?_,?_⟩
  ·rw [aCs,aCb (by rw [aBg]; omega)] at h1; exact h1
  ·refine j5.join hR (by simpa using hi) ?_ ?_ ?_
   ·rw [aDk,show (i+1)*sz - sz=i*sz from by rw [aBg]; omega] at lZ; exact lZ
   ·rw [aBm,show sz+i*sz=(i+1)*sz from by rw [aBg]; omega]; exact h2
   ·rw [aBm,show sz+(i+1)*sz=(i+1+1)*sz from by rw [aBg (i+1)]; omega]
    simpa using h3
theorem j5.append {α:Type} {R:List Nat->List Value->α->Prop} {sz:Nat} (hR:∀ O cs x,R O cs x->cs.length=sz):∀ {l l':List α} {O O':List Nat} {cs cs':List Value},
  j5 R sz O cs l->j5 R sz O' cs' l'->j5 R sz (O++O') (cs++cs') (l++l')
 | [],_,_,_,_,_,⟨h1,h2⟩,h=>by subst h1; subst h2; simpa using h
 | x::l,l',O,O',cs,cs',⟨O1,O2,e,h1,h2⟩,h=>by
  have hl:=hR _ _ _ h1;simp only [aAn] at hl;refine ⟨O1,O2++O',by rw [e]; simp,?_,?_⟩
  ·rw [aDq (by omega)]; exact h1
  ·rw [aGm (by omega)]; exact j5.append hR h2 h
theorem j5.det {α:Type} {R R':List Nat->List Value->α->Prop} {sz:Nat} (hR:∀ O O' cs x,R O cs x->R' O' cs x->O=O'):∀ {l:List α} {O O':List Nat} {cs:List Value},
  j5 R sz O cs l->j5 R' sz O' cs l->O=O'
 | [],_,_,_,⟨h,_⟩,⟨h',_⟩=>by rw [h,h']
 | _::_,_,_,_,⟨O1,O2,e,h1,h2⟩,⟨O1',O2',e',lZ,fQ⟩=>by
  rw [e,e',hR _ _ _ _ h1 lZ,j5.det hR h2 fQ]
theorem i6.Ji {o:Bool} {t:Ty} (ih:∀ {O O':List Nat} {cs:List Value} {x:t.den},i6 H S t O cs x->i6 H S' t O' cs x->O=O') {O O':List Nat} {cs:List Value} {x:List t.den} (h:i6 H S (.d0 o t) O cs x) (h':i6 H S' (.d0 o t) O' cs x):O=O':=by
 cases o with
 | false =>
  have hO:∀ {O:List Nat} {x:(Ty.d0 false t).den} {S:Nat->Prop},i6 H S (.d0 false t) O cs x->O=[]:=by
   rintro O x S (h|⟨b,off,cap,O',_,_,_,_,_,h6⟩)
   ·exact h.1
   ·exact h6.1
  rw [hO h,hO h']
 | true =>
  rcases h with ⟨h1,⟨a,c,h2,h3⟩,h4⟩|⟨b,off,cap,P,c1,c2,c3,c4,c5,c6,c7⟩
  ·rcases h' with ⟨k1,_⟩|⟨b',ar,gY,P',d1,d2,d3,d4,d5,d6,d7⟩
   ·rw [h1,k1]
   ·rw [h2] at d1; simp only [aBc,Value.slice.injEq,and_true] at d1; have:=d3.2 rfl; have:=h3 rfl; omega
  ·rcases h' with ⟨h1,⟨a,c,h2,h3⟩,h4⟩|⟨b',ar,gY,P',d1,d2,d3,d4,d5,d6,d7⟩
   ·rw [h2] at c1; simp only [aBc,Value.slice.injEq,and_true] at c1; have:=c3.2 rfl; have:=h3 rfl; omega
   ·rw [c1] at d1
    simp only [aBc,Value.slice.injEq,aAc,Addr.mk.injEq,and_true] at d1;obtain ⟨⟨rfl,rfl⟩,-,rfl⟩:=d1;rw [c6,d6,j5.det (R:=i6 H S t) (R':=i6 H S' t) (λ O O' cs x h h'=>ih h h') c5 d5]
theorem i6.det:∀ {t:Ty} {O O':List Nat} {cs:List Value} {x:t.den},i6 H S t O cs x->i6 H S' t O' cs x->O=O':=by
 intro t
 induction t with
 | int k=>intro O O' cs x h h'; rw [h.1,h'.1]
 | bool=>intro O O' cs x h h'; rw [h.1,h'.1]
 | str=>intro O O' cs x h h'; rw [h.1,h'.1]
 | unit=>intro O O' cs x h h'; rw [h.1,h'.1]
 | fn f=>intro O O' cs x h h'; rw [h.1,h'.1]
 | hole t=>intro O O' cs x h h'; rw [h.1,h'.1]
 | map o k v =>
  rintro O O' cs x (⟨_,rfl,rfl⟩|⟨l,b,es,ck,_,rfl,_,_,h6⟩) (⟨_,rfl,e⟩|⟨l',b',es',ck',_,e,_,_,g6⟩)
  ·rfl
  ·simp at e
  ·simp at e
  ·simp only [aBc,Value.map.injEq,aAc,and_true] at e
   cases o with
   | true=>rw [h6,g6,e]
   | false=>rw [h6.1,g6.1]
 | box o g t ih =>
  rintro O O' cs x (⟨hx,rfl,rfl⟩|⟨y,b,off,P,hx,rfl,h2,h3,h4⟩) (⟨_,rfl,e⟩|⟨y',b',ar,P',ew,e,g2,g3,g4⟩)
  ·rfl
  ·exact (OE (by simpa using e.symm)).elim
  ·exact (OE (by simpa using e)).elim
  have e:=Yx (by simpa using e);cases e;rw [hx] at ew; cases ew;cases o with
  | true=>rw [h4.1,g4.1,ih h3 g3]
  | false=>rw [h4.1,g4.1]
 | pair a b iha ihb =>
  rintro O O' cs x ⟨O1,O2,rfl,h1,h2⟩ ⟨O1',O2',rfl,lZ,fQ⟩;rw [iha h1 lZ,ihb h2 fQ]
 | arr n t ih =>
  rintro O O' cs x ⟨h1,h2⟩ ⟨lZ,fQ⟩;exact j5.det (R:=i6 H S t) (R':=i6 H S' t) (λ O O' cs x h h'=>ih h h') h2 fQ
 | d0 o t ih=>intro O O' cs x h h'; exact i6.Ji ih h h'
 | D4 t ih =>
  rintro O O' cs ⟨n,l,m⟩ h h'
  match n,h,h' with
  | 0,h,h'=>exact i6.Ji (o:=false) ih h h'
  | 1,h,h'=>exact i6.Ji (o:=true) ih h h'
  | n+2,⟨b,off,P,c1,c2,c3,c4,c5⟩,⟨b',ar,P',d1,d2,d3,d4,d5⟩ =>
   rw [c1] at d1;simp only [aBc,Value.slice.injEq,aAc,Addr.mk.injEq,and_true] at d1;obtain ⟨rfl,rfl⟩:=d1;cases n with
   | zero=>rw [c5.1,d5.1,j5.det (R:=i6 H S t) (R':=i6 H S' t) (λ O O' cs x h h'=>ih h h') c4 d4]
   | succ n=>rw [c5.1,d5.1]
end
end Go.Ex
namespace Go.Ex
inductive Step where
 | m0 (i:Nat)
 | idx (i:Int)
 deriving Inhabited
def Ty.er (a b:Ty):Bool:=decide (a.sh=b.sh)
def j9:(t:Ty)->t.den->List Step->Option (Sigma Ty.den)
 | t,x,[]=>some ⟨t,x⟩
 | .pair a _,x,.m0 0::p=>j9 a x.1 p
 | .pair _ b,x,.m0 (n+1)::p=>j9 b x.2 (.m0 n::p)
 | .arr _ t,x,.idx i::p=>j9 t (List.getD x i.toNat t.w5) p
 | .d0 true t,x,.idx i::p=>j9 t (List.getD x i.toNat t.w5) p
 | _,_,_=>none
def C1:(t:Ty)->t.den->List Step->Prop
 | _,_,[]=>True
 | .pair a _,x,.m0 0::p=>C1 a x.1 p
 | .pair _ b,x,.m0 (n+1)::p=>C1 b x.2 (.m0 n::p)
 | .arr n t,x,.idx i::p=>(0<=i/\i<n)/\C1 t (List.getD x i.toNat t.w5) p
 | .d0 true t,x,.idx i::p=>(0<=i/\i<List.length x)/\C1 t (List.getD x i.toNat t.w5) p
 | _,_,_=>False
def w7:(t:Ty)->t.den->List Step->(u:Ty)->u.den->Option (Sigma Ty.den)
 | t,_,[],u,y=>if u.sh=t.sh then some ⟨u,y⟩ else none
 | .pair a b,x,.m0 0::p,u,y=>match w7 a x.1 p u y with
  | some ⟨t',z⟩=>some ⟨.pair t' b,(z,x.2)⟩
  | none=>none
 | .pair a b,x,.m0 (n+1)::p,u,y=>match w7 b x.2 (.m0 n::p) u y with
  | some ⟨t',z⟩=>some ⟨.pair a t',(x.1,z)⟩
  | none=>none
 | .arr n t,x,.idx i::p,u,y=>match w7 t (List.getD x i.toNat t.w5) p u y with
  | some ⟨t',z⟩=>if h:t'=t then some ⟨.arr n t,List.set x i.toNat (h▸z)⟩ else none
  | none=>none
 | .d0 true t,x,.idx i::p,u,y=>match w7 t (List.getD x i.toNat t.w5) p u y with
  | some ⟨t',z⟩=>if h:t'=t then some ⟨.d0 true t,List.set x i.toNat (h▸z)⟩ else none
  | none=>none
 | _,_,_,_,_=>none
theorem T6:∀ t:Ty,t.sh.size=t.size:=by
 intro t
 induction t with
 | pair a b iha ihb=>simp only [Ty.sh,Ty.size,iha,ihb]
 | arr n t ih=>simp only [Ty.sh,Ty.size,ih]
 | _=>rfl
theorem H4 {u t:Ty} (h:u.sh=t.sh):u.size=t.size:=by rw [<- T6 u,h,T6]
def C6 (H:Array Go.Obj):Ty->List Step->Nat->Nat->Option (Nat×Nat)
 | _,[],b,off=>some (b,off)
 | .pair a _,.m0 0::p,b,off=>C6 H a p b off
 | .pair a c,.m0 (n+1)::p,b,off=>C6 H c (.m0 n::p) b (off+a.size)
 | .arr _ t,.idx i::p,b,off=>C6 H t p b (off+i.toNat*t.size)
 | .d0 true t,.idx i::p,b,off=>match (y8 H b)[off]? with
  | some (.slice (some a) _ _)=>C6 H t p a.block (a.off+i.toNat*t.size)
  | _=>none
 | _,_,_,_=>none
def y7 (H:Array Go.Obj) (S:Nat->Prop):(t:Ty)->List Step->Nat->Nat->List Nat->t.den->Prop
 | _,[],_,_,O,_=>O=[]
 | .pair a c,.m0 0::p,b,off,O,x=>∃ O1 O2,O=O1++O2/\y7 H S a p b off O1 x.1/\i6 H S c O2 (e8 H b (off+a.size) c.size) x.2
 | .pair a c,.m0 (n+1)::p,b,off,O,x=>∃ O1 O2,O=O1++O2/\i6 H S a O1 (e8 H b off a.size) x.1/\y7 H S c (.m0 n::p) b (off+a.size) O2 x.2
 | .arr n t,.idx i::p,b,off,O,l=>List.length l=n/\(0<=i/\i<n)/\∃ O1 O2 O3,O=O1++(O2++O3) /\
   j5 (i6 H S t) t.size O1 (e8 H b off (i.toNat*t.size)) (List.take i.toNat l) /\
   y7 H S t p b (off+i.toNat*t.size) O2 (List.getD l i.toNat t.w5) /\
   j5 (i6 H S t) t.size O3 (e8 H b (off+(i.toNat+1)*t.size) ((n - (i.toNat+1))*t.size)) (List.drop (i.toNat+1) l)
 | .d0 true t,.idx i::p,b,off,O,l=>(0<=i/\i<List.length l)/\∃ b1 o1 cap O1 O2 O3,O=b1::(O1++(O2++O3)) /\
   (y8 H b)[off]?=some (.slice (some ⟨b1,o1,none⟩) (List.length l) cap)/\List.length l<=cap/\AB true cap/\W3 t.isB H b1 (o1+cap*t.size) /\
   j5 (i6 H S t) t.size O1 (e8 H b1 o1 (i.toNat*t.size)) (List.take i.toNat l) /\
   y7 H S t p b1 (o1+i.toNat*t.size) O2 (List.getD l i.toNat t.w5) /\
   j5 (i6 H S t) t.size O3 (e8 H b1 (o1+(i.toNat+1)*t.size) ((List.length l - (i.toNat+1))*t.size)) (List.drop (i.toNat+1) l)
 | _,_,_,_,_,_=>False
section
variable {H H':Array Go.Obj} {S S':Nat->Prop}
theorem n9 (b off n m:Nat) (h:m<=n):(e8 H b off n).take m=e8 H b off m:=by
 simp only [e8,aCs,aCb h]
theorem o8 (b off n m:Nat):(e8 H b off n).drop m=e8 H b (off+m) (n - m):=by
 simp only [e8,aDk,aBm]
theorem MT (b off n:Nat) (h:off+n<=(y8 H b).length):(e8 H b off n).length=n:=by
 simp only [e8,aAn,aAo]; omega
theorem Mr (b off n m:Nat):e8 H b off (n+m)=e8 H b off n++e8 H b (off+n) m:=by
 simp only [e8,List.take_add,aBm]
theorem S8 (b off:Nat) (v:Value):e8 H b off 1=[v]↔(y8 H b)[off]?=some v:=by
 simp only [e8];constructor
 ·intro h
  have:((y8 H b).drop off)[0]?=some v:=by
   cases hd:(y8 H b).drop off with
   | nil=>rw [hd] at h; simp at h
   | cons a l=>rw [hd] at h; simp at h; simp [h]
  simpa using this
 ·intro h
  obtain ⟨bf,e⟩:=aDz.1 h;rw [aFg bf];simp [e]
theorem R0.y8 {b n:Nat} (h:R0 H b n):n<=(y8 H b).length:=by
 obtain ⟨arr,T,⟨fz,e,_⟩,hn⟩:=h;simp only [Ex.y8,e];simpa using hn
theorem R0.mono {b n m:Nat} (h:R0 H b n) (hm:m<=n):R0 H b m:=by
 obtain ⟨arr,T,e,hn⟩:=h;exact ⟨arr,T,e,aAx hm hn⟩
theorem W3.mono {q:Bool} {b n m:Nat} (h:W3 q H b n) (hm:m<=n):W3 q H b m:=by
 obtain ⟨arr,T,e,hn⟩:=h;exact ⟨arr,T,e,aAx hm hn⟩
theorem F0 {i:Int} {n sz:Nat} (h:0<=i/\i<n):i.toNat<n/\i.toNat*sz+sz<=n*sz/\(i.toNat+1)*sz=i.toNat*sz+sz/\(n - (i.toNat+1))*sz=n*sz - (i.toNat*sz+sz):=by
 have h1:i.toNat<n:=by omega
 have h2:(i.toNat+1)*sz<=n*sz:=aAm _ h1;have h3:(i.toNat+1)*sz=i.toNat*sz+sz:=aBg _ _;refine ⟨h1,by omega,h3,?_⟩;rw [Nat.sub_mul,h3]
theorem focus:∀ {t:Ty} {p:List Step} {b off:Nat} {O:List Nat} {x:t.den},i6 H S t O (e8 H b off t.size) x->off+t.size<=(y8 H b).length->C1 t x p ->
  ∀ {u:Ty} {y:u.den},j9 t x p=some ⟨u,y⟩ ->
  ∃ O1 O2 b' ar,O.Perm (O1++O2)/\y7 H S t p b off O1 x/\C6 H t p b off=some (b',ar)/\i6 H S u O2 (e8 H b' ar u.size) y /\
   ar+u.size<=(y8 H b').length/\((b'=b/\off<=ar/\ar+u.size<=off+t.size)\/(b'∈O1/\R0 H b' (ar+u.size))):=by
 intro t
 induction t with
 | pair a c iha ihc =>
  intro p b off O x hR hb ho u y hg
  match p,ho,hg with
  | [],_,hg=>simp only [j9,aAc] at hg; cases hg; exact ⟨[],O,b,off,by simp,rfl,rfl,hR,hb,.inl ⟨rfl,aAk _,aAk _⟩⟩
  | .m0 0::p,ho,hg =>
   obtain ⟨P1,P2,rfl,h1,h2⟩:=hR;simp only [Ty.size] at *
   rw [n9 _ _ _ _ (by omega)] at h1;rw [o8,aCv] at h2;obtain ⟨O1,O2,b',ar,e1,e2,e3,e4,e5,e6⟩:=iha h1 (by omega) ho hg;refine ⟨O1++P2,O2,b',ar,?_,⟨O1,P2,rfl,e2,h2⟩,e3,e4,e5,?_⟩
   ·refine (e1.append_right P2).trans ?_
    rw [aAj,aAj];exact aBu O1 aCz
   ·rcases e6 with ⟨g1,g2,g3⟩|⟨g1,g2⟩
    ·exact .inl ⟨g1,g2,by omega⟩
    ·exact .inr ⟨by simp [g1],g2⟩
  | .m0 (n+1)::p,ho,hg =>
   obtain ⟨P1,P2,rfl,h1,h2⟩:=hR;simp only [Ty.size] at *
   rw [n9 _ _ _ _ (by omega)] at h1;rw [o8,aCv] at h2;obtain ⟨O1,O2,b',ar,e1,e2,e3,e4,e5,e6⟩:=ihc h2 (by omega) ho hg;refine ⟨P1++O1,O2,b',ar,?_,⟨P1,O1,rfl,h1,e2⟩,e3,e4,e5,?_⟩
   ·rw [aAj]; exact aBu P1 e1
   ·rcases e6 with ⟨g1,g2,g3⟩|⟨g1,g2⟩
    ·exact .inl ⟨g1,by omega,by omega⟩
    ·exact .inr ⟨by simp [g1],g2⟩
  | .idx i::p,ho,_=>simp [C1] at ho
 | arr n t ih =>
  intro p b off O x hR hb ho u y hg
  match p,ho,hg with
  | [],_,hg=>simp only [j9,aAc] at hg; cases hg; exact ⟨[],O,b,off,by simp,rfl,rfl,hR,hb,.inl ⟨rfl,aAk _,aAk _⟩⟩
  | .idx i::p,ho,hg =>
   obtain ⟨hi,ho⟩:=ho;obtain ⟨hl,hR⟩:=hR;simp only [Ty.size] at *
   obtain ⟨b1,b2,b3,b4⟩:=F0 (sz:=t.size) hi;obtain ⟨P1,P2,P3,rfl,g1,g2,g3⟩:=j5.split (d:=t.w5) (i:=i.toNat) (by rw [hl]; exact b1) hR;rw [n9 _ _ _ _ (by omega)] at g1;rw [o8,n9 _ _ _ _ (by omega)] at g2;rw [o8,show n*t.size - (i.toNat+1)*t.size=(n - (i.toNat+1))*t.size from by omega] at g3;obtain ⟨O1,O2,b',ar,e1,e2,e3,e4,e5,e6⟩:=ih g2 (by omega) ho hg;refine ⟨P1++(O1++P3),O2,b',ar,?_,⟨hl,hi,P1,O1,P3,rfl,g1,e2,g3⟩,e3,e4,e5,?_⟩
   ·rw [aAj]
    refine aBu P1 ?_;refine (e1.append_right P3).trans ?_;rw [aAj,aAj];exact aBu O1 aCz
   ·rcases e6 with ⟨g1,g2,g3⟩|⟨g1,g2⟩
    ·exact .inl ⟨g1,by omega,by omega⟩
    ·exact .inr ⟨by simp [g1],g2⟩
  | .m0 i::p,ho,_=>simp [C1] at ho
 | d0 o t ih =>
  intro p b off O x hR hb ho u y hg
  match p,ho,hg with
  | [],_,hg=>simp only [j9,aAc] at hg; cases hg; exact ⟨[],O,b,off,by simp,by cases o<;>rfl,by cases o<;>rfl,hR,hb,.inl ⟨rfl,aAk _,aAk _⟩⟩
  | .idx i::p,ho,hg =>
   cases o with
   | false=>simp [C1] at ho
   | true =>
    obtain ⟨hi,ho⟩:=ho;rcases hR with ⟨_,_,hn⟩|⟨b1,o1,cap,O',c1,c2,c3,c4,c5,rfl,c6⟩
    ·subst hn; simp at hi; omega
    ·simp only [Ty.size] at *
     have hh:=(S8 b off _).1 c1;obtain ⟨b1',b2,b3,b4⟩:=F0 (sz:=t.size) hi;obtain ⟨P1,P2,P3,rfl,g1,g2,g3⟩:=j5.split (d:=t.w5) (i:=i.toNat) b1' c5;rw [n9 _ _ _ _ (by omega)] at g1;rw [o8,n9 _ _ _ _ (by omega)] at g2;rw [o8,show List.length x*t.size - (i.toNat+1)*t.size=(List.length x - (i.toNat+1))*t.size from by omega] at g3;obtain ⟨O1,O2,b',ar,e1,e2,e3,e4,e5,e6⟩:=ih g2 (by omega) ho hg;have cR:List.length x*t.size<=cap*t.size:=aAm _ c2;refine ⟨b1::(P1++(O1++P3)),O2,b',ar,?_,⟨hi,b1,o1,cap,P1,O1,P3,rfl,hh,c2,c3,c6,g1,e2,g3⟩,?_,e4,e5,?_⟩
     ·rw [aCo]
      refine List.Perm.cons b1 ?_;rw [aAj];refine aBu P1 ?_;refine (e1.append_right P3).trans ?_;rw [aAj,aAj];exact aBu O1 aCz
     ·simp only [C6,hh]; exact e3
     ·rcases e6 with ⟨g1,g2,g3⟩|⟨g1,g2⟩
      ·subst g1; exact .inr ⟨by simp,c6.free.mono (by omega)⟩
      ·exact .inr ⟨by simp [g1],g2⟩
  | .m0 i::p,ho,_=>cases o<;>simp [C1] at ho
 | _ =>
  intro p b off O x hR hb ho u y hg
  match p,ho,hg with
  | [],_,hg=>simp only [j9,aAc] at hg; cases hg; exact ⟨[],O,b,off,by simp,rfl,rfl,hR,hb,.inl ⟨rfl,aAk _,aAk _⟩⟩
  | .m0 i::p,ho,_=>simp [C1] at ho
  | .idx i::p,ho,_=>simp [C1] at ho
structure X7 (H H':Array Go.Obj) (b off n:Nat):Prop where
 at_:∃ arr dd T,(∃ fz,Lie H b arr T fz/\H'[b]?=some (.cells dd T fz))/\dd.size=arr.size/\∀ j,(j<off\/off+n<=j)->dd.toList[j]?=arr.toList[j]?
 rest:∀ c,c≠b->c<H.size->H'[c]?=H[c]?
theorem X7.length {b off n:Nat} (h:X7 H H' b off n) (c:Nat) (hc:c<H.size):(y8 H' c).length=(y8 H c).length:=by
 by_cases e:c=b
 ·subst e
  obtain ⟨arr,dd,T,⟨fz,⟨e1,_⟩,e2⟩,e3,_⟩:=h.at_;simp only [y8,e1,e2]; simpa using e3
 ·rw [R9 (h.rest c e hc)]
theorem X7.cells {b off n:Nat} (h:X7 H H' b off n) {c o m:Nat} (hc:c<H.size) (hr:c=b->o+m<=off\/off+n<=o):e8 H' c o m=e8 H c o m:=by
 by_cases e:c=b
 ·subst e
  have hr:=hr rfl;obtain ⟨arr,dd,T,⟨fz,⟨e1,_⟩,e2⟩,e3,e4⟩:=h.at_;simp only [e8,y8,e1,e2];apply aEm;intro j;simp only [aBq,aBl]
  split
  ·rw [e4]; omega
  ·rfl
 ·exact l7 (h.rest c e hc) _ _
theorem X7.free {b off n:Nat} (h:X7 H H' b off n) {c m:Nat} (hf:R0 H c m):R0 H' c m:=by
 obtain ⟨arr,T,⟨fz,e,ef⟩,hm⟩:=hf;by_cases hc:c=b
 ·subst hc
  obtain ⟨a1,a2,T',⟨fz',⟨e1,_⟩,e2⟩,e3,_⟩:=h.at_;rw [e1] at e; cases e;exact ⟨a2,_,⟨fz,e2,ef.imp id (λ h=>by omega)⟩,by omega⟩
 ·have bf:c<H.size:=by
   rcases aEd c H.size with h|h
   ·exact h
   ·rw [aCj h] at e; cases e
  exact ⟨arr,T,⟨fz,(h.rest c hc bf).trans e,ef⟩,hm⟩
theorem X7.HY {b off n:Nat} (h:X7 H H' b off n) {q:Bool} {c m:Nat} (hf:W3 q H c m):W3 q H' c m:=by
 obtain ⟨arr,T,⟨fz,e,ef⟩,hm⟩:=hf;by_cases hc:c=b
 ·subst hc
  obtain ⟨a1,a2,T',⟨fz',⟨e1,_⟩,e2⟩,e3,_⟩:=h.at_;rw [e1] at e; cases e;exact ⟨a2,_,⟨fz,e2,ef.imp id (λ h=>⟨h.1,by omega⟩)⟩,by omega⟩
 ·have bf:c<H.size:=by
   rcases aEd c H.size with h|h
   ·exact h
   ·rw [aCj h] at e; cases e
  exact ⟨arr,T,⟨fz,(h.rest c hc bf).trans e,ef⟩,hm⟩
theorem y7.range:∀ {t:Ty} {p:List Step} {b off:Nat} {O:List Nat} {x:t.den},y7 H S t p b off O x->∀ {u:Ty} {y:u.den},j9 t x p=some ⟨u,y⟩->∀ {b' ar:Nat},
  C6 H t p b off=some (b',ar)->(b'=b/\off<=ar/\ar+u.size<=off+t.size)\/b'∈O:=by
 intro t
 induction t with
 | pair a c iha ihc =>
  intro p b off O x hR u y hg b' ar hn
  match p,hR,hg,hn with
  | [],_,hg,hn =>
   simp only [j9,aAc] at hg; cases hg;simp only [C6,aAc,aBb] at hn;exact .inl ⟨hn.1.symm,by omega,by omega⟩
  | .m0 0::p,⟨O1,O2,e,h1,h2⟩,hg,hn =>
   simp only [Ty.size];rcases iha h1 hg hn with ⟨g1,g2,g3⟩|g
   ·exact .inl ⟨g1,g2,by omega⟩
   ·exact .inr (by simp [e,g])
  | .m0 (n+1)::p,⟨O1,O2,e,h1,h2⟩,hg,hn =>
   simp only [Ty.size];rcases ihc h2 hg hn with ⟨g1,g2,g3⟩|g
   ·exact .inl ⟨g1,by omega,by omega⟩
   ·exact .inr (by simp [e,g])
  | .idx i::p,hR,_,_=>simp [y7] at hR
 | arr n t ih =>
  intro p b off O x hR u y hg b' ar hn
  match p,hR,hg,hn with
  | [],_,hg,hn =>
   simp only [j9,aAc] at hg; cases hg;simp only [C6,aAc,aBb] at hn;exact .inl ⟨hn.1.symm,by omega,by omega⟩
  | .idx i::p,⟨hl,hi,O1,O2,O3,e,h1,h2,h3⟩,hg,hn =>
   simp only [Ty.size];obtain ⟨b1,b2,b3,b4⟩:=F0 (sz:=t.size) hi;rcases ih h2 hg hn with ⟨g1,g2,g3⟩|g
   ·exact .inl ⟨g1,by omega,by omega⟩
   ·exact .inr (by simp [e,g])
  | .m0 i::p,hR,_,_=>simp [y7] at hR
 | d0 o t ih =>
  intro p b off O x hR u y hg b' ar hn
  match p,hR,hg,hn with
  | [],_,hg,hn =>
   simp only [j9,aAc] at hg; cases hg;have hn:some (b,off)=some (b',ar):=by cases o<;>exact hn
   simp only [aAc,aBb] at hn;exact .inl ⟨hn.1.symm,by omega,by omega⟩
  | .idx i::p,hR,hg,hn =>
   cases o with
   | false=>simp [y7] at hR
   | true =>
    obtain ⟨hi,b1,o1,cap,O1,O2,O3,e,e1,e2,e3,e4,e5,e6,e7⟩:=hR;simp only [C6,e1] at hn;rcases ih e6 hg hn with ⟨g1,g2,g3⟩|g
    ·exact .inr (by rw [g1,e]; simp)
    ·exact .inr (by rw [e]; simp [g])
  | .m0 i::p,hR,_,_=>cases o<;>simp [y7] at hR
 | _ =>
  intro p b off O x hR u y hg b' ar hn
  match p,hR,hg,hn with
  | [],_,hg,hn =>
   simp only [j9,aAc] at hg; cases hg;simp only [C6,aAc,aBb] at hn;exact .inl ⟨hn.1.symm,by omega,by omega⟩
  | .m0 i::p,hR,_,_=>simp [y7] at hR
  | .idx i::p,hR,_,_=>simp [y7] at hR
theorem j5.chg {t:Ty} {O:List Nat} {b off n o m:Nat} {l:List t.den} {c:Nat} (h:j5 (i6 H S t) t.size O (e8 H c o m) l) (hc:X7 H H' b off n)
  (hO:∀ d∈O,d≠b/\d<H.size) (hS:∀ d,S d->d≠b/\d<H.size) (gx:∀ d,S d->S' d) (bf:c<H.size) (hr:c=b->o+m<=off\/off+n<=o) :
  j5 (i6 H' S' t) t.size O (e8 H' c o m) l:=by
 rw [hc.cells bf hr];refine j5.mono (L:=O) (λ _ h=>h) (λ O1 cs x hL hr=>?_) h;exact hr.x7 (λ d hd=>by
  rcases hd with hd|hd
  ·exact hc.rest d (hO d (hL d hd)).1 (hO d (hL d hd)).2
  ·exact hc.rest d (hS d hd).1 (hS d hd).2) gx
theorem i6.chg {t:Ty} {O:List Nat} {b off n o m:Nat} {x:t.den} {c:Nat} (h:i6 H S t O (e8 H c o m) x) (hc:X7 H H' b off n)
  (hO:∀ d∈O,d≠b/\d<H.size) (hS:∀ d,S d->d≠b/\d<H.size) (gx:∀ d,S d->S' d) (bf:c<H.size) (hr:c=b->o+m<=off\/off+n<=o) :
  i6 H' S' t O (e8 H' c o m) x:=by
 rw [hc.cells bf hr];exact h.x7 (λ d hd=>by
  rcases hd with hd|hd
  ·exact hc.rest d (hO d hd).1 (hO d hd).2
  ·exact hc.rest d (hS d hd).1 (hS d hd).2) gx
theorem CD:∀ {t:Ty} {p:List Step} {b off:Nat} {O1:List Nat} {x:t.den},y7 H S t p b off O1 x ->
  ∀ {u0:Ty} {y0:u0.den},j9 t x p=some ⟨u0,y0⟩->∀ {b' ar:Nat},C6 H t p b off=some (b',ar) ->
  off+t.size<=(y8 H b).length->b<H.size->O1.Nodup->b∉O1->(∀ c∈O1,¬ S c/\c<H.size)->¬ S b->(∀ c,S c->c<H.size)->(∀ c,S c->S' c) ->
  ∀ {u:Ty} {y:u.den} {O2:List Nat} {z:Sigma Ty.den},X7 H H' b' ar u0.size->i6 H' S' u O2 (e8 H' b' ar u.size) y->w7 t x p u y=some z ->
  ∃ O,O.Perm (O1++O2)/\i6 H' S' z.1 O (e8 H' b off z.1.size) z.2/\z.1.sh=t.sh:=by
 intro t
 induction t with
 | pair a c iha ihc =>
  intro p b off O1 x hR u0 y0 hg b' ar hn hb dD aK bP cp jZ hS gx u y O2 z hc hy hz
  match p,hR,hg,hn,hz with
  | [],hR,hg,hn,hz =>
   simp only [w7] at hz;split at hz
   ·rename_i e
    cases hz;simp only [C6,aAc,aBb] at hn;obtain ⟨rfl,rfl⟩:=hn;have hR:O1=[]:=hR;exact ⟨O2,by rw [hR]; simp,hy,e⟩
   ·cases hz
  | .m0 0::p,⟨P1,P2,e,h1,h2⟩,hg,hn,hz =>
   subst e;simp only [w7] at hz;split at hz
   ·rename_i t' w hw
    cases hz;simp only [aAg,aAi,not_or] at aK bP;simp only [Ty.size] at hb;obtain ⟨O,g1,g2,g3⟩:=iha h1 hg hn (by omega) dD aK.1 bP.1 (λ c hc=>cp c (by simp [hc])) jZ hS gx hc hy hw;have bo:=y7.range h1 hg hn;have aW:=H4 g3;refine ⟨O++P2,?_,⟨O,P2,rfl,?_,?_⟩,by simp only [Ty.sh,g3]⟩
    ·refine (g1.append_right P2).trans ?_
     rw [aAj,aAj];exact aBu P1 aCz
    ·simp only [Ty.size]; rw [n9 _ _ _ _ (by omega)]; exact g2
    ·simp only [Ty.size]; rw [o8,aCv,aW]
     refine h2.chg hc (λ d hd=>⟨?_,(cp d (by simp [hd])).2⟩) (λ d hd=>⟨?_,hS d hd⟩) gx dD (λ e=>?_)
     ·rintro rfl
      rcases bo with ⟨g,_⟩|g
      ·subst g; exact bP.2 hd
      ·exact aK.2.2 _ g _ hd rfl
     ·rintro rfl
      rcases bo with ⟨g,_⟩|g
      ·subst g; exact jZ hd
      ·exact (cp _ (by simp [g])).1 hd
     ·rcases bo with ⟨_,g,g'⟩|g
      ·right; omega
      ·exact absurd (by simp [e,g]:b∈P1) bP.1
   ·cases hz
  | .m0 (n+1)::p,⟨P1,P2,e,h1,h2⟩,hg,hn,hz =>
   subst e;simp only [w7] at hz;split at hz
   ·rename_i t' w hw
    cases hz;simp only [aAg,aAi,not_or] at aK bP;simp only [Ty.size] at hb;obtain ⟨O,g1,g2,g3⟩:=ihc h2 hg hn (by omega) dD aK.2.1 bP.2 (λ c hc=>cp c (by simp [hc])) jZ hS gx hc hy hw;have bo:=y7.range h2 hg hn;refine ⟨P1++O,?_,⟨P1,O,rfl,?_,?_⟩,by simp only [Ty.sh,g3]⟩
    ·rw [aAj]; exact aBu P1 g1
    ·simp only [Ty.size]; rw [n9 _ _ _ _ (by omega)]
     refine h1.chg hc (λ d hd=>⟨?_,(cp d (by simp [hd])).2⟩) (λ d hd=>⟨?_,hS d hd⟩) gx dD (λ e=>?_)
     ·rintro rfl
      rcases bo with ⟨g,_⟩|g
      ·subst g; exact bP.1 hd
      ·exact aK.2.2 _ hd _ g rfl
     ·rintro rfl
      rcases bo with ⟨g,_⟩|g
      ·subst g; exact jZ hd
      ·exact (cp _ (by simp [g])).1 hd
     ·rcases bo with ⟨_,g,g'⟩|g
      ·left; omega
      ·exact absurd (by simp [e,g]:b∈P2) bP.2
    ·simp only [Ty.size]; rw [o8,aCv]; exact g2
   ·cases hz
  | .idx i::p,hR,_,_,_=>simp [y7] at hR
 | arr n t ih =>
  intro p b off O1 x hR u0 y0 hg b' ar hn hb dD aK bP cp jZ hS gx u y O2 z hc hy hz
  match p,hR,hg,hn,hz with
  | [],hR,hg,hn,hz =>
   simp only [w7] at hz;split at hz
   ·rename_i e
    cases hz;simp only [C6,aAc,aBb] at hn;obtain ⟨rfl,rfl⟩:=hn;have hR:O1=[]:=hR;exact ⟨O2,by rw [hR]; simp,hy,e⟩
   ·cases hz
  | .idx i::p,⟨hl,hi,P1,P2,P3,e,h1,h2,h3⟩,hg,hn,hz =>
   subst e;simp only [w7] at hz;split at hz
   ·rename_i t' w hw
    split at hz
    ·rename_i ht; subst ht; cases hz
     simp only [aAg,aAi,not_or] at aK bP;obtain ⟨b1,b2,b3,b4⟩:=F0 (sz:=t'.size) hi;simp only [Ty.size] at hb;obtain ⟨O,g1,g2,g3⟩:=ih h2 hg hn (by omega) dD aK.2.1.1 bP.2.1 (λ c hc=>cp c (by simp [hc])) jZ hS gx hc hy hw;have bo:=y7.range h2 hg hn;have br:∀ d,(d∈P1\/d∈P3)->d≠b'/\d<H.size:=by
      intro d hd;refine ⟨?_,(cp d (by rcases hd with h|h<;>simp [h])).2⟩;rintro rfl;rcases bo with ⟨g,_⟩|g
      ·subst g; rcases hd with h|h
       ·exact bP.1 h
       ·exact bP.2.2 h
      ·rcases hd with h|h
       ·exact aK.2.2 _ h _ (.inl g) rfl
       ·exact aK.2.1.2.2 _ g _ h rfl
     have jg:∀ d,S d->d≠b'/\d<H.size:=by
      intro d hd;refine ⟨?_,hS d hd⟩;rintro rfl;rcases bo with ⟨g,_⟩|g
      ·subst g; exact jZ hd
      ·exact (cp _ (by simp [g])).1 hd
     refine ⟨P1++(O++P3),?_,⟨by simpa using hl,j5.join (λ _ _ _ h=>i6.length h) (by rw [hl]; exact b1) ?_ ?_ ?_⟩,rfl⟩
     ·rw [aAj]
      refine aBu P1 ?_;refine (g1.append_right P3).trans ?_;rw [aAj,aAj];exact aBu P2 aCz
     ·simp only [Ty.size]; rw [n9 _ _ _ _ (by omega)]
      refine h1.chg hc (λ d hd=>br d (.inl hd)) jg gx dD (λ e=>?_);rcases bo with ⟨_,g,g'⟩|g
      ·left; omega
      ·exact absurd (by simp [e,g]:b∈P2) bP.2.1
     ·simp only [Ty.size]; rw [o8,n9 _ _ _ _ (by omega)]; exact g2
     ·simp only [Ty.size]; rw [o8,show n*t'.size - (i.toNat+1)*t'.size=(n - (i.toNat+1))*t'.size from by omega]
      refine h3.chg hc (λ d hd=>br d (.inr hd)) jg gx dD (λ e=>?_);rcases bo with ⟨_,g,g'⟩|g
      ·right; omega
      ·exact absurd (by simp [e,g]:b∈P2) bP.2.1
    ·cases hz
   ·cases hz
  | .m0 i::p,hR,_,_,_=>simp [y7] at hR
 | d0 o t ih =>
  intro p b off O1 x hR u0 y0 hg b' ar hn hb dD aK bP cp jZ hS gx u y O2 z hc hy hz
  match p,hR,hg,hn,hz with
  | [],hR,hg,hn,hz =>
   have hz:(if u.sh=(Ty.d0 o t).sh then some (⟨u,y⟩:Sigma Ty.den) else none)=some z:=by cases o<;>exact hz
   split at hz
   ·rename_i e
    cases hz;have hn:some (b,off)=some (b',ar):=by cases o<;>exact hn
    simp only [aAc,aBb] at hn;obtain ⟨rfl,rfl⟩:=hn;have hR:O1=[]:=by cases o<;>exact hR
    exact ⟨O2,by rw [hR]; simp,hy,e⟩
   ·cases hz
  | .idx i::p,hR,hg,hn,hz =>
   cases o with
   | false=>simp [y7] at hR
   | true =>
    obtain ⟨hi,c1,o1,cap,P1,P2,P3,e,e1,e2,e3,e4,e5,e6,e7⟩:=hR;subst e;simp only [C6,e1] at hn;simp only [w7] at hz;split at hz
    ·rename_i t' w hw
     split at hz
     ·rename_i ht; subst ht; cases hz
      simp only [aAg,aAi,aAt,aAq,not_or] at aK bP;obtain ⟨b1,b2,b3,b4⟩:=F0 (sz:=t'.size) hi;have cR:List.length x*t'.size<=cap*t'.size:=aAm _ e2;have qo:=e4.free.y8;have dQ:c1<H.size:=(cp c1 (by simp)).2;obtain ⟨O,g1,g2,g3⟩:=ih e6 hg hn (by omega) dQ aK.2.2.1.1 aK.1.2.1 (λ c hc=>cp c (by simp [hc])) (cp c1 (by simp)).1 hS gx hc hy hw;have bo:=y7.range e6 hg hn;have eB:b≠b':=by
       rintro rfl;rcases bo with ⟨g,_⟩|g
       ·exact bP.1 g
       ·exact bP.2.2.1 g
      have br:∀ d,(d∈P1\/d∈P3)->d≠b'/\d<H.size:=by
       intro d hd;refine ⟨?_,(cp d (by rcases hd with h|h<;>simp [h])).2⟩;rintro rfl;rcases bo with ⟨g,_⟩|g
       ·subst g; rcases hd with h|h
        ·exact aK.1.1 h
        ·exact aK.1.2.2 h
       ·rcases hd with h|h
        ·exact aK.2.2.2 _ h _ (.inl g) rfl
        ·exact aK.2.2.1.2.2 _ g _ h rfl
      have jg:∀ d,S d->d≠b'/\d<H.size:=by
       intro d hd;refine ⟨?_,hS d hd⟩;rintro rfl;rcases bo with ⟨g,_⟩|g
       ·subst g; exact (cp _ (by simp)).1 hd
       ·exact (cp _ (by simp [g])).1 hd
      have lD:e8 H' b off 1=[.slice (some ⟨c1,o1,none⟩) (List.length x) cap]:=by
       rw [l7 (hc.rest b eB dD)]; exact (S8 b off _).2 e1
      refine ⟨c1::(P1++(O++P3)),?_,.inr ⟨c1,o1,cap,P1++(O++P3),by simp only [Ty.size,aBj]; exact lD,by simpa using e2,e3,?_,?_,rfl,hc.HY e4⟩,rfl⟩
      ·rw [aCo]
       refine List.Perm.cons c1 ?_;rw [aAj];refine aBu P1 ?_;refine (g1.append_right P3).trans ?_;rw [aAj,aAj];exact aBu P2 aCz
      ·rw [hc.length c1 dQ]; simp only [aBj]; omega
      ·simp only [aBj]
       refine j5.join (λ _ _ _ h=>i6.length h) b1 ?_ ?_ ?_
       ·rw [n9 _ _ _ _ (by omega)]
        refine e5.chg hc (λ d hd=>br d (.inl hd)) jg gx dQ (λ e=>?_);rcases bo with ⟨_,g,g'⟩|g
        ·left; omega
        ·exact absurd (by simp [e,g]:c1∈P2) aK.1.2.1
       ·rw [o8,n9 _ _ _ _ (by omega)]; exact g2
       ·rw [o8,show List.length x*t'.size - (i.toNat+1)*t'.size=(List.length x - (i.toNat+1))*t'.size from by omega]
        refine e7.chg hc (λ d hd=>br d (.inr hd)) jg gx dQ (λ e=>?_);rcases bo with ⟨_,g,g'⟩|g
        ·right; omega
        ·exact absurd (by simp [e,g]:c1∈P2) aK.1.2.1
     ·cases hz
    ·cases hz
  | .m0 i::p,hR,_,_,_=>cases o<;>simp [y7] at hR
 | _ =>
  intro p b off O1 x hR u0 y0 hg b' ar hn hb dD aK bP cp jZ hS gx u y O2 z hc hy hz
  match p,hR,hg,hn,hz with
  | [],hR,hg,hn,hz =>
   simp only [w7] at hz;split at hz
   ·rename_i e
    cases hz;simp only [C6,aAc,aBb] at hn;obtain ⟨rfl,rfl⟩:=hn;have hR:O1=[]:=hR;exact ⟨O2,by rw [hR]; simp,hy,e⟩
   ·cases hz
  | .m0 i::p,hR,_,_,_=>simp [y7] at hR
  | .idx i::p,hR,_,_,_=>simp [y7] at hR
end
end Go.Ex
namespace Go.Ex
def kp:List Step->List Step->Bool
 | _,[]=>true
 | [],.m0 _::p=>kp [] p
 | [],.idx _::_=>false
 | .m0 n::q,.m0 m::p=>if n=m then kp q p else true
 | .idx _::q,.idx _::p=>kp q p
 | _,_=>false
section
variable {H H':Array Go.Obj} {S S':Nat->Prop}
theorem yu {b off n o m:Nat} (h:e8 H' b off n=e8 H b off n) (h1:off<=o) (h2:o+m<=off+n):e8 H' b o m=e8 H b o m:=by
 have e:∀ K:Array Go.Obj,e8 K b o m=((e8 K b off n).drop (o - off)).take m:=by
  intro K;rw [o8,n9 _ _ _ _ (by omega),show off+(o - off)=o from by omega]
 rw [e H',e H,h]
theorem b7j {b off n:Nat} (h:e8 H' b off n=e8 H b off n) {j:Nat} (h1:off<=j) (h2:j<off+n):(y8 H' b)[j]?=(y8 H b)[j]?:=by
 have e:∀ K:Array Go.Obj,(y8 K b)[j]?=(e8 K b off n)[j - off]?:=by
  intro K;simp only [e8,aBq,aBl];rw [if_pos (by omega),show off+(j - off)=j from by omega]
 rw [e H',e H,h]
theorem RI:∀ {t:Ty} {x:t.den} {p:List Step},C1 t x p->∃ u y,j9 t x p=some ⟨u,y⟩:=by
 intro t
 induction t with
 | pair a c iha ihc =>
  intro x p h
  match p,h with
  | [],_=>exact ⟨_,_,rfl⟩
  | .m0 0::p,h=>exact iha h
  | .m0 (n+1)::p,h=>exact ihc h
  | .idx i::p,h=>simp [C1] at h
 | arr n t ih =>
  intro x p h
  match p,h with
  | [],_=>exact ⟨_,_,rfl⟩
  | .idx i::p,h=>exact ih h.2
  | .m0 i::p,h=>simp [C1] at h
 | d0 o t ih =>
  intro x p h
  match p,h with
  | [],_=>cases o<;>exact ⟨_,_,rfl⟩
  | .idx i::p,h=>cases o with
   | true=>exact ih h.2
   | false=>simp [C1] at h
  | .m0 i::p,h=>cases o<;>simp [C1] at h
 | _ =>
  intro x p h
  match p,h with
  | [],_=>exact ⟨_,_,rfl⟩
  | .idx i::p,h=>simp [C1] at h
  | .m0 i::p,h=>simp [C1] at h
theorem EF:∀ {t t':Ty} {p:List Step} {b off:Nat},t'.sh=t.sh->kp [] p=true->C6 H' t' p b off=C6 H t p b off:=by
 intro t
 induction t with
 | pair a c iha ihc =>
  intro t' p b off h hp;cases t'<;>simp only [Ty.sh] at h<;>try cases h
  rename_i a' c';simp only [Ty.pair.injEq] at h
  match p,hp with
  | [],_=>rfl
  | .m0 0::p,hp=>exact iha h.1 hp
  | .m0 (n+1)::p,hp=>simp only [C6,H4 h.1]; exact ihc h.2 (by simpa [kp] using hp)
  | .idx i::p,hp=>simp [kp] at hp
 | d0 o t ih =>
  intro t' p b off h hp;cases t'<;>simp only [Ty.sh] at h<;>try cases h
  ·rename_i o' _
   match p,hp with
   | [],_=>cases o<;>cases o'<;>rfl
   | .m0 i::p,hp=>cases o<;>cases o'<;>simp [C6]
   | .idx i::p,hp=>simp [kp] at hp
  ·match p,hp with
   | [],_=>cases o<;>rfl
   | .m0 i::p,hp=>cases o<;>simp [C6]
   | .idx i::p,hp=>simp [kp] at hp
 | hole t ih =>
  intro t' p b off h hp;cases t'<;>simp only [Ty.sh] at h<;>try cases h
  ·rename_i o' _
   match p,hp with
   | [],_=>cases o'<;>rfl
   | .m0 i::p,hp=>cases o'<;>simp [C6]
   | .idx i::p,hp=>simp [kp] at hp
  ·match p,hp with
   | [],_=>rfl
   | .m0 i::p,hp=>simp [C6]
   | .idx i::p,hp=>simp [kp] at hp
 | _ =>
  intro t' p b off h hp;cases t'<;>simp only [Ty.sh] at h<;>try cases h
  all_goals
   match p,hp with
   | [],_=>rfl
   | .m0 i::p,hp=>simp [C6]
   | .idx i::p,hp=>simp [kp] at hp
theorem Et:∀ {t t':Ty} {p:List Step} {x:t.den} {y:t'.den},t'.sh=t.sh->kp [] p=true->C1 t x p->C1 t' y p:=by
 intro t
 induction t with
 | pair a c iha ihc =>
  intro t' p x y h hp ho;cases t'<;>simp only [Ty.sh] at h<;>try cases h
  rename_i a' c';simp only [Ty.pair.injEq] at h
  match p,hp,ho with
  | [],_,_=>trivial
  | .m0 0::p,hp,ho=>exact iha (t':=a') (y:=y.1) h.1 hp ho
  | .m0 (n+1)::p,hp,ho=>exact ihc (t':=c') (y:=y.2) h.2 (by simpa [kp] using hp) ho
  | .idx i::p,hp,_=>simp [kp] at hp
 | d0 o t ih =>
  intro t' p x y h hp ho
  match p,hp,ho with
  | [],_,_=>simp [C1]
  | .m0 i::p,hp,ho=>cases o<;>simp [C1] at ho
  | .idx i::p,hp,_=>simp [kp] at hp
 | _ =>
  intro t' p x y h hp ho
  match p,hp,ho with
  | [],_,_=>simp [C1]
  | .m0 i::p,hp,ho=>simp [C1] at ho
  | .idx i::p,hp,_=>simp [kp] at hp
theorem zR:∀ {t:Ty} {p:List Step} {b off:Nat} {O:List Nat} {x:t.den},i6 H S t O (e8 H b off t.size) x->off+t.size<=(y8 H b).length->C1 t x p ->
  e8 H' b off t.size=e8 H b off t.size->(∀ c∈O,H'[c]?=H[c]?)->C6 H' t p b off=C6 H t p b off:=by
 intro t
 induction t with
 | pair a c iha ihc =>
  intro p b off O x hR hb ho hc hO
  match p,ho with
  | [],_=>rfl
  | .m0 0::p,ho =>
   obtain ⟨P1,P2,rfl,h1,h2⟩:=hR;simp only [Ty.size] at *
   rw [n9 _ _ _ _ (by omega)] at h1;exact iha h1 (by omega) ho (yu hc (by omega) (by omega)) (λ c hc=>hO c (by simp [hc]))
  | .m0 (n+1)::p,ho =>
   obtain ⟨P1,P2,rfl,h1,h2⟩:=hR;simp only [Ty.size] at *
   rw [o8,aCv] at h2;exact ihc h2 (by omega) ho (yu hc (by omega) (by omega)) (λ c hc=>hO c (by simp [hc]))
  | .idx i::p,ho=>simp [C1] at ho
 | arr n t ih =>
  intro p b off O x hR hb ho hc hO
  match p,ho with
  | [],_=>rfl
  | .idx i::p,ho =>
   obtain ⟨hi,ho⟩:=ho;obtain ⟨hl,hR⟩:=hR;simp only [Ty.size] at *
   obtain ⟨b1,b2,b3,b4⟩:=F0 (sz:=t.size) hi;obtain ⟨P1,P2,P3,rfl,g1,g2,g3⟩:=j5.split (d:=t.w5) (i:=i.toNat) (by rw [hl]; exact b1) hR;rw [o8,n9 _ _ _ _ (by omega)] at g2;exact ih g2 (by omega) ho (yu hc (by omega) (by omega)) (λ c hc=>hO c (by simp [hc]))
  | .m0 i::p,ho=>simp [C1] at ho
 | d0 o t ih =>
  intro p b off O x hR hb ho hc hO
  match p,ho with
  | [],_=>cases o<;>rfl
  | .idx i::p,ho =>
   cases o with
   | false=>simp [C1] at ho
   | true =>
    obtain ⟨hi,ho⟩:=ho;rcases hR with ⟨_,_,hn⟩|⟨b1,o1,cap,O',c1,c2,c3,c4,c5,rfl,c6⟩
    ·subst hn; simp at hi; omega
    ·simp only [Ty.size] at *
     have hh:=(S8 b off _).1 c1;have qh:=(S8 b off _).1 (hc.trans c1);obtain ⟨b1',b2,b3,b4⟩:=F0 (sz:=t.size) hi;obtain ⟨P1,P2,P3,rfl,g1,g2,g3⟩:=j5.split (d:=t.w5) (i:=i.toNat) b1' c5;rw [o8,n9 _ _ _ _ (by omega)] at g2;have cR:List.length x*t.size<=cap*t.size:=aAm _ c2;simp only [C6,hh,qh];exact ih g2 (by omega) ho (l7 (hO b1 (by simp)) _ _) (λ c hc=>hO c (by simp [hc]))
  | .m0 i::p,ho=>cases o<;>simp [C1] at ho
 | _ =>
  intro p b off O x hR hb ho hc hO
  match p,ho with
  | [],_=>rfl
  | .m0 i::p,ho=>simp [C1] at ho
  | .idx i::p,ho=>simp [C1] at ho
theorem zL {t:Ty} {p:List Step} {b off:Nat} {O:List Nat} {x:t.den} (hR:i6 H S t O (e8 H b off t.size) x) (hb:off+t.size<=(y8 H b).length) (ho:C1 t x p)
  (hc:e8 H' b off t.size=e8 H b off t.size) (hO:∀ c∈O,H'[c]?=H[c]?) {u:Ty} {y:u.den} (hg:j9 t x p=some ⟨u,y⟩) {b' ar:Nat} (hn:C6 H t p b off=some (b',ar)) :
  e8 H' b' ar u.size=e8 H b' ar u.size:=by
 obtain ⟨O1,O2,c1,c2,e1,e2,e3,e4,e5,e6⟩:=focus hR hb ho hg
 rw [hn] at e3; cases e3;rcases e6 with ⟨rfl,g1,g2⟩|⟨g1,_⟩
 ·exact yu hc g1 g2
 ·exact l7 (hO _ (e1.mem_iff.2 (by simp [g1]))) _ _
theorem xR {α:Type} (l:List α) (i j:Nat) (v d:α):(l.set i v).getD j d=if i=j/\j<l.length then v else l.getD j d:=by
 simp only [aAb,aFj];by_cases h:i=j
 ·subst h
  by_cases h2:i<l.length<;>simp [h2]
 ·simp [h]
theorem Xs:∀ {t:Ty} {x:t.den} {p:List Step} {u:Ty} {y:u.den} {z:Sigma Ty.den},w7 t x p u y=some z->z.1.sh=t.sh:=by
 intro t
 induction t with
 | pair a c iha ihc =>
  intro x p u y z h
  match p,h with
  | [],h =>
   simp only [w7] at h;split at h
   ·rename_i e; cases h; exact e
   ·cases h
  | .m0 0::p,h =>
   simp only [w7] at h;split at h
   ·rename_i t' w hw; cases h; simp only [Ty.sh,iha hw]
   ·cases h
  | .m0 (n+1)::p,h =>
   simp only [w7] at h;split at h
   ·rename_i t' w hw; cases h; simp only [Ty.sh,ihc hw]
   ·cases h
  | .idx i::p,h=>simp [w7] at h
 | arr n t ih =>
  intro x p u y z h
  match p,h with
  | [],h =>
   simp only [w7] at h;split at h
   ·rename_i e; cases h; exact e
   ·cases h
  | .idx i::p,h =>
   simp only [w7] at h;split at h
   ·split at h
    ·cases h; rfl
    ·cases h
   ·cases h
  | .m0 i::p,h=>simp [w7] at h
 | d0 o t ih =>
  intro x p u y z h
  match p,h with
  | [],h =>
   have h:(if u.sh=(Ty.d0 o t).sh then some (⟨u,y⟩:Sigma Ty.den) else none)=some z:=by cases o<;>exact h
   split at h
   ·rename_i e; cases h; exact e
   ·cases h
  | .idx i::p,h =>
   cases o with
   | false=>simp [w7] at h
   | true =>
    simp only [w7] at h;split at h
    ·split at h
     ·cases h; rfl
     ·cases h
    ·cases h
  | .m0 i::p,h=>cases o<;>simp [w7] at h
 | _ =>
  intro x p u y z h
  match p,h with
  | [],h =>
   simp only [w7] at h;split at h
   ·rename_i e; cases h; exact e
   ·cases h
  | .idx i::p,h=>simp [w7] at h
  | .m0 i::p,h=>simp [w7] at h
theorem QN:∀ {t:Ty} {q:List Step} {b off:Nat} {O1:List Nat} {x:t.den},y7 H S t q b off O1 x ->
  ∀ {u0:Ty} {y0:u0.den},j9 t x q=some ⟨u0,y0⟩->∀ {b' ar:Nat},C6 H t q b off=some (b',ar) ->
  off+t.size<=(y8 H b).length->b<H.size->O1.Nodup->b∉O1->(∀ c∈O1,c<H.size) ->
  ∀ {u:Ty} {y:u.den} {z:Sigma Ty.den},X7 H H' b' ar u0.size->w7 t x q u y=some z ->
  ∀ {p:List Step},kp q p=true->C1 t x p->C6 H' z.1 p b off=C6 H t p b off/\C1 z.1 z.2 p:=by
 intro t
 induction t with
 | pair a c iha ihc =>
  intro q b off O1 x hR u0 y0 hg b' ar hn hb dD aK bP cp u y z hc hz p hk ho
  match q,hR,hg,hn,hz,hk with
  | [],hR,hg,hn,hz,hk =>
   simp only [w7] at hz;split at hz
   ·rename_i e; cases hz; exact ⟨EF e hk,Et e hk ho⟩
   ·cases hz
  | .m0 0::q,⟨P1,P2,e,h1,h2⟩,hg,hn,hz,hk =>
   subst e;simp only [w7] at hz;split at hz
   ·rename_i t' w hw
    cases hz;simp only [aAg,aAi,not_or] at aK bP;simp only [Ty.size] at hb;have bo:=y7.range h1 hg hn
    match p,hk,ho with
    | [],_,_=>exact ⟨rfl,trivial⟩
    | .m0 0::p,hk,ho =>
     exact iha h1 hg hn (by omega) dD aK.1 bP.1 (λ c hc=>cp c (by simp [hc])) hc hw (by simpa [kp] using hk) ho
    | .m0 (m+1)::p,_,ho =>
     have aW:t'.size=a.size:=H4 (Xs hw);refine ⟨?_,ho⟩;simp only [C6,aW];refine zR h2 (by omega) ho ?_ ?_
     ·refine hc.cells dD (λ e=>?_)
      rcases bo with ⟨_,g,g'⟩|g
      ·right; omega
      ·exact absurd (by simp [e,g]:b∈P1) bP.1
     ·intro d hd
      refine hc.rest d ?_ (cp d (by simp [hd]));rintro rfl;rcases bo with ⟨g,_⟩|g
      ·subst g; exact bP.2 hd
      ·exact aK.2.2 _ g _ hd rfl
    | .idx i::p,hk,_=>simp [kp] at hk
   ·cases hz
  | .m0 (n+1)::q,⟨P1,P2,e,h1,h2⟩,hg,hn,hz,hk =>
   subst e;simp only [w7] at hz;split at hz
   ·rename_i t' w hw
    cases hz;simp only [aAg,aAi,not_or] at aK bP;simp only [Ty.size] at hb;have bo:=y7.range h2 hg hn
    match p,hk,ho with
    | [],_,_=>exact ⟨rfl,trivial⟩
    | .m0 0::p,_,ho =>
     refine ⟨?_,ho⟩;simp only [C6];refine zR h1 (by omega) ho ?_ ?_
     ·refine hc.cells dD (λ e=>?_)
      rcases bo with ⟨_,g,g'⟩|g
      ·left; omega
      ·exact absurd (by simp [e,g]:b∈P2) bP.2
     ·intro d hd
      refine hc.rest d ?_ (cp d (by simp [hd]));rintro rfl;rcases bo with ⟨g,_⟩|g
      ·subst g; exact bP.1 hd
      ·exact aK.2.2 _ hd _ g rfl
    | .m0 (m+1)::p,hk,ho =>
     exact ihc h2 hg hn (by omega) dD aK.2.1 bP.2 (λ c hc=>cp c (by simp [hc])) hc hw (by
      simp only [kp,Nat.add_right_cancel_iff] at hk ⊢; exact hk) ho
    | .idx i::p,hk,_=>simp [kp] at hk
   ·cases hz
  | .idx i::q,hR,_,_,_,_=>simp [y7] at hR
 | arr n t ih =>
  intro q b off O1 x hR u0 y0 hg b' ar hn hb dD aK bP cp u y z hc hz p hk ho
  match q,hR,hg,hn,hz,hk with
  | [],hR,hg,hn,hz,hk =>
   simp only [w7] at hz;split at hz
   ·rename_i e; cases hz; exact ⟨EF e hk,Et e hk ho⟩
   ·cases hz
  | .idx i::q,⟨hl,hi,P1,P2,P3,e,h1,h2,h3⟩,hg,hn,hz,hk =>
   subst e;simp only [w7] at hz;split at hz
   ·rename_i t' w hw
    split at hz
    ·rename_i ht; subst ht; cases hz
     simp only [aAg,aAi,not_or] at aK bP;obtain ⟨b1,b2,b3,b4⟩:=F0 (sz:=t'.size) hi;simp only [Ty.size] at hb;have bo:=y7.range h2 hg hn
     match p,hk,ho with
     | [],_,_=>exact ⟨rfl,trivial⟩
     | .idx j::p,hk,ho =>
      obtain ⟨hj,ho⟩:=ho;obtain ⟨d1,d2,d3,d4⟩:=F0 (sz:=t'.size) hj;simp only [C6,C1];by_cases bS:i.toNat=j.toNat
      ·rw [<- bS] at ho ⊢
       have:=ih h2 hg hn (by omega) dD aK.2.1.1 bP.2.1 (λ c hc=>cp c (by simp [hc])) hc hw (by simpa [kp] using hk) ho;refine ⟨this.1,hj,?_⟩;rw [xR,if_pos ⟨rfl,by rw [hl]; exact b1⟩];exact this.2
      ·rw [xR,if_neg (by simp [bS])]
       refine ⟨?_,hj,ho⟩;have br:∀ d,(d∈P1\/d∈P3)->H'[d]?=H[d]?:=by
        intro d hd;refine hc.rest d ?_ (cp d (by rcases hd with h|h<;>simp [h]));rintro rfl;rcases bo with ⟨g,_⟩|g
        ·subst g; rcases hd with h|h
         ·exact bP.1 h
         ·exact bP.2.2 h
        ·rcases hd with h|h
         ·exact aK.2.2 _ h _ (.inl g) rfl
         ·exact aK.2.1.2.2 _ g _ h rfl
       rcases aDt bS with bf|fD
       ·
        have hd:j.toNat - (i.toNat+1)<(List.drop (i.toNat+1) x).length:=by simp only [aAo]; omega
        obtain ⟨Q1,Q2,Q3,e,k1,k2,k3⟩:=j5.split (d:=t'.w5) hd h3;have e1:(i.toNat+1)*t'.size+(j.toNat - (i.toNat+1))*t'.size=j.toNat*t'.size:=by rw [<- aBp]; congr 1; omega
        have hm:(j.toNat - (i.toNat+1))*t'.size+t'.size<=(n - (i.toNat+1))*t'.size:=by omega
        rw [o8,n9 _ _ _ _ (by omega),aBo,e1] at k2;have e2:(List.drop (i.toNat+1) x).getD (j.toNat - (i.toNat+1)) t'.w5=List.getD x j.toNat t'.w5:=by
         simp only [aAb,aBl];rw [show i.toNat+1+(j.toNat - (i.toNat+1))=j.toNat from by omega]
        rw [e2] at k2;refine zR k2 (by omega) ho ?_ (λ d hd=>br d (.inr (by rw [e]; simp [hd])));refine hc.cells dD (λ e=>?_);rcases bo with ⟨_,g,g'⟩|g
        ·right; omega
        ·exact absurd (by simp [e,g]:b∈P2) bP.2.1
       ·have hd:j.toNat<(List.take i.toNat x).length:=by simp only [aAn]; omega
        obtain ⟨Q1,Q2,Q3,e,k1,k2,k3⟩:=j5.split (d:=t'.w5) hd h1;have hm:j.toNat*t'.size+t'.size<=i.toNat*t'.size:=by
         rw [<- aBg]; exact aAm _ (by omega)
        rw [o8,n9 _ _ _ _ (by omega)] at k2;have e2:(List.take i.toNat x).getD j.toNat t'.w5=List.getD x j.toNat t'.w5:=by
         simp only [aAb,aBq];rw [if_pos (by omega)]
        rw [e2] at k2;refine zR k2 (by omega) ho ?_ (λ d hd=>br d (.inl (by rw [e]; simp [hd])));refine hc.cells dD (λ e=>?_);rcases bo with ⟨_,g,g'⟩|g
        ·left; omega
        ·exact absurd (by simp [e,g]:b∈P2) bP.2.1
     | .m0 i::p,hk,_=>simp [kp] at hk
    ·cases hz
   ·cases hz
  | .m0 i::q,hR,_,_,_,_=>simp [y7] at hR
 | d0 o t ih =>
  intro q b off O1 x hR u0 y0 hg b' ar hn hb dD aK bP cp u y z hc hz p hk ho
  match q,hR,hg,hn,hz,hk with
  | [],hR,hg,hn,hz,hk =>
   have hz:(if u.sh=(Ty.d0 o t).sh then some (⟨u,y⟩:Sigma Ty.den) else none)=some z:=by cases o<;>exact hz
   split at hz
   ·rename_i e; cases hz; exact ⟨EF e hk,Et e hk ho⟩
   ·cases hz
  | .idx i::q,hR,hg,hn,hz,hk =>
   cases o with
   | false=>simp [y7] at hR
   | true =>
    obtain ⟨hi,c1,o1,cap,P1,P2,P3,e,e1,e2,e3,e4,e5,e6,e7⟩:=hR;subst e;simp only [C6,e1] at hn;simp only [w7] at hz;split at hz
    ·rename_i t' w hw
     split at hz
     ·rename_i ht; subst ht; cases hz
      simp only [aAg,aAi,aAt,aAq,not_or] at aK bP;obtain ⟨b1,b2,b3,b4⟩:=F0 (sz:=t'.size) hi;have cR:List.length x*t'.size<=cap*t'.size:=aAm _ e2;have qo:=e4.free.y8;have dQ:c1<H.size:=cp c1 (by simp);have bo:=y7.range e6 hg hn;have eB:b≠b':=by
       rintro rfl;rcases bo with ⟨g,_⟩|g
       ·exact bP.1 g
       ·exact bP.2.2.1 g
      have lD:(y8 H' b)[off]?=some (.slice (some ⟨c1,o1,none⟩) (List.length x) cap):=by
       rw [R9 (hc.rest b eB dD)]; exact e1
      match p,hk,ho with
      | [],_,_=>exact ⟨rfl,trivial⟩
      | .idx j::p,hk,ho =>
       obtain ⟨hj,ho⟩:=ho;obtain ⟨d1,d2,d3,d4⟩:=F0 (sz:=t'.size) hj;simp only [C6,C1,e1,lD,aBj];by_cases bS:i.toNat=j.toNat
       ·rw [<- bS] at ho ⊢
        have:=ih e6 hg hn (by omega) dQ aK.2.2.1.1 aK.1.2.1 (λ c hc=>cp c (by simp [hc])) hc hw (by simpa [kp] using hk) ho;refine ⟨this.1,hj,?_⟩;rw [xR,if_pos ⟨rfl,b1⟩];exact this.2
       ·rw [xR,if_neg (by simp [bS])]
        refine ⟨?_,hj,ho⟩;have br:∀ d,(d∈P1\/d∈P3)->H'[d]?=H[d]?:=by
         intro d hd;refine hc.rest d ?_ (cp d (by rcases hd with h|h<;>simp [h]));rintro rfl;rcases bo with ⟨g,_⟩|g
         ·subst g; rcases hd with h|h
          ·exact aK.1.1 h
          ·exact aK.1.2.2 h
         ·rcases hd with h|h
          ·exact aK.2.2.2 _ h _ (.inl g) rfl
          ·exact aK.2.2.1.2.2 _ g _ h rfl
        rcases aDt bS with bf|fD
        ·have hd:j.toNat - (i.toNat+1)<(List.drop (i.toNat+1) x).length:=by simp only [aAo]; omega
         obtain ⟨Q1,Q2,Q3,e,k1,k2,k3⟩:=j5.split (d:=t'.w5) hd e7;have f1:(i.toNat+1)*t'.size+(j.toNat - (i.toNat+1))*t'.size=j.toNat*t'.size:=by rw [<- aBp]; congr 1; omega
         have hm:(j.toNat - (i.toNat+1))*t'.size+t'.size<=(List.length x - (i.toNat+1))*t'.size:=by omega
         rw [o8,n9 _ _ _ _ (by omega),aBo,f1] at k2;have f2:(List.drop (i.toNat+1) x).getD (j.toNat - (i.toNat+1)) t'.w5=List.getD x j.toNat t'.w5:=by
          simp only [aAb,aBl];rw [show i.toNat+1+(j.toNat - (i.toNat+1))=j.toNat from by omega]
         rw [f2] at k2;refine zR k2 (by omega) ho ?_ (λ d hd=>br d (.inr (by rw [e]; simp [hd])));refine hc.cells dQ (λ e=>?_);rcases bo with ⟨_,g,g'⟩|g
         ·right; omega
         ·exact absurd (by simp [e,g]:c1∈P2) aK.1.2.1
        ·have hd:j.toNat<(List.take i.toNat x).length:=by simp only [aAn]; omega
         obtain ⟨Q1,Q2,Q3,e,k1,k2,k3⟩:=j5.split (d:=t'.w5) hd e5;have hm:j.toNat*t'.size+t'.size<=i.toNat*t'.size:=by
          rw [<- aBg]; exact aAm _ (by omega)
         rw [o8,n9 _ _ _ _ (by omega)] at k2;have f2:(List.take i.toNat x).getD j.toNat t'.w5=List.getD x j.toNat t'.w5:=by
          simp only [aAb,aBq];rw [if_pos (by omega)]
         rw [f2] at k2;refine zR k2 (by omega) ho ?_ (λ d hd=>br d (.inl (by rw [e]; simp [hd])));refine hc.cells dQ (λ e=>?_);rcases bo with ⟨_,g,g'⟩|g
         ·left; omega
         ·exact absurd (by simp [e,g]:c1∈P2) aK.1.2.1
      | .m0 i::p,hk,_=>simp [kp] at hk
     ·cases hz
    ·cases hz
  | .m0 i::q,hR,_,_,_,_=>cases o<;>simp [y7] at hR
 | _ =>
  intro q b off O1 x hR u0 y0 hg b' ar hn hb dD aK bP cp u y z hc hz p hk ho
  match q,hR,hg,hn,hz,hk with
  | [],hR,hg,hn,hz,hk =>
   simp only [w7] at hz;split at hz
   ·rename_i e; cases hz; exact ⟨EF e hk,Et e hk ho⟩
   ·cases hz
  | .idx i::q,hR,_,_,_,_=>simp [y7] at hR
  | .m0 i::q,hR,_,_,_,_=>simp [y7] at hR
end
end Go.Ex
namespace Go.Ex
def kc:Ty->List Step->List Step->Bool
 | .pair a _,.m0 0::q,.m0 0::p=>kc a q p
 | .pair _ _,.m0 0::_,.m0 (_+1)::_=>true
 | .pair _ _,.m0 (_+1)::_,.m0 0::_=>true
 | .pair _ b,.m0 (n+1)::q,.m0 (m+1)::p=>kc b (.m0 n::q) (.m0 m::p)
 | .arr _ t,.idx _::q,.idx _::p=>kc t q p
 | .d0 true t,.idx _::q,.idx _::p=>kc t q p
 | .d0 true _,.idx _::_,[]=>true
 | _,_,_=>false
section
variable {H H':Array Go.Obj} {S S':Nat->Prop}
theorem c2v:∀ {t:Ty} {q:List Step} {b off:Nat} {O1:List Nat} {x:t.den},y7 H S t q b off O1 x ->
  ∀ {u0:Ty} {y0:u0.den},j9 t x q=some ⟨u0,y0⟩->∀ {b' ar:Nat},C6 H t q b off=some (b',ar) ->
  off+t.size<=(y8 H b).length->b<H.size->O1.Nodup->b∉O1->(∀ c∈O1,c<H.size) ->
  ∀ {u:Ty} {y:u.den} {z:Sigma Ty.den},X7 H H' b' ar u0.size->w7 t x q u y=some z ->
  ∀ {p:List Step},kc t q p=true->C1 t x p->∀ {u1:Ty} {y1:u1.den},j9 t x p=some ⟨u1,y1⟩ ->
  (∃ y2:u1.den,j9 z.1 z.2 p=some ⟨u1,y2⟩)/\∀ b1 o1,C6 H t p b off=some (b1,o1)->e8 H' b1 o1 u1.size=e8 H b1 o1 u1.size:=by
 intro t
 induction t with
 | pair a c iha ihc =>
  intro q b off O1 x hR u0 y0 hg b' ar hn hb dD aK bP cp u y z hc hz p hk ho u1 y1 dz
  match q,hR,hg,hn,hz,hk with
  | [],_,_,_,_,hk=>simp [kc] at hk
  | .m0 0::q,⟨P1,P2,e,h1,h2⟩,hg,hn,hz,hk =>
   subst e;simp only [w7] at hz;split at hz
   ·rename_i t' w hw
    cases hz;simp only [aAg,aAi,not_or] at aK bP;simp only [Ty.size] at hb;have bo:=y7.range h1 hg hn
    match p,hk,ho,dz with
    | [],hk,_,_=>simp [kc] at hk
    | .m0 0::p,hk,ho,dz =>
     exact iha h1 hg hn (by omega) dD aK.1 bP.1 (λ c hc=>cp c (by simp [hc])) hc hw (by simpa [kc] using hk) ho dz
    | .m0 (m+1)::p,_,ho,dz =>
     refine ⟨⟨y1,dz⟩,λ b1 o1 fx=>?_⟩;refine zL h2 (by omega) ho ?_ ?_ dz fx
     ·refine hc.cells dD (λ e=>?_)
      rcases bo with ⟨_,g,g'⟩|g
      ·right; omega
      ·exact absurd (by simp [e,g]:b∈P1) bP.1
     ·intro d hd
      refine hc.rest d ?_ (cp d (by simp [hd]));rintro rfl;rcases bo with ⟨g,_⟩|g
      ·subst g; exact bP.2 hd
      ·exact aK.2.2 _ g _ hd rfl
    | .idx i::p,hk,_,_=>simp [kc] at hk
   ·cases hz
  | .m0 (n+1)::q,⟨P1,P2,e,h1,h2⟩,hg,hn,hz,hk =>
   subst e;simp only [w7] at hz;split at hz
   ·rename_i t' w hw
    cases hz;simp only [aAg,aAi,not_or] at aK bP;simp only [Ty.size] at hb;have bo:=y7.range h2 hg hn
    match p,hk,ho,dz with
    | [],hk,_,_=>simp [kc] at hk
    | .m0 0::p,_,ho,dz =>
     refine ⟨⟨y1,dz⟩,λ b1 o1 fx=>?_⟩;refine zL h1 (by omega) ho ?_ ?_ dz fx
     ·refine hc.cells dD (λ e=>?_)
      rcases bo with ⟨_,g,g'⟩|g
      ·left; omega
      ·exact absurd (by simp [e,g]:b∈P2) bP.2
     ·intro d hd
      refine hc.rest d ?_ (cp d (by simp [hd]));rintro rfl;rcases bo with ⟨g,_⟩|g
      ·subst g; exact bP.1 hd
      ·exact aK.2.2 _ hd _ g rfl
    | .m0 (m+1)::p,hk,ho,dz =>
     exact ihc h2 hg hn (by omega) dD aK.2.1 bP.2 (λ c hc=>cp c (by simp [hc])) hc hw (by simpa [kc] using hk) ho dz
    | .idx i::p,hk,_,_=>simp [kc] at hk
   ·cases hz
  | .idx i::q,hR,_,_,_,_=>simp [y7] at hR
 | arr n t ih =>
  intro q b off O1 x hR u0 y0 hg b' ar hn hb dD aK bP cp u y z hc hz p hk ho u1 y1 dz
  match q,hR,hg,hn,hz,hk with
  | [],_,_,_,_,hk=>simp [kc] at hk
  | .idx i::q,⟨hl,hi,P1,P2,P3,e,h1,h2,h3⟩,hg,hn,hz,hk =>
   subst e;simp only [w7] at hz;split at hz
   ·rename_i t' w hw
    split at hz
    ·rename_i ht; subst ht; cases hz
     simp only [aAg,aAi,not_or] at aK bP;obtain ⟨b1,b2,b3,b4⟩:=F0 (sz:=t'.size) hi;simp only [Ty.size] at hb;have bo:=y7.range h2 hg hn
     match p,hk,ho,dz with
     | [],hk,_,_=>simp [kc] at hk
     | .idx j::p,hk,ho,dz =>
      obtain ⟨hj,ho⟩:=ho;obtain ⟨d1,d2,d3,d4⟩:=F0 (sz:=t'.size) hj;simp only [j9] at dz ⊢;simp only [C6];by_cases bS:i.toNat=j.toNat
      ·rw [<- bS] at ho dz ⊢
       rw [xR,if_pos ⟨rfl,by rw [hl]; exact b1⟩];exact ih h2 hg hn (by omega) dD aK.2.1.1 bP.2.1 (λ c hc=>cp c (by simp [hc])) hc hw (by simpa [kc] using hk) ho dz
      ·rw [xR,if_neg (by simp [bS])]
       refine ⟨⟨y1,dz⟩,λ bb oo fx=>?_⟩;have br:∀ d,(d∈P1\/d∈P3)->H'[d]?=H[d]?:=by
        intro d hd;refine hc.rest d ?_ (cp d (by rcases hd with h|h<;>simp [h]));rintro rfl;rcases bo with ⟨g,_⟩|g
        ·subst g; rcases hd with h|h
         ·exact bP.1 h
         ·exact bP.2.2 h
        ·rcases hd with h|h
         ·exact aK.2.2 _ h _ (.inl g) rfl
         ·exact aK.2.1.2.2 _ g _ h rfl
       rcases aDt bS with bf|fD
       ·have hd:j.toNat - (i.toNat+1)<(List.drop (i.toNat+1) x).length:=by simp only [aAo]; omega
        obtain ⟨Q1,Q2,Q3,e,k1,k2,k3⟩:=j5.split (d:=t'.w5) hd h3;have e1:(i.toNat+1)*t'.size+(j.toNat - (i.toNat+1))*t'.size=j.toNat*t'.size:=by rw [<- aBp]; congr 1; omega
        have hm:(j.toNat - (i.toNat+1))*t'.size+t'.size<=(n - (i.toNat+1))*t'.size:=by omega
        rw [o8,n9 _ _ _ _ (by omega),aBo,e1] at k2;have e2:(List.drop (i.toNat+1) x).getD (j.toNat - (i.toNat+1)) t'.w5=List.getD x j.toNat t'.w5:=by
         simp only [aAb,aBl];rw [show i.toNat+1+(j.toNat - (i.toNat+1))=j.toNat from by omega]
        rw [e2] at k2;refine zL k2 (by omega) ho ?_ (λ d hd=>br d (.inr (by rw [e]; simp [hd]))) dz fx;refine hc.cells dD (λ e=>?_);rcases bo with ⟨_,g,g'⟩|g
        ·right; omega
        ·exact absurd (by simp [e,g]:b∈P2) bP.2.1
       ·have hd:j.toNat<(List.take i.toNat x).length:=by simp only [aAn]; omega
        obtain ⟨Q1,Q2,Q3,e,k1,k2,k3⟩:=j5.split (d:=t'.w5) hd h1;have hm:j.toNat*t'.size+t'.size<=i.toNat*t'.size:=by
         rw [<- aBg]; exact aAm _ (by omega)
        rw [o8,n9 _ _ _ _ (by omega)] at k2;have e2:(List.take i.toNat x).getD j.toNat t'.w5=List.getD x j.toNat t'.w5:=by
         simp only [aAb,aBq];rw [if_pos (by omega)]
        rw [e2] at k2;refine zL k2 (by omega) ho ?_ (λ d hd=>br d (.inl (by rw [e]; simp [hd]))) dz fx;refine hc.cells dD (λ e=>?_);rcases bo with ⟨_,g,g'⟩|g
        ·left; omega
        ·exact absurd (by simp [e,g]:b∈P2) bP.2.1
     | .m0 i::p,hk,_,_=>simp [kc] at hk
    ·cases hz
   ·cases hz
  | .m0 i::q,hR,_,_,_,_=>simp [y7] at hR
 | d0 o t ih =>
  intro q b off O1 x hR u0 y0 hg b' ar hn hb dD aK bP cp u y z hc hz p hk ho u1 y1 dz
  match q,hR,hg,hn,hz,hk with
  | [],_,_,_,_,hk=>cases o<;>simp [kc] at hk
  | .idx i::q,hR,hg,hn,hz,hk =>
   cases o with
   | false=>simp [y7] at hR
   | true =>
    obtain ⟨hi,c1,o1,cap,P1,P2,P3,e,e1,e2,e3,e4,e5,e6,e7⟩:=hR;subst e;simp only [C6,e1] at hn;simp only [w7] at hz;split at hz
    ·rename_i t' w hw
     split at hz
     ·rename_i ht; subst ht; cases hz
      simp only [aAg,aAi,aAt,aAq,not_or] at aK bP;obtain ⟨b1,b2,b3,b4⟩:=F0 (sz:=t'.size) hi;have cR:List.length x*t'.size<=cap*t'.size:=aAm _ e2;have qo:=e4.free.y8;have dQ:c1<H.size:=cp c1 (by simp);have bo:=y7.range e6 hg hn;have eB:b≠b':=by
       rintro rfl;rcases bo with ⟨g,_⟩|g
       ·exact bP.1 g
       ·exact bP.2.2.1 g
      match p,hk,ho,dz with
      | [],_,_,dz =>
       simp only [j9,aAc] at dz;cases dz;refine ⟨⟨_,rfl⟩,λ bb oo fx=>?_⟩;simp only [C6,aAc] at fx;cases fx;exact l7 (hc.rest b eB dD) _ _
      | .idx j::p,hk,ho,dz =>
       obtain ⟨hj,ho⟩:=ho;obtain ⟨d1,d2,d3,d4⟩:=F0 (sz:=t'.size) hj;simp only [j9] at dz ⊢;simp only [C6,e1];by_cases bS:i.toNat=j.toNat
       ·rw [<- bS] at ho dz ⊢
        rw [xR,if_pos ⟨rfl,b1⟩];exact ih e6 hg hn (by omega) dQ aK.2.2.1.1 aK.1.2.1 (λ c hc=>cp c (by simp [hc])) hc hw (by simpa [kc] using hk) ho dz
       ·rw [xR,if_neg (by simp [bS])]
        refine ⟨⟨y1,dz⟩,λ bb oo fx=>?_⟩;have br:∀ d,(d∈P1\/d∈P3)->H'[d]?=H[d]?:=by
         intro d hd;refine hc.rest d ?_ (cp d (by rcases hd with h|h<;>simp [h]));rintro rfl;rcases bo with ⟨g,_⟩|g
         ·subst g; rcases hd with h|h
          ·exact aK.1.1 h
          ·exact aK.1.2.2 h
         ·rcases hd with h|h
          ·exact aK.2.2.2 _ h _ (.inl g) rfl
          ·exact aK.2.2.1.2.2 _ g _ h rfl
        rcases aDt bS with bf|fD
        ·have hd:j.toNat - (i.toNat+1)<(List.drop (i.toNat+1) x).length:=by simp only [aAo]; omega
         obtain ⟨Q1,Q2,Q3,e,k1,k2,k3⟩:=j5.split (d:=t'.w5) hd e7;have f1:(i.toNat+1)*t'.size+(j.toNat - (i.toNat+1))*t'.size=j.toNat*t'.size:=by rw [<- aBp]; congr 1; omega
         have hm:(j.toNat - (i.toNat+1))*t'.size+t'.size<=(List.length x - (i.toNat+1))*t'.size:=by omega
         rw [o8,n9 _ _ _ _ (by omega),aBo,f1] at k2;have f2:(List.drop (i.toNat+1) x).getD (j.toNat - (i.toNat+1)) t'.w5=List.getD x j.toNat t'.w5:=by
          simp only [aAb,aBl];rw [show i.toNat+1+(j.toNat - (i.toNat+1))=j.toNat from by omega]
         rw [f2] at k2;refine zL k2 (by omega) ho ?_ (λ d hd=>br d (.inr (by rw [e]; simp [hd]))) dz fx;refine hc.cells dQ (λ e=>?_);rcases bo with ⟨_,g,g'⟩|g
         ·right; omega
         ·exact absurd (by simp [e,g]:c1∈P2) aK.1.2.1
        ·have hd:j.toNat<(List.take i.toNat x).length:=by simp only [aAn]; omega
         obtain ⟨Q1,Q2,Q3,e,k1,k2,k3⟩:=j5.split (d:=t'.w5) hd e5;have hm:j.toNat*t'.size+t'.size<=i.toNat*t'.size:=by
          rw [<- aBg]; exact aAm _ (by omega)
         rw [o8,n9 _ _ _ _ (by omega)] at k2;have f2:(List.take i.toNat x).getD j.toNat t'.w5=List.getD x j.toNat t'.w5:=by
          simp only [aAb,aBq];rw [if_pos (by omega)]
         rw [f2] at k2;refine zL k2 (by omega) ho ?_ (λ d hd=>br d (.inl (by rw [e]; simp [hd]))) dz fx;refine hc.cells dQ (λ e=>?_);rcases bo with ⟨_,g,g'⟩|g
         ·left; omega
         ·exact absurd (by simp [e,g]:c1∈P2) aK.1.2.1
      | .m0 i::p,hk,_,_=>simp [kc] at hk
     ·cases hz
    ·cases hz
  | .m0 i::q,hR,_,_,_,_=>cases o<;>simp [y7] at hR
 | _ =>
  intro q b off O1 x hR u0 y0 hg b' ar hn hb dD aK bP cp u y z hc hz p hk ho u1 y1 dz;cases q<;>simp [kc] at hk
end
end Go.Ex
