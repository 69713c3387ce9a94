import Derived.Test.YtijlnmgondibnaaGreatDoorProg
import Derived.Test.YtijlnmgondibnaaGreatDoorExW
import Derived.Test.YtijlnmgondibnaaGreatDoorRows
import Derived.Lib.LaidU8
import Derived.LaidMore
import Derived.LaidSub
import Derived.Shelf.Vars
import Derived.JoinedCond
import Derived.WalkKit
import Derived.Lib.Walk
import Derived.Shelf.RegionOpenPlain
import Derived.Lib.SliceRun
import Derived.Lib.Overlaps
import Derived.Lib.AppendZerosOnto
import Derived.Laws.Externs
import Derived.Laws.IdiomCopy
import Derived.Laws.NewBlocks
set_option linter.unusedVariables false
set_option linter.unusedSimpArgs false
set_option linter.unusedSectionVars false
namespace Go.Proofs.YtijlnmgondibnaaGreatDoor
open Go.Ex
set_option maxRecDepth 100000
abbrev e8:Ty:=.int .i64
abbrev U8:Ty:=.int .u8
abbrev Is:Ty:=.d0 true e8
abbrev V9:Ty:=.arr 6 e8
abbrev c5b:Ty:=.pair e8 (.pair e8 .unit)
abbrev a0R:Ty:=.arr 10 e8
abbrev View:Ty:=.pair e8 (.pair U8 .unit)
abbrev p7:Ty:=.pair e8 (.pair .str .unit)
abbrev ToT:Ty:=.pair e8 (.pair (.d0 false p7) .unit)
abbrev ToO:Ty:=.pair e8 (.pair (.d0 true p7) .unit)
abbrev N8:Ty:=.pair e8 (.pair (.d0 false .str) .unit)
abbrev c5e:Ty:=.pair e8 (.pair (.d0 true .str) .unit)
abbrev b1h:Ty:=.pair e8 (.pair e8 (.pair e8 (.pair e8 (.pair e8 (.pair V9 (.pair .str .unit))))))
abbrev a2r:Ty:=.pair .bool (.pair (.d0 true p7) (.pair N8 (.pair ToT (.pair ToT .unit))))
abbrev u3:Ty:=.pair View (.pair (.d0 true a2r) (.pair (.d0 true .str) (.pair (.d0 true .str) .unit)))
abbrev c7X:Ty:=.pair .bool (.pair (.d0 false p7) (.pair N8 (.pair ToT (.pair ToT .unit))))
abbrev K7:Ty:=.pair View (.pair (.d0 false c7X) (.pair (.d0 false .str) (.pair (.d0 false .str) .unit)))
abbrev a1W:Ty:=.pair e8 (.pair e8 (.pair e8 (.pair .str .unit)))
abbrev J4:Ty:=.d0 false p7
abbrev W2:Ty:=.pair .bool (.pair (.w6 p7) (.pair N8 (.pair ToT (.pair ToT .unit))))
abbrev X2:Ty:=.pair View (.pair (.d0 true W2) (.pair (.d0 true .str) (.pair (.d0 true .str) .unit)))
def tt:List (TypeId×TI):=[(2,TI.mk (Ty.int IntKind.i64) 8),(3,TI.mk (Ty.int IntKind.i64) 8),(4,TI.mk Ty.bool 1),(5,TI.mk (Ty.int IntKind.u8) 1),(6,TI.mk (Ty.int IntKind.u8) 1),(7,TI.mk (Ty.pair (Ty.int IntKind.i64) (Ty.pair (Ty.int IntKind.i64) (Ty.pair Ty.bool (Ty.pair (Ty.int IntKind.u8) Ty.unit)))) 24),(8,TI.mk (Ty.pair (Ty.int IntKind.i64) (Ty.pair (Ty.int IntKind.i64) (Ty.pair Ty.bool (Ty.pair (Ty.int IntKind.u8) Ty.unit)))) 24),(9,TI.mk Ty.str 16),(10,TI.mk Ty.str 16),(11,TI.mk Ty.str 16),(12,TI.mk (Ty.int IntKind.u64) 8),(13,TI.mk (Ty.pair Ty.str (Ty.pair (Ty.int IntKind.u64) Ty.unit)) 24),(14,TI.mk (Ty.pair Ty.str (Ty.pair (Ty.int IntKind.u64) Ty.unit)) 24),(21,TI.mk (Ty.int IntKind.i32) 4),(22,TI.mk (Ty.d0 true Ty.str) 24),(26,TI.mk (Ty.int IntKind.i64) 8),(33,TI.mk (Ty.d0 true (Ty.pair (Ty.int IntKind.i64) (Ty.pair Ty.str Ty.unit))) 24),(39,TI.mk (Ty.pair (Ty.int IntKind.i64) (Ty.pair Ty.str Ty.unit)) 24),(40,TI.mk (Ty.pair (Ty.int IntKind.i64) (Ty.pair Ty.str Ty.unit)) 24),(43,TI.mk (Ty.d0 true (Ty.pair (Ty.int IntKind.i64) (Ty.pair (Ty.int IntKind.i64) (Ty.pair (Ty.int IntKind.i64) (Ty.pair Ty.str Ty.unit))))) 24),(44,TI.mk (Ty.d0 true (Ty.d0 true Ty.str)) 24),(45,TI.mk (Ty.d0 true (Ty.int IntKind.i64)) 24),(53,TI.mk (Ty.arr 6 (Ty.d0 true Ty.str)) 144),(55,TI.mk (Ty.map true (Ty.int IntKind.i64) (Ty.int IntKind.i64)) 8),(56,TI.mk (Ty.pair (Ty.int IntKind.i64) (Ty.pair (Ty.int IntKind.u8) Ty.unit)) 16),(57,TI.mk (Ty.pair (Ty.int IntKind.i64) (Ty.pair (Ty.int IntKind.u8) Ty.unit)) 16),(59,TI.mk (Ty.arr 10 (Ty.int IntKind.i64)) 80),(60,TI.mk (Ty.arr 10 (Ty.int IntKind.i64)) 80),(68,TI.mk (Ty.d0 true (Ty.d0 true (Ty.pair (Ty.int IntKind.i64) (Ty.pair Ty.str Ty.unit)))) 24),(69,TI.mk (Ty.pair (Ty.int IntKind.i64) (Ty.pair (Ty.int IntKind.i64) (Ty.pair (Ty.int IntKind.i64) (Ty.pair Ty.str Ty.unit)))) 40),(70,TI.mk (Ty.pair (Ty.int IntKind.i64) (Ty.pair (Ty.int IntKind.i64) (Ty.pair (Ty.int IntKind.i64) (Ty.pair Ty.str Ty.unit)))) 40),(74,TI.mk (Ty.d0 true (Ty.pair Ty.bool (Ty.pair (Ty.d0 true (Ty.pair (Ty.int IntKind.i64) (Ty.pair Ty.str Ty.unit))) (Ty.pair (Ty.pair (Ty.int IntKind.i64) (Ty.pair (Ty.d0 true Ty.str) Ty.unit)) (Ty.pair (Ty.pair (Ty.int IntKind.i64) (Ty.pair (Ty.d0 true (Ty.pair (Ty.int IntKind.i64) (Ty.pair Ty.str Ty.unit))) Ty.unit)) (Ty.pair (Ty.pair (Ty.int IntKind.i64) (Ty.pair (Ty.d0 true (Ty.pair (Ty.int IntKind.i64) (Ty.pair Ty.str Ty.unit))) Ty.unit)) Ty.unit)))))) 24),(75,TI.mk (Ty.pair (Ty.pair (Ty.int IntKind.i64) (Ty.pair (Ty.int IntKind.u8) Ty.unit)) (Ty.pair (Ty.d0 true (Ty.pair Ty.bool (Ty.pair (Ty.d0 true (Ty.pair (Ty.int IntKind.i64) (Ty.pair Ty.str Ty.unit))) (Ty.pair (Ty.pair (Ty.int IntKind.i64) (Ty.pair (Ty.d0 true Ty.str) Ty.unit)) (Ty.pair (Ty.pair (Ty.int IntKind.i64) (Ty.pair (Ty.d0 true (Ty.pair (Ty.int IntKind.i64) (Ty.pair Ty.str Ty.unit))) Ty.unit)) (Ty.pair (Ty.pair (Ty.int IntKind.i64) (Ty.pair (Ty.d0 true (Ty.pair (Ty.int IntKind.i64) (Ty.pair Ty.str Ty.unit))) Ty.unit)) Ty.unit)))))) (Ty.pair (Ty.d0 true Ty.str) (Ty.pair (Ty.d0 true Ty.str) Ty.unit)))) 88),(76,TI.mk (Ty.pair (Ty.pair (Ty.int IntKind.i64) (Ty.pair (Ty.int IntKind.u8) Ty.unit)) (Ty.pair (Ty.d0 true (Ty.pair Ty.bool (Ty.pair (Ty.d0 true (Ty.pair (Ty.int IntKind.i64) (Ty.pair Ty.str Ty.unit))) (Ty.pair (Ty.pair (Ty.int IntKind.i64) (Ty.pair (Ty.d0 true Ty.str) Ty.unit)) (Ty.pair (Ty.pair (Ty.int IntKind.i64) (Ty.pair (Ty.d0 true (Ty.pair (Ty.int IntKind.i64) (Ty.pair Ty.str Ty.unit))) Ty.unit)) (Ty.pair (Ty.pair (Ty.int IntKind.i64) (Ty.pair (Ty.d0 true (Ty.pair (Ty.int IntKind.i64) (Ty.pair Ty.str Ty.unit))) Ty.unit)) Ty.unit)))))) (Ty.pair (Ty.d0 true Ty.str) (Ty.pair (Ty.d0 true Ty.str) Ty.unit)))) 88),(77,TI.mk (Ty.pair (Ty.int IntKind.i64) (Ty.pair (Ty.d0 true Ty.str) Ty.unit)) 32),(78,TI.mk (Ty.pair (Ty.int IntKind.i64) (Ty.pair (Ty.d0 true Ty.str) Ty.unit)) 32),(81,TI.mk (Ty.d0 true (Ty.pair (Ty.int IntKind.i64) (Ty.pair Ty.str Ty.unit))) 24),(82,TI.mk (Ty.pair (Ty.int IntKind.i64) (Ty.pair (Ty.d0 true (Ty.pair (Ty.int IntKind.i64) (Ty.pair Ty.str Ty.unit))) Ty.unit)) 32),(83,TI.mk (Ty.pair (Ty.int IntKind.i64) (Ty.pair (Ty.d0 true (Ty.pair (Ty.int IntKind.i64) (Ty.pair Ty.str Ty.unit))) Ty.unit)) 32),(84,TI.mk (Ty.pair Ty.bool (Ty.pair (Ty.d0 true (Ty.pair (Ty.int IntKind.i64) (Ty.pair Ty.str Ty.unit))) (Ty.pair (Ty.pair (Ty.int IntKind.i64) (Ty.pair (Ty.d0 true Ty.str) Ty.unit)) (Ty.pair (Ty.pair (Ty.int IntKind.i64) (Ty.pair (Ty.d0 true (Ty.pair (Ty.int IntKind.i64) (Ty.pair Ty.str Ty.unit))) Ty.unit)) (Ty.pair (Ty.pair (Ty.int IntKind.i64) (Ty.pair (Ty.d0 true (Ty.pair (Ty.int IntKind.i64) (Ty.pair Ty.str Ty.unit))) Ty.unit)) Ty.unit))))) 128),(85,TI.mk (Ty.pair Ty.bool (Ty.pair (Ty.d0 true (Ty.pair (Ty.int IntKind.i64) (Ty.pair Ty.str Ty.unit))) (Ty.pair (Ty.pair (Ty.int IntKind.i64) (Ty.pair (Ty.d0 true Ty.str) Ty.unit)) (Ty.pair (Ty.pair (Ty.int IntKind.i64) (Ty.pair (Ty.d0 true (Ty.pair (Ty.int IntKind.i64) (Ty.pair Ty.str Ty.unit))) Ty.unit)) (Ty.pair (Ty.pair (Ty.int IntKind.i64) (Ty.pair (Ty.d0 true (Ty.pair (Ty.int IntKind.i64) (Ty.pair Ty.str Ty.unit))) Ty.unit)) Ty.unit))))) 128),(88,TI.mk (Ty.arr 6 (Ty.int IntKind.i64)) 48),(89,TI.mk (Ty.arr 6 (Ty.int IntKind.i64)) 48),(90,TI.mk (Ty.pair (Ty.int IntKind.i64) (Ty.pair (Ty.int IntKind.i64) (Ty.pair (Ty.int IntKind.i64) (Ty.pair (Ty.int IntKind.i64) (Ty.pair (Ty.int IntKind.i64) (Ty.pair (Ty.arr 6 (Ty.int IntKind.i64)) (Ty.pair Ty.str Ty.unit))))))) 104),(91,TI.mk (Ty.pair (Ty.int IntKind.i64) (Ty.pair (Ty.int IntKind.i64) (Ty.pair (Ty.int IntKind.i64) (Ty.pair (Ty.int IntKind.i64) (Ty.pair (Ty.int IntKind.i64) (Ty.pair (Ty.arr 6 (Ty.int IntKind.i64)) (Ty.pair Ty.str Ty.unit))))))) 104),(103,TI.mk (Ty.pair (Ty.int IntKind.i64) (Ty.pair Ty.str Ty.unit)) 24),(104,TI.mk (Ty.pair (Ty.int IntKind.i64) (Ty.pair Ty.str Ty.unit)) 24),(115,TI.mk (Ty.d0 true (Ty.int IntKind.u8)) 24),(117,TI.mk (Ty.int IntKind.u32) 4),(119,TI.mk (Ty.int IntKind.u64) 8),(125,TI.mk (Ty.pair (Ty.int IntKind.i64) (Ty.pair (Ty.int IntKind.i64) (Ty.pair (Ty.int IntKind.i64) Ty.unit))) 24),(126,TI.mk (Ty.pair (Ty.int IntKind.i64) (Ty.pair (Ty.int IntKind.i64) (Ty.pair (Ty.int IntKind.i64) Ty.unit))) 24),(158,TI.mk (Ty.arr 24 (Ty.int IntKind.u8)) 24),(159,TI.mk (Ty.int IntKind.u64) 8),(169,TI.mk (Ty.int IntKind.i64) 8),(176,TI.mk (Ty.arr 20 (Ty.int IntKind.u64)) 160),(177,TI.mk (Ty.arr 65 (Ty.int IntKind.u8)) 65),(181,TI.mk (Ty.arr 256 Ty.bool) 256),(182,TI.mk (Ty.arr 256 Ty.bool) 256),(206,TI.mk (Ty.pair Ty.str Ty.unit) 16),(207,TI.mk (Ty.pair Ty.str Ty.unit) 16),(208,TI.mk (Ty.arr 32 (Ty.int IntKind.u8)) 32),(209,TI.mk (Ty.arr 64 (Ty.int IntKind.u8)) 64),(211,TI.mk (Ty.arr 256 (Ty.int IntKind.u8)) 256),(212,TI.mk (Ty.pair (Ty.int IntKind.u8) (Ty.pair (Ty.int IntKind.u8) Ty.unit)) 2),(213,TI.mk (Ty.pair (Ty.int IntKind.u8) (Ty.pair (Ty.int IntKind.u8) Ty.unit)) 2),(214,TI.mk (Ty.arr 16 (Ty.pair (Ty.int IntKind.u8) (Ty.pair (Ty.int IntKind.u8) Ty.unit))) 32),(222,TI.mk (Ty.int IntKind.u8) 1),(223,TI.mk (Ty.int IntKind.u8) 1),(225,TI.mk (Ty.int IntKind.i32) 4),(226,TI.mk (Ty.int IntKind.i32) 4),(25,{ ty:=Ty.box true none u3,by_:=8 }),(94,{ ty:=Ty.fn 79,by_:=8 })]
theorem q9:tt.all (a48 Tryz.prog)=true:=by kernel_rfl
theorem own:ownKnob Tryz.prog.godebug=none:=by kernel_rfl
theorem laid:laidOutB Tryz.prog=true:=by kernel_rfl
abbrev _root_.Go.Ex.Tree.ctL {ts:List Ty} (q:Code×List Item) (s:St):Tree ts:=.cut q.1 q.2 s
end Go.Proofs.YtijlnmgondibnaaGreatDoor
namespace Go.Proofs.YtijlnmgondibnaaGreatDoor
open Go.Ex Go.ChangeShapes Go.WideShapes Go.ChangeAt Go.RowKit
set_option maxRecDepth 100000
theorem c1A {X:Type} {enc:TypeId×Value->X} {C:Checked} {os:Os} {f:FuncId} {fn:Func} {s:OpenSpec} {k:(H:Type)->List (DataW H)->Bool} (hk:s.cond=some k) {F:Stop.Interp} {conds:List PathCond} {apart fresh handsOn again:Bool} {us:List Ty} {tb:TypeId} {a:Assume} {Y:World->Array Value->Prop}
    (hX:∀ (w w':World) (args:Array Value),w.heap=w'.heap->Y w args->Y w' args)
    (own:ownKnob C.prog.godebug=none) (started:os.Started) (noInit:C.prog.inits.idxOf? f=none) (iP:C.prog.funcs[f]?=some fn)
    (witness:∃ (w:World) (tape:Tape) (i:Input),w.os=os/\(w.forCall tape i).Shaped C.prog/\i.vars=[]/\Input.okWide C.prog (w.forCall tape i) .any w.heap.size f i /\
      ((s.pre enc C.prog fn conds apart (w.forCall tape i).memory i.args/\Y (w.forCall tape i).memory i.args)/\sizedMet enc C.prog fn s apart (w.forCall tape i).memory i.args)/\a.holds C.prog (lone (Frame.enter C.prog f i.args .normal) [] (w.forCall tape i)))
    (qX:∀ ds:List (DataW X),k X ds=true->Q8 ds<=1048576)
    (hl:laidOutB C.prog=true) (cF:a45 C.prog fn.params.toList us=true) (eZ:s.vars=[]) (hs:∀ ds:List (DataW X),ds.length=fn.params.toList.length->s.fn F X ds={ results:=[.lit (.bool true)],args:=ds })
    (dY:fn.resultTypes=#[tb]) (mC:C.prog.underlying tb=some .bool) (hv:(c1c us).Valid C.prog f) (dk:∀ W args,W.ShapedOpen C.prog->Y W args->a0v C.prog W (λ b=>b<W.heap.size)) :
    ReturnsInHanded a C os f .any (λ w args=>(s.pre enc C.prog fn conds apart w args/\Y w args)/\sizedMet enc C.prog fn s apart w args) ((s.at F).post enc C.prog fn apart fresh handsOn again):=by
  refine returnsInHanded_of_calls own started noInit witness ?_;intro w tape i _ bT _ aP bm oi;obtain ⟨_,_,_,fn',gQ,_,_,_,_,dV⟩:=aP;have e:fn'=fn:=Option.some.inj (gQ.symm.trans iP);subst e;obtain ⟨⟨kH,hx⟩,hz⟩:=bm;obtain ⟨ds,gs,before,hw,hc,lL⟩:=(OpenSpec.pre_some hk conds apart _ _).1 kH;have fL:=DataW.Whole.of_heap (w':=w.forCall tape i) (by rfl) hw;have hg:gs=[]:=by
    obtain ⟨p,q,hA,hV,_⟩:=hw;rw [eZ] at hV;exact (trodVars_none hV).1
  subst hg;rw [List.append_nil] at lL;refine (c1B (s:=s.at F) (apart:=apart) (fresh:=fresh) (handsOn:=handsOn) (again:=again) hl cF eZ hs dY mC hv (dk _ _ bT (hX _ _ _ (by rfl) hx)) (λ x hx=>Nat.le_trans hx (qX ds lL)) dV fL).mono λ e W' ⟨v,he,hp⟩=>?_;subst he;exact ChangeSpec.post_blind hp
theorem c01 {P:Program} {W:World} {n:String} {g:Nat} {cs:Array Value} (hg:P.globalNamed n=some g) (h:W.var? P n=some cs):g<W.heap.size:=by
  unfold World.var? at h;rw [hg,Option.bind_some] at h;by_cases bo:g<W.heap.size
  . exact bo
  . rw [Array.getElem?_eq_none (by omega)] at h;cases h
theorem c3Z {P:Program} {W:World} {n:String} {g:Nat} {v:Value} (hg:P.globalNamed n=some g) (h:W.cell? ⟨g,0,none⟩=some v):∃ cs,W.var? P n=some cs/\cs[0]?=some v:=by
  unfold World.var?;rw [hg,Option.bind_some];unfold World.cell? at h;split at h
  . rename_i cs T fz hh;exact ⟨cs,by rw [hh],h⟩
  . cases h
theorem c5P {l:List (String×DataW Unit)} {W:World} (bT:W.ShapedOpen Tryz.prog) (hl:laidMetH Tryz.prog l W) (hf:(l.filter λ x=>x.2.handleName?.isSome)=[]) (hm:("internal/strconv.uint64pow10",Rows.laid_internal_strconv_uint64pow10)∈l) :
    a0v Tryz.prog W (λ b=>b<W.heap.size):=by
  unfold laidMetH at hl;rw [hf] at hl;obtain ⟨g,t,cs,fuel,p,h1,h2,h3,h4⟩:=Lib.laidMet.reads hl hm;intro x hx g' jm;simp only [b4h,List.mem_cons,List.mem_nil_iff,or_false] at hx;rcases hx with rfl|rfl
  . refine ⟨c01 jm h3,cs,h3,?_⟩;obtain rfl:=Option.some.inj ((show Tryz.prog.globalNamed "internal/strconv.uint64pow10"=some 0 by kernel_rfl).symm.trans h1)
    obtain rfl:=Option.some.inj ((show (Tryz.prog.globals[0]?).map (·.type)=some 176 by kernel_rfl).symm.trans h2);have:=Lib.cells_of_tab (n:=20) (e:=159) (k:=.u64) (zs:=(List.range 20).map λ i=>((10^i:Nat):Int)) (by kernel_rfl) (by kernel_rfl) (by kernel_rfl) (by kernel_rfl) h4;rw [<- this]
  . obtain rfl:=Option.some.inj ((show Tryz.prog.globalNamed "internal/bytealg.MaxLen"=some 1 by kernel_rfl).symm.trans jm)
    obtain ⟨m,hm⟩:=cell_of_shapedOpen_int (g:=1) (t:=3) (zero:=#[.int .i64 0]) (k:=.i64) bT (Nat.le_of_ble_eq_true (by kernel_rfl)) (by kernel_rfl) rfl (by kernel_rfl) (by kernel_rfl) (by kernel_rfl);obtain ⟨cs,k1,k2⟩:=c3Z (show Tryz.prog.globalNamed "internal/bytealg.MaxLen"=some 1 by kernel_rfl) hm
    exact ⟨c01 (show Tryz.prog.globalNamed "internal/bytealg.MaxLen"=some 1 by kernel_rfl) k1,cs,k1,m,k2⟩
end Go.Proofs.YtijlnmgondibnaaGreatDoor
namespace Go.Proofs.YtijlnmgondibnaaGreatDoor
open Go.Ex
set_option maxRecDepth 100000
theorem j7 {n:Int}:r7 .i64 n↔-9223372036854775808<=n/\n<=9223372036854775807:=Iff.rfl
theorem c6K:Ty.wb e8=8:=rfl
theorem b8i:Ty.wb U8=1:=rfl
theorem yes:((true,()):Bool×Unit)=(true,()):=rfl
theorem a6M {α:Type} {l:List α} {i:Nat} (h:i<l.length) (d:α):l.drop i=l.getD i d::l.drop (i+1):=by
  rw [List.drop_eq_getElem_cons h,List.getD_eq_getElem?_getD,List.getElem?_eq_getElem h]; rfl
theorem a5z {α:Type} {l:List α} {i:Nat} {d:α} (h:i<l.length):l.getD i d∈l:=by
  rw [List.getD_eq_getElem?_getD,List.getElem?_eq_getElem h]; exact List.getElem_mem h
theorem c3s {α:Type} {l:List α} {x d:α} (h:x∈l):∃ i,i<l.length/\l.getD i d=x:=by
  obtain ⟨i,hi,e⟩:=List.getElem_of_mem h;exact ⟨i,hi,by rw [List.getD_eq_getElem?_getD,List.getElem?_eq_getElem hi,e]; rfl⟩
theorem X8 {α:Type} {l:List α} {i j:Nat} {x d:α} (h:i<l.length):(l.set i x).getD j d=if j=i then x else l.getD j d:=by
  rw [List.getD_eq_getElem?_getD,List.getD_eq_getElem?_getD,List.getElem?_set];by_cases e:i=j
  . subst e; simp [h]
  . rw [if_neg e,if_neg (λ h=>e h.symm)]
theorem eq_of_getD {α:Type} {l m:List α} {d:α} (hl:l.length=m.length) (h:∀ i,i<l.length->l.getD i d=m.getD i d):l=m:=by
  refine List.ext_getElem hl (λ i h1 h2=>?_);have:=h i h1
  rwa [List.getD_eq_getElem?_getD,List.getD_eq_getElem?_getD,List.getElem?_eq_getElem h1,List.getElem?_eq_getElem h2] at this
theorem b2Q {α:Type} {n i:Nat} (f:Nat->α) (x:α) (hi:i<n):((List.range n).map f).set i x=(List.range n).map (λ j=>if j=i then x else f j):=by
  refine List.ext_getElem (by simp) (λ j h1 h2=>?_);rw [List.getElem_set];simp only [List.getElem_map,List.getElem_range];by_cases e:i=j
  . rw [if_pos e,if_pos e.symm]
  . rw [if_neg e,if_neg (λ h=>e h.symm)]
def S8 {α:Type} (p:α->Bool):List α->Nat->Int
  | [],_=>-1
  | x::l,i=>if p x=true then (i:Int) else S8 p l (i+1)
def idxOf {α:Type} (p:α->Bool) (l:List α):Int:=S8 p l 0
theorem a6F {α:Type} {p:α->Bool}:∀ {l:List α} {i:Nat},0<=S8 p l i↔∃ x∈l,p x=true
  | [],i=>by simp [S8]
  | x::l,i=>by
    rw [S8]
    split
    . rename_i h; exact ⟨λ _=>⟨x,by simp,h⟩,λ _=>by omega⟩
    . rename_i h;rw [a6F];constructor
      . rintro ⟨y,h1,h2⟩; exact ⟨y,by simp [h1],h2⟩
      . rintro ⟨y,h1,h2⟩;rcases List.mem_cons.1 h1 with rfl|h1
        . exact absurd h2 h
        . exact ⟨y,h1,h2⟩
theorem b7A {α:Type} {p:α->Bool} {l:List α}:decide (0<=idxOf p l)=l.any p:=by
  cases e:l.any p with
  | true =>
    obtain ⟨x,h1,h2⟩:=List.any_eq_true.1 e;exact decide_eq_true (a6F.2 ⟨x,h1,h2⟩)
  | false =>
    refine decide_eq_false (λ h=>?_);obtain ⟨x,h1,h2⟩:=a6F.1 h;rw [List.any_eq_true.2 ⟨x,h1,h2⟩] at e;cases e
end Go.Proofs.YtijlnmgondibnaaGreatDoor
namespace Go.Proofs.YtijlnmgondibnaaGreatDoor
def step (r:Nat):Nat:=if r % 2=1 then (r / 2) ^^^ 2197175160 else r / 2
theorem c5i {r:Nat} (h:r<4294967296):step r<4294967296:=by
  unfold step
  split
  . exact Nat.xor_lt_two_pow (n:=32) (by omega) (by decide)
  . omega
def steps:Nat->Nat->Nat
  | 0,r=>r
  | k+1,r=>steps k (step r)
theorem a8y:∀ (k:Nat) {r:Nat},r<4294967296->steps k r<4294967296
  | 0,_,h=>h
  | k+1,_,h=>a8y k (c5i h)
theorem b1B:∀ (a b r:Nat),steps (a+b) r=steps b (steps a r)
  | 0,b,r=>by rw [Nat.zero_add]; rfl
  | a+1,b,r=>by rw [show a+1+b=(a+b)+1 by omega]; simp only [steps]; exact b1B a b _
def byt (r b:Nat):Nat:=steps 8 (r ^^^ b)
def reg (r:Nat) (s:List UInt8):Nat:=s.foldl (λ r b=>byt r b.toNat) r
def a1i (s:List UInt8):Nat:=reg 4294967295 s ^^^ 4294967295
theorem c5o (r:Nat) (s t:List UInt8):reg r (s++t)=reg (reg r s) t:=by simp [reg]
theorem c7d {r:Nat} (h:r<4294967296) (b:UInt8):byt r b.toNat<4294967296:=a8y 8 (Nat.xor_lt_two_pow (n:=32) h (by have:=b.toNat_lt; omega))
theorem c1j:∀ {s:List UInt8} {r:Nat},r<4294967296->reg r s<4294967296
  | [],_,h=>h
  | b::s,r,h=>show reg (byt r b.toNat) s<_ from c1j (c7d h b)
def le4 (x:Nat):List UInt8:=[UInt8.ofNat x,UInt8.ofNat (x / 2^8),UInt8.ofNat (x / 2^16),UInt8.ofNat (x / 2^24)]
end Go.Proofs.YtijlnmgondibnaaGreatDoor
namespace Go.Proofs.YtijlnmgondibnaaGreatDoor
open Go.Ex
set_option maxRecDepth 100000
def W4 (n a b:Int):Bool:=decide (a<=n) && decide (n<=b)
theorem Y9 {n a b:Int}:W4 n a b=true↔a<=n/\n<=b:=by simp [W4]
theorem b01 {α:Type} {l:List α} {i j:Int} (h0:0<=i) (h1:i<=j) (h2:j<=(l.length:Int)):n5 j (l.length:Int) l=l.drop j.toNat:=by
  rw [n5]; exact List.take_of_length_le (by rw [List.length_drop]; omega)
theorem b7G {α:Type} {l:List α} {i j:Int} (h0:0<=i) (h1:i<=j) (h2:j<=(l.length:Int)):((n5 j (l.length:Int) l).length:Int)=(l.length:Int) - j/\(List.take i.toNat l++n5 j (l.length:Int) l++List.drop (i.toNat+(n5 j (l.length:Int) l).length) l).length=l.length:=by
  rw [b01 h0 h1 h2];simp only [List.length_append,List.length_take,List.length_drop];omega
theorem c5U {α:Type} {l:List α} {d:List α} {i j:Int} (h0:0<=i) (h1:i<=j) (h2:j<=(l.length:Int)) {r:Nat} :
    n5 (0:Int) (i+(↑(List.length (n5 j (↑(List.length l):Int) l)):Int)) (List.take (Int.toNat ((0:Int)+(i+(↑(List.length (n5 j (↑(List.length l):Int) l)):Int) - (0:Int)))) (List.take (Int.toNat i) l++n5 j (↑(List.length l):Int) l++List.drop (Int.toNat i+List.length (n5 j (↑(List.length l):Int) l)) l)++d++List.drop r (List.take (Int.toNat i) l++n5 j (↑(List.length l):Int) l++List.drop (Int.toNat i+List.length (n5 j (↑(List.length l):Int) l)) l))=List.take i.toNat l++List.drop j.toNat l:=by
  obtain ⟨e1,e2⟩:=b7G h0 h1 h2 (l:=l);rw [b01 h0 h1 h2] at e1 e2 ⊢;generalize hX:List.take i.toNat l++List.drop j.toNat l++List.drop (i.toNat+(List.drop j.toNat l).length) l=X at e2 ⊢;have em:(0+(i+((List.drop j.toNat l).length:Int) - 0)).toNat=(List.take i.toNat l++List.drop j.toNat l).length:=by
    simp only [List.length_append,List.length_take]; omega
  have en:(i+((List.drop j.toNat l).length:Int) - 0).toNat=(List.take i.toNat l++List.drop j.toNat l).length:=by
    simp only [List.length_append,List.length_take]; omega
  rw [n5,em,en,Int.toNat_zero,List.drop_zero,List.append_assoc,List.take_append_of_le_length (by
    rw [List.length_take,e2];simp only [List.length_append,List.length_take,List.length_drop]; omega),List.take_take,Nat.min_self,<- hX,List.take_left]
def rest (a n:Int):Int:=if n<=0 then 0 else Int.tmod (Int.tmod a n+n) n
def b9z:p9:={ ps:=[.v e8,.v e8],rs:=[e8],pre:=λ x=>LE.le (α:=Int) x.2.1 1000000000,fn:=λ x=>(rest x.1 x.2.1,()),out:=λ _=>() }
noncomputable def c0q:Env:={ P:=Tryz.prog,tt:=tt,C0:=[],res:=[Go.ResultVar.tmp 4],rs:=[Ty.int IntKind.i64],ps:=[PK.v e8,PK.v e8],y5:=[],nt:=14 }
theorem b5w:u6 c0q:=w9 q9 trivial
theorem b5b:y7 c0q Tryz.f39:=⟨rfl,rfl⟩
theorem c6h (x0:Int) (x1:Int):exec c0q 1000 [.code (d8 Tryz.prog 39)] (s5 b9z.ps ((x0,x1,()))) =
  cond (decide (x1<=(0:Int))) (.ret (((0:Int),()))) (.f6 ((0:Int)<x1) (.f6 (r7 IntKind.i64 (Int.tmod x0 x1+x1)) (.f6 ((0:Int)<x1) (.ret ((Int.tmod (Int.tmod x0 x1+x1) x1,())))))):=by kernel_rfl
theorem b6x:b9z.Valid Tryz.prog 39:=by
  refine p9.o5 b5w rfl rfl Tryz.func39 (c:=d8 Tryz.prog 39) rfl rfl b5b rfl ?_;rintro ⟨(x0:Int),(x1:Int),⟨⟩⟩ hp -
  refine j5 (n:=1000) b5w b5b ?_;refine g9 (c6h x0 x1) ?_;have hp:x1<=1000000000:=hp;simp only [j6,Tree.holds,true_and,true_implies,decide_eq_true_eq,decide_eq_false_iff_not,Bool.not_eq_true',Bool.not_eq_false',Int.toNat_natCast,j7,List.length_set,List.length_cons,List.length_nil];refine ⟨λ a=>?_,λ a=>?_⟩
  . show ((0,()):Int×Unit)=(rest x0 x1,());rw [rest,if_pos a]
  . have h0:0<x1:=by omega
    have h1:=Int.tmod_lt_of_pos x0 h0;have h2:-x1<Int.tmod x0 x1:=by
      have:=Int.tmod_lt_of_pos (-x0) h0;rw [Int.neg_tmod] at this;omega
    refine ⟨h0,λ _=>⟨by omega,λ _=>⟨h0,λ _=>?_⟩⟩⟩;show ((_,()):Int×Unit)=(rest x0 x1,());rw [rest,if_neg a]
theorem b7i {a n:Int} (h:0<n):0<=rest a n/\rest a n<n:=by
  have h1:=Int.tmod_lt_of_pos (-a) h;rw [Int.neg_tmod] at h1;rw [rest,if_neg (by omega)];exact ⟨Int.tmod_nonneg _ (by omega),Int.tmod_lt_of_pos _ h⟩
theorem c5W {α:Type} {l:List α} {i:Nat}:n5 0 (i:Int) l=l.take i:=by
  rw [n5,show ((i:Int) - 0).toNat=i by omega]; rfl
end Go.Proofs.YtijlnmgondibnaaGreatDoor
namespace Go.Proofs.YtijlnmgondibnaaGreatDoor
open Go.Ex
instance {k:IntKind} {n:Int}:Decidable (r7 k n):=inferInstanceAs (Decidable (_/\_))
def bit (x:Int) (i:Nat):Bool:=x.toNat.testBit i
section
variable {k:IntKind} {x y:Int}
theorem a6E (hk:k.signed=false):r7 k x↔0<=x/\x<2^k.bits:=by
  cases k<;>simp [IntKind.signed] at hk<;>simp [r7,IntKind.min,IntKind.max,IntKind.signed,IntKind.bits]<;>omega
theorem b3s (hk:k.signed=false) (b:BitVec k.bits):k.wrap (b.toNat:Int)=(b.toNat:Int):=by
  refine M1 ((a6E hk).2 ⟨Int.natCast_nonneg _,?_⟩);have:=b.isLt
  exact_mod_cast this
theorem a2G (hk:k.signed=false) (hx:r7 k x) (i:Nat):(BitVec.ofInt k.bits x).getLsbD i=bit x i:=by
  obtain ⟨h0,h1⟩:=(a6E hk).1 hx;obtain ⟨n,rfl⟩:=Int.eq_ofNat_of_zero_le h0;have hn:n<2^k.bits:=by exact_mod_cast h1
  rw [BitVec.ofInt_natCast,BitVec.getLsbD_ofNat];simp only [bit,Int.toNat_natCast];by_cases hi:i<k.bits
  . simp [hi]
  . have:n.testBit i=false:=Nat.testBit_lt_two_pow (Nat.lt_of_lt_of_le hn (Nat.pow_le_pow_right (by omega) (by omega)));simp [this]
theorem c53 (hk:k.signed=false) (hx:r7 k x) {i:Nat} (hi:k.bits<=i):bit x i=false:=by
  obtain ⟨h0,h1⟩:=(a6E hk).1 hx;obtain ⟨n,rfl⟩:=Int.eq_ofNat_of_zero_le h0;have hn:n<2^k.bits:=by exact_mod_cast h1
  exact Nat.testBit_lt_two_pow (Nat.lt_of_lt_of_le hn (Nat.pow_le_pow_right (by omega) hi))
theorem b7N (hk:k.signed=false) (hx:r7 k x) (hy:r7 k y) (i:Nat):bit (U2 k x y) i=(bit x i && bit y i):=by
  rw [U2,b3s hk,bit,Int.toNat_natCast,BitVec.testBit_toNat,BitVec.getLsbD_and,a2G hk hx,a2G hk hy]
theorem c2l (hk:k.signed=false) (hx:r7 k x) (hy:r7 k y) (i:Nat):bit (bOr k x y) i=(bit x i || bit y i):=by
  rw [bOr,b3s hk,bit,Int.toNat_natCast,BitVec.testBit_toNat,BitVec.getLsbD_or,a2G hk hx,a2G hk hy]
theorem c52 (hk:k.signed=false) (hx:r7 k x) (hy:r7 k y) (i:Nat):bit (a1Q k x y) i=(bit x i ^^ bit y i):=by
  rw [a1Q,b3s hk,bit,Int.toNat_natCast,BitVec.testBit_toNat,BitVec.getLsbD_xor,a2G hk hx,a2G hk hy]
theorem b96 (hk:k.signed=false) (hx:r7 k x) (hy:r7 k y) (i:Nat):bit (U6 k x y) i=(bit x i && !bit y i):=by
  rw [U6,b3s hk,bit,Int.toNat_natCast,BitVec.testBit_toNat,BitVec.getLsbD_and,BitVec.getLsbD_not,a2G hk hx,a2G hk hy];by_cases hi:i<k.bits
  . simp [hi]
  . rw [c53 hk hx (by omega)]; simp
theorem c2w:r7 k (U2 k x y):=Q5 _ _
theorem b8S:r7 k (bOr k x y):=Q5 _ _
theorem c6I:r7 k (a1Q k x y):=Q5 _ _
theorem c2x:r7 k (U6 k x y):=Q5 _ _
theorem b4V (hx:0<=x) (hy:0<=y) (h:∀ i,bit x i=bit y i):x=y:=by
  have:x.toNat=y.toNat:=Nat.eq_of_testBit_eq h;omega
end
theorem u8s:IntKind.u8.signed=false:=rfl
theorem u8_in {x:Int}:r7 .u8 x↔0<=x/\x<=255:=Iff.rfl
def c4W (n:Nat):Nat:=((List.range 8).map λ i=>(n.testBit i).toNat).sum
def a14 (m:Int):Int:=(c4W m.toNat:Int)
theorem c5z (m:Int):a14 m=((bit m 0).toNat+(bit m 1).toNat+(bit m 2).toNat+(bit m 3).toNat+(bit m 4).toNat+(bit m 5).toNat+(bit m 6).toNat+(bit m 7).toNat:Nat):=by
  simp only [a14,c4W,List.range,List.range.loop,List.map_cons,List.map_nil,List.sum_cons,List.sum_nil,bit];omega
theorem toNat_le (b:Bool):b.toNat<=1:=by cases b<;>decide
theorem c5y (m:Int):0<=a14 m/\a14 m<=8:=by
  rw [c5z];have:=toNat_le (bit m 0); have:=toNat_le (bit m 1); have:=toNat_le (bit m 2); have:=toNat_le (bit m 3);have:=toNat_le (bit m 4); have:=toNat_le (bit m 5); have:=toNat_le (bit m 6); have:=toNat_le (bit m 7);omega
end Go.Proofs.YtijlnmgondibnaaGreatDoor
namespace Go.Proofs.YtijlnmgondibnaaGreatDoor
open Go.Ex
set_option maxRecDepth 100000
theorem a3n {n:Int}:r7 .u32 n↔0<=n/\n<=4294967295:=Iff.rfl
theorem c4a {k:IntKind} (hk:k.signed=false) {a b:Nat} (ha:r7 k a) (hb:r7 k b):a1Q k (a:Int) (b:Int)=((a ^^^ b:Nat):Int) :=
  b4V ((a6E hk).1 c6I).1 (Int.natCast_nonneg _) (λ i=>by rw [c52 hk ha hb]; simp [bit,Nat.testBit_xor])
theorem c4b {k:IntKind} (hk:k.signed=false) {a b:Nat} (ha:r7 k a) (hb:r7 k b):U2 k (a:Int) (b:Int)=((a &&& b:Nat):Int) :=
  b4V ((a6E hk).1 c2w).1 (Int.natCast_nonneg _) (λ i=>by rw [b7N hk ha hb]; simp [bit,Nat.testBit_and])
theorem b8h {a b:Nat} (ha:a<4294967296) (hb:b<4294967296):a1Q .u32 (a:Int) (b:Int)=((a ^^^ b:Nat):Int):=c4a rfl (a3n.2 ⟨by omega,by omega⟩) (a3n.2 ⟨by omega,by omega⟩)
theorem c7O {a:Nat} (ha:a<4294967296):U2 .u32 (a:Int) 1=((a % 2:Nat):Int):=by
  have:=c4b (k:=.u32) rfl (a:=a) (b:=1) (a3n.2 ⟨by omega,by omega⟩) (a3n.2 ⟨by omega,by omega⟩);rw [Nat.and_one_is_mod] at this;exact this
def b9u:p9:={ ps:=[.v .str],rs:=[.int .u32],pre:=λ _=>True,fn:=λ x=>(((a1i x.1:Nat):Int),()),out:=λ _=>() }
noncomputable def b55:Env:={ P:=Tryz.prog,tt:=tt,C0:=[],res:=[Go.ResultVar.tmp 2],rs:=[Ty.int IntKind.u32],ps:=[PK.v Ty.str],y5:=[(3,[(0,none),(3,none),(7,none),(8,none)]),(7,[(0,none),(3,none),(7,none),(8,none),(17,none)])],nt:=31 }
theorem a7Q:u6 b55:=w9 q9 trivial
theorem a7O:y7 b55 Tryz.f63:=⟨rfl,rfl⟩
theorem c7E (x0:List UInt8):exec b55 1000 [.code (d8 Tryz.prog 63)] (s5 b9u.ps ((x0,()))) =
  .ctL (f9 (d8 Tryz.prog 63) 3) (St.mk [(0,AV.val Ty.str x0),(3,AV.val (Ty.int IntKind.u32) (4294967295:Int)),(7,AV.val e8 (↑(List.length x0):Int)),(8,AV.val e8 (0:Int))] []):=by kernel_rfl
def b8f (v0:List UInt8) (v3:Int) (v7:Int) (v8:Int):St:=St.mk [(0,AV.val Ty.str v0),(3,AV.val (Ty.int IntKind.u32) v3),(7,AV.val e8 v7),(8,AV.val e8 v8)] []
theorem c6G (v0:List UInt8) (v3:Int) (v7:Int) (v8:Int):exec b55 1000 (.code (f9 (d8 Tryz.prog 63) 3).1::.inLoop (f9 (d8 Tryz.prog 63) 3).1::(f9 (d8 Tryz.prog 63) 3).2) (b8f v0 v3 v7 v8) =
  cond (decide (v8<v7)) (.f6 ((0:Int)<=v8/\v8<(↑(List.length v0):Int)) (.ctL (f9 (d8 Tryz.prog 63) 7) (St.mk [(0,AV.val Ty.str v0),(3,AV.val (Ty.int IntKind.u32) (a1Q IntKind.u32 v3 (IntKind.wrap IntKind.u32 (↑(UInt8.toNat (List.getD v0 (Int.toNat v8) (0:UInt8))):Int)))),(7,AV.val e8 v7),(8,AV.val e8 v8),(17,AV.val e8 (0:Int))] []))) (.ret ((a1Q IntKind.u32 (if IntKind.signed IntKind.u32=true then (-1:Int) else IntKind.max IntKind.u32) v3,()))):=by kernel_rfl
def b8e (v0:List UInt8) (v3:Int) (v7:Int) (v8:Int) (v17:Int):St:=St.mk [(0,AV.val Ty.str v0),(3,AV.val (Ty.int IntKind.u32) v3),(7,AV.val e8 v7),(8,AV.val e8 v8),(17,AV.val e8 v17)] []
theorem c6F (v0:List UInt8) (v3:Int) (v7:Int) (v8:Int) (v17:Int):exec b55 1000 (.code (f9 (d8 Tryz.prog 63) 7).1::.inLoop (f9 (d8 Tryz.prog 63) 7).1::(f9 (d8 Tryz.prog 63) 7).2) (b8e v0 v3 v7 v8 v17) =
  cond (decide (v17<(8:Int))) (.f6 ((0:Int)<=(1:Int)) (cond (decide (U2 IntKind.u32 v3 (1:Int)=(1:Int))) (.f6 (r7 IntKind.i64 (v17+(1:Int))) (.ctL (f9 (d8 Tryz.prog 63) 7) (St.mk [(0,AV.val Ty.str v0),(3,AV.val (Ty.int IntKind.u32) (a1Q IntKind.u32 (v3 / (2:Int)^min (Int.toNat (1:Int)) (IntKind.bits IntKind.u32)) (2197175160:Int))),(7,AV.val e8 v7),(8,AV.val e8 v8),(17,AV.val e8 (v17+(1:Int)))] []))) (.f6 (r7 IntKind.i64 (v17+(1:Int))) (.ctL (f9 (d8 Tryz.prog 63) 7) (St.mk [(0,AV.val Ty.str v0),(3,AV.val (Ty.int IntKind.u32) (v3 / (2:Int)^min (Int.toNat (1:Int)) (IntKind.bits IntKind.u32))),(7,AV.val e8 v7),(8,AV.val e8 v8),(17,AV.val e8 (v17+(1:Int)))] []))))) (.f6 (r7 IntKind.i64 (v8+(1:Int))) (.ctL (f9 (d8 Tryz.prog 63) 3) (St.mk [(0,AV.val Ty.str v0),(3,AV.val (Ty.int IntKind.u32) v3),(7,AV.val e8 v7),(8,AV.val e8 (v8+(1:Int)))] []))):=by kernel_rfl
theorem b8C (k r:Nat):steps (k+1) r=step (steps k r):=by rw [b1B k 1]; rfl
theorem c3i {s:List UInt8} {i:Nat} (h:i<s.length) (r:Nat):reg r (s.take (i+1))=steps 8 (reg r (s.take i) ^^^ (s.getD i 0).toNat):=by
  rw [List.take_add_one,List.getElem?_eq_getElem h,c5o,List.getD_eq_getElem?_getD,List.getElem?_eq_getElem h];rfl
theorem a9Y:b9u.Valid Tryz.prog 63:=by
  refine p9.o5 a7Q rfl rfl Tryz.func63 (c:=d8 Tryz.prog 63) rfl rfl a7O rfl ?_;rintro ⟨(s:List UInt8),⟨⟩⟩ - ⟨hl,-⟩;have hl:s.length<=9223372036854775807:=hl;refine j5 (n:=1000) a7Q a7O ?_;refine g9 (c7E s) ?_;refine Reach.K3 a7Q a7O (λ i:Nat=>b8f s ((reg 4294967295 (s.take i):Nat):Int) (s.length:Int) (i:Int)) (λ i=>i<=s.length)
    (λ i=>s.length - i) 1000 (λ i=>⟨s7 rfl,s7 rfl⟩) ?_ 0 (by omega)
  rintro i hi - ih;refine g9 (c6G ..) ?_;simp only [j6,Tree.holds,decide_eq_true_eq,decide_eq_false_iff_not,Int.toNat_natCast];have hr:=c1j (s:=s.take i) (r:=4294967295) (by decide);have hb:(s.getD i 0).toNat<256:=UInt8.toNat_lt _;refine ⟨λ a=>⟨⟨by omega,by omega⟩,λ _=>?_⟩,λ a=>?_⟩
  . have so:reg 4294967295 (s.take i) ^^^ (s.getD i 0).toNat<4294967296:=Nat.xor_lt_two_pow (n:=32) hr (by omega);rw [show IntKind.wrap IntKind.u32 ((s.getD i 0).toNat:Int)=((s.getD i 0).toNat:Int) from M1 (a3n.2 ⟨by omega,by omega⟩),b8h hr (by omega)];refine Reach.K3 a7Q a7O (λ j:Nat=>b8e s ((steps j (reg 4294967295 (s.take i) ^^^ (s.getD i 0).toNat):Nat):Int) (s.length:Int) (i:Int) (j:Int)) (λ j=>j<=8)
      (λ j=>8 - j) 1000 (λ i=>⟨s7 rfl,s7 rfl⟩) ?_ 0 (by omega)
    rintro j hj - ih2;refine g9 (c6F ..) ?_;have hs:=a8y j so;have hn:=b8C j (reg 4294967295 (s.take i) ^^^ (s.getD i 0).toNat);have he:steps 8 (reg 4294967295 (s.take i) ^^^ (s.getD i 0).toNat)=reg 4294967295 (s.take (i+1))\/¬ i<s.length:=by
      by_cases h:i<s.length
      . exact .inl (c3i h _).symm
      . exact .inr h
    generalize hR:steps j (reg 4294967295 (s.take i) ^^^ (s.getD i 0).toNat)=r at *
    have hd:((r:Nat):Int) / 2^min (Int.toNat 1) (IntKind.bits IntKind.u32)=((r / 2:Nat):Int):=by
      show ((r:Nat):Int) / 2^1=_;omega
    rw [hd,c7O hs,show (2197175160:Int)=((2197175160:Nat):Int) from rfl,b8h (by omega) (by decide)];simp only [j6,Tree.holds,decide_eq_true_eq,decide_eq_false_iff_not];have hk:r7 .i64 ((j:Int)+1):=j7.2 ⟨by omega,by omega⟩;refine ⟨λ b=>⟨by decide,λ _=>⟨λ c=>⟨hk,λ _=>?_⟩,λ c=>⟨hk,λ _=>?_⟩⟩⟩,λ b=>⟨j7.2 ⟨by omega,by omega⟩,λ _=>?_⟩⟩
    . have h9:=ih2 (j+1) (by omega) (by omega);rw [hn,step,if_pos (by omega)] at h9;exact h9
    . have h9:=ih2 (j+1) (by omega) (by omega);rw [hn,step,if_neg (by omega)] at h9;exact h9
    . have re:j=8:=by omega
      subst re;rw [hR] at he;have h9:=ih (i+1) (by omega) (by omega);rw [<- he.resolve_right (λ h=>h (by omega))] at h9;exact h9
  . have hi:i=s.length:=by omega
    subst hi;rw [List.take_length] at hr ⊢;show (a1Q .u32 4294967295 ((reg 4294967295 s:Nat):Int),())=(((a1i s:Nat):Int),());rw [show (4294967295:Int)=((4294967295:Nat):Int) from rfl,b8h (by decide) hr,a1i,Nat.xor_comm]
end Go.Proofs.YtijlnmgondibnaaGreatDoor
namespace Go.Proofs.YtijlnmgondibnaaGreatDoor
open Go.Ex
section
variable {α:Type} {p:α->Bool} {d:α}
theorem b4c:∀ {l:List α} {j:Nat},S8 p l j≠-1->∃ k:Nat,S8 p l j=((j+k:Nat):Int)/\k<l.length/\p (l.getD k d)=true/\∀ i,i<k->p (l.getD i d)=false
  | [],_,h=>absurd rfl h
  | y::l,j,h=>by
    by_cases hy:p y=true
    . exact ⟨0,by rw [S8,if_pos hy]; rfl,by simp,hy,λ i hi=>by omega⟩
    . rw [S8,if_neg hy] at h ⊢;obtain ⟨k,h1,h2,h3,h4⟩:=b4c h;refine ⟨k+1,by rw [h1]; congr 1; omega,by simp; omega,h3,λ i hi=>?_⟩;cases i with
      | zero=>simpa using hy
      | succ i=>exact h4 i (by omega)
structure X4 (p:α->Bool) (l m:List α) (i j:Nat):Prop where
  tk:m.take i=(l.take j).filter (λ x=>!p x)
  dr:m.drop j=l.drop j
  len:m.length=l.length
  lt:i<j
  le:j<=l.length
theorem a9s {l:List α} {i:Nat} (h:i<l.length) (d:α):l.take (i+1)=l.take i++[l.getD i d]:=by
  rw [List.getD_eq_getElem?_getD,List.getElem?_eq_getElem h]; simp
theorem b9i:∀ {l:List α},(∀ x∈l,p x=false)->l.filter (λ x=>!p x)=l:=λ h=>List.filter_eq_self.2 (λ x hx=>by rw [h x hx]; rfl)
theorem X4.start (d:α) {l:List α} (h:idxOf p l≠-1):∃ k:Nat,idxOf p l=(k:Int)/\k<l.length/\X4 p l l k (k+1):=by
  obtain ⟨k,h1,h2,h3,h4⟩:=b4c (d:=d) h;refine ⟨k,by rw [idxOf,h1]; congr 1; omega,h2,⟨?_,rfl,rfl,by omega,by omega⟩⟩;rw [a9s h2 d,List.filter_append,b9i]
  . simp only [List.filter_cons,List.filter_nil,h3]; simp
  . intro x hx;obtain ⟨i,hi,rfl⟩:=c3s (d:=d) hx;rw [List.length_take] at hi;have:=h4 i (by omega);rw [List.getD_eq_getElem?_getD,List.getElem?_take,if_pos (by omega),<- List.getD_eq_getElem?_getD];exact this
theorem X4.at_ {l m:List α} {i j:Nat} (h:X4 p l m i j) (d:α):m.getD j d=l.getD j d:=by
  have:=congrArg (λ q:List α=>q.getD 0 d) h.dr;simpa [List.getD_eq_getElem?_getD,List.getElem?_drop] using this
theorem X4.c46 {l m:List α} {i j:Nat} (h:X4 p l m i j):m.drop (j+1)=l.drop (j+1):=by
  rw [<- List.drop_drop,<- List.drop_drop,h.dr]
theorem X4.a8M {l m:List α} {i j:Nat} (h:X4 p l m i j) (hj:j<l.length) (hp:p (m.getD j d)=false):X4 p l (m.set i (m.getD j d)) (i+1) (j+1):=by
  have hl:=h.len;have bo:=h.lt;refine ⟨?_,?_,by rw [List.length_set,hl],by omega,by omega⟩
  . rw [a9s hj d,List.filter_append,<- h.tk,a9s (by rw [List.length_set]; omega) d];rw [h.at_ d] at hp ⊢;congr 1
    . rw [List.take_set_of_le (Nat.le_refl i)]
    . rw [X8 (by omega),if_pos rfl]; generalize l.getD j d=x at hp ⊢; simp [hp]
  . rw [List.drop_set_of_lt (by omega)]; exact h.c46
theorem X4.skip {l m:List α} {i j:Nat} (h:X4 p l m i j) (hj:j<l.length) (hp:p (m.getD j d)=true):X4 p l m i (j+1):=by
  refine ⟨?_,h.c46,h.len,by have:=h.lt; omega,by omega⟩;rw [a9s hj d,List.filter_append,<- h.tk];rw [h.at_ d] at hp;generalize l.getD j d=x at hp ⊢;simp [hp]
theorem X4.fin {l m A B:List α} {i j:Nat} (h:X4 p l m i j) (hj:j=l.length):n5 0 (i:Int) (m.take i++A++B)=l.filter (λ x=>!p x):=by
  have h1:=h.tk;rw [hj,List.take_of_length_le (Nat.le_refl _)] at h1;have hi:(m.take i).length=i:=by rw [List.length_take]; have:=h.len; have:=h.lt; omega
  rw [n5,show ((i:Int) - 0).toNat=i by omega,Int.toNat_zero,List.drop_zero,List.append_assoc,List.take_append_of_le_length (by omega),List.take_of_length_le (by omega),h1]
end
end Go.Proofs.YtijlnmgondibnaaGreatDoor
namespace Go.Proofs.YtijlnmgondibnaaGreatDoor
open Go.Ex
set_option maxRecDepth 100000
theorem a22 {α:Type} {l:List α} {i:Nat} (h:i<l.length) (d:α):l.take (i+1)=l.take i++[l.getD i d]:=by
  rw [List.take_succ_eq_append_getElem h,List.getD_eq_getElem?_getD,List.getElem?_eq_getElem h]; rfl
abbrev y4:=Int×Int×Int×Int×Int×List Int×List UInt8×Unit
def G9 (n a b:Int):Bool:=decide (a<=n) && decide (n<=b)
theorem S7 {n a b:Int}:G9 n a b=true↔a<=n/\n<=b:=by simp [G9]
def b9M:p9:={ ps:=[.v e8,.v e8,.v e8],rs:=[.bool],pre:=λ _=>True,fn:=λ x=>(G9 x.1 x.2.1 x.2.2.1,()),out:=λ _=>() }
noncomputable def c4u:Env:={ P:=Tryz.prog,tt:=tt,C0:=[],res:=[Go.ResultVar.tmp 6],rs:=[Ty.bool],ps:=[PK.v e8,PK.v e8,PK.v e8],y5:=[],nt:=15 }
theorem b8b:u6 c4u:=w9 q9 trivial
theorem b72:y7 c4u Tryz.f80:=⟨rfl,rfl⟩
theorem c7A (x0:Int) (x1:Int) (x2:Int):exec c4u 1000 [.code (d8 Tryz.prog 80)] (s5 b9M.ps ((x0,x1,x2,()))) =
  cond (decide (x1<=x0)) (.ret ((decide (x0<=x2),()))) (.ret ((false,()))):=by kernel_rfl
theorem a97:b9M.Valid Tryz.prog 80:=by
  refine p9.o5 b8b rfl rfl Tryz.func80 (c:=d8 Tryz.prog 80) rfl rfl b72 rfl ?_;rintro ⟨(n:Int),(a:Int),(b:Int),⟨⟩⟩ - -
  refine j5 (n:=1000) b8b b72 ?_;refine g9 (c7A n a b) ?_;simp only [j6,Tree.holds,true_and,true_implies,decide_eq_true_eq,decide_eq_false_iff_not,Bool.not_eq_true',Bool.not_eq_false',Int.toNat_natCast,j7,List.length_set,List.length_cons,List.length_nil];refine ⟨λ c=>?_,λ c=>?_⟩
  . show ((decide _,()):Bool×Unit)=(G9 n a b,()); rw [G9,decide_eq_true c,Bool.true_and]
  . show ((false,()):Bool×Unit)=(G9 n a b,()); rw [G9,decide_eq_false c,Bool.false_and]
def b9H:p9:={ ps:=[.v e8],rs:=[.bool],pre:=λ _=>True,fn:=λ x=>(G9 x.1 0 16777215,()),out:=λ _=>() }
noncomputable def c4o:Env:={ P:=Tryz.prog,tt:=tt,C0:=[(80,b9M)],res:=[Go.ResultVar.tmp 2],rs:=[Ty.bool],ps:=[PK.v e8],y5:=[],nt:=5 }
theorem b78:u6 c4o:=w9 q9 ⟨a97,trivial⟩
theorem b7Z:y7 c4o Tryz.f79:=⟨rfl,rfl⟩
theorem c7x (x0:Int):exec c4o 1000 [.code (d8 Tryz.prog 79)] (s5 b9H.ps ((x0,()))) =
  .f6 (True) (.ret ((G9 x0 (0:Int) (16777215:Int),()))):=by kernel_rfl
theorem a93:b9H.Valid Tryz.prog 79:=by
  refine p9.o5 b78 rfl rfl Tryz.func79 (c:=d8 Tryz.prog 79) rfl rfl b7Z rfl ?_;rintro ⟨(n:Int),⟨⟩⟩ - -
  refine j5 (n:=1000) b78 b7Z ?_;refine g9 (c7x n) ?_;exact ⟨trivial,λ _=>rfl⟩
def Q4 (n:Int):Bool:=!G9 n 0 16777215
def b05:p9:={ ps:=[.v e8,.rd (.fn 79)],rs:=[.bool],pre:=λ x=>Eq (α:=Bool) x.2.1 true,fn:=λ x=>(Q4 x.1,()),out:=λ _=>() }
noncomputable def b1o:Env:={ P:=Tryz.prog,tt:=tt,C0:=[(79,b9H)],res:=[Go.ResultVar.tmp 3],rs:=[Ty.bool],ps:=[PK.v e8,PK.rd (Ty.fn 79)],y5:=[],nt:=8 }
theorem b0w:u6 b1o:=w9 q9 ⟨a93,trivial⟩
theorem b0p:y7 b1o Tryz.f82:=⟨rfl,rfl⟩
theorem c2H (x0:Int) (x1:Bool):exec b1o 1000 [.code (d8 Tryz.prog 82)] (s5 b05.ps ((x0,x1,()))) =
  .f6 (x1=true/\True) (.ret ((!G9 x0 (0:Int) (16777215:Int),()))):=by kernel_rfl
theorem b29:b05.Valid Tryz.prog 82:=by
  refine p9.o5 b0w rfl rfl Tryz.func82 (c:=d8 Tryz.prog 82) rfl rfl b0p rfl ?_;rintro ⟨(n:Int),(b:Bool),⟨⟩⟩ (hp:b=true) -
  refine j5 (n:=1000) b0w b0p ?_;refine g9 (c2H n b) ?_;exact ⟨⟨hp,trivial⟩,λ _=>rfl⟩
def b9O:p9:={ ps:=[.v (.d0 false e8),.B8 82 [.fn 79]],rs:=[e8],pre:=λ x=>Eq (α:=Bool) x.2.1.1 true,fn:=λ x=>(idxOf (Q4) x.1,()),out:=λ _=>() }
noncomputable def b3x:Env:={ P:=Tryz.prog,tt:=tt,C0:=[(82,b05)],res:=[Go.ResultVar.tmp 4],rs:=[Ty.int IntKind.i64],ps:=[PK.v (Ty.d0 false e8),PK.B8 82 [Ty.fn 79]],y5:=[(2,[(0,none),(1,none),(7,none),(8,none)])],nt:=19 }
theorem a9g:u6 b3x:=w9 q9 ⟨b29,trivial⟩
theorem a88:y7 b3x Tryz.f95:=⟨rfl,rfl⟩
theorem c6r (x0:List Int) (x1c0:Bool):exec b3x 1000 [.code (d8 Tryz.prog 95)] (s5 b9O.ps ((x0,(x1c0,()),()))) =
  .ctL (f9 (d8 Tryz.prog 95) 2) (St.mk [(0,AV.val (Ty.d0 false e8) x0),(1,AV.B8 82 (AV.cons (AV.M4 (Ty.fn 79) x1c0) AV.nil)),(7,AV.val e8 (↑(List.length x0):Int)),(8,AV.val e8 (0:Int))] []):=by kernel_rfl
def b5G (v0:List Int) (v1a:Bool) (v7:Int) (v8:Int):St:=St.mk [(0,AV.val (Ty.d0 false e8) v0),(1,AV.B8 82 (AV.cons (AV.M4 (Ty.fn 79) v1a) AV.nil)),(7,AV.val e8 v7),(8,AV.val e8 v8)] []
theorem c4w (v0:List Int) (v1a:Bool) (v7:Int) (v8:Int):exec b3x 1000 (.code (f9 (d8 Tryz.prog 95) 2).1::.inLoop (f9 (d8 Tryz.prog 95) 2).1::(f9 (d8 Tryz.prog 95) 2).2) (b5G v0 v1a v7 v8) =
  cond (decide (v8<v7)) (.f6 ((0:Int)<=v8/\v8<(↑(List.length v0):Int)) (.f6 (v1a=true) (cond (Q4 (List.getD v0 (Int.toNat v8) (0:Int))) (.ret ((v8,()))) (.f6 (r7 IntKind.i64 (v8+(1:Int))) (.ctL (f9 (d8 Tryz.prog 95) 2) (St.mk [(0,AV.val (Ty.d0 false e8) v0),(1,AV.B8 82 (AV.cons (AV.M4 (Ty.fn 79) v1a) AV.nil)),(7,AV.val e8 v7),(8,AV.val e8 (v8+(1:Int)))] [])))))) (.ret (((-1:Int),()))):=by kernel_rfl
theorem b6J:b9O.Valid Tryz.prog 95:=by
  refine p9.o5 a9g rfl rfl Tryz.func95 (c:=d8 Tryz.prog 95) rfl rfl a88 rfl ?_;rintro ⟨(l:List (Int)),⟨(b:Bool),⟨⟩⟩,⟨⟩⟩ hp ⟨⟨hl,-⟩,-⟩;have hl:l.length<=9223372036854775807:=hl;have hp:b=true:=hp;refine j5 (n:=1000) a9g a88 ?_;refine g9 (c6r l b) ?_;refine Reach.K3 a9g a88 (λ i:Nat=>b5G l b (l.length:Int) (i:Int)) (λ i=>i<=l.length/\idxOf (Q4) l=S8 (Q4) (l.drop i) i)
    (λ i=>l.length - i) 1000 (λ _=>⟨s7 rfl,s7 rfl⟩) ?_ 0 ⟨by omega,rfl⟩
  rintro i ⟨k1,k2⟩ - ih;refine g9 (c4w ..) ?_;simp only [j6,Tree.holds,true_and,true_implies,decide_eq_true_eq,decide_eq_false_iff_not,Bool.not_eq_true',Bool.not_eq_false',Int.toNat_natCast,j7,List.length_set,List.length_cons,List.length_nil];refine ⟨λ h=>?_,λ h=>?_⟩
  . rw [a6M (show i<l.length by omega) 0,S8] at k2;refine ⟨by omega,λ _=>⟨hp,λ _=>⟨λ c=>?_,λ c=>⟨by omega,λ _=>ih (i+1) ⟨by omega,?_⟩ (by omega)⟩⟩⟩⟩
    . show (((i:Int),()):Int×Unit)=(idxOf (Q4) l,());rw [k2,if_pos (show (Q4) (l.getD i 0)=true from c)]
    . rw [k2,if_neg (show ¬ (Q4) (l.getD i 0)=true from λ h9=>Bool.noConfusion (Eq.trans (Eq.symm h9) c))]
  . rw [List.drop_eq_nil_of_le (by omega)] at k2;show (((-1:Int),()):Int×Unit)=(idxOf (Q4) l,());rw [k2]; rfl
def b4L:p9:={ ps:=[.v (.d0 false e8),.B8 82 [.fn 79]],rs:=[.bool],pre:=λ x=>Eq (α:=Bool) x.2.1.1 true,fn:=λ x=>(List.any (α:=Int) x.1 (Q4),()),out:=λ _=>() }
noncomputable def b51:Env:={ P:=Tryz.prog,tt:=tt,C0:=[(95,b9O)],res:=[Go.ResultVar.tmp 4],rs:=[Ty.bool],ps:=[PK.v (Ty.d0 false e8),PK.B8 82 [Ty.fn 79]],y5:=[],nt:=9 }
theorem b2N:u6 b51:=w9 q9 ⟨b6J,trivial⟩
theorem b2A:y7 b51 Tryz.f81:=⟨rfl,rfl⟩
theorem c4I (x0:List Int) (x1c0:Bool):exec b51 1000 [.code (d8 Tryz.prog 81)] (s5 b4L.ps ((x0,(x1c0,()),()))) =
  .f6 (x1c0=true) (.ret ((decide ((0:Int)<=idxOf Q4 x0),()))):=by kernel_rfl
theorem b4K:b4L.Valid Tryz.prog 81:=by
  refine p9.o5 b2N rfl rfl Tryz.func81 (c:=d8 Tryz.prog 81) rfl rfl b2A rfl ?_;rintro ⟨(l:List (Int)),⟨(b:Bool),⟨⟩⟩,⟨⟩⟩ hp -
  refine j5 (n:=1000) b2N b2A ?_;refine g9 (c4I l b) ?_;refine ⟨hp,λ _=>?_⟩;show ((decide (0<=idxOf (Q4) l),()):Bool×Unit)=(l.any (Q4),());rw [b7A]
def a0j (n:y4):Bool:=G9 n.1 0 255 && G9 n.2.1 0 5 && G9 n.2.2.1 0 5 && G9 n.2.2.2.1 0 16777215 && G9 n.2.2.2.2.1 0 16777215
def G2 (n:y4):Int :=
  if a0j n=false then 1 else if n.2.2.2.2.2.1.any Q4=true then 1 else if 200<n.2.2.2.2.2.2.1.length then 2 else 0
def a7H:p9:={ ps:=[.v b1h],rs:=[e8],pre:=λ _=>True,fn:=λ x=>(G2 x.1,()),out:=λ _=>() }
noncomputable def b1l:Env:={ P:=Tryz.prog,tt:=tt,C0:=[(80,b9M),(79,b9H),(81,b4L)],res:=[Go.ResultVar.tmp 2],rs:=[Ty.int IntKind.i64],ps:=[PK.v (Ty.pair e8 (Ty.pair e8 (Ty.pair e8 (Ty.pair e8 (Ty.pair e8 (Ty.pair V9 (Ty.pair Ty.str Ty.unit)))))))],y5:=[],nt:=45 }
theorem b0t:u6 b1l:=w9 q9 ⟨a97,a93,b4K,trivial⟩
theorem b0n:y7 b1l Tryz.f65:=⟨rfl,rfl⟩
theorem c2D (aN:Int) (ab:Int) (ae:Int) (aa:Int) (bd:Int) (aV:List Int) (bg:List UInt8):exec b1l 1000 [.code (d8 Tryz.prog 65)] (s5 a7H.ps (((aN,ab,ae,aa,bd,aV,bg,()),()))) =
  .f6 (True) (cond (!G9 aN (0:Int) (255:Int)) (.ret (((1:Int),()))) (.f6 (True) (cond (!G9 ab (0:Int) (5:Int)) (.ret (((1:Int),()))) (.f6 (True) (cond (!G9 ae (0:Int) (5:Int)) (.ret (((1:Int),()))) (.f6 (true=true/\True) (cond (!G9 aa (0:Int) (16777215:Int)) (.ret (((1:Int),()))) (.f6 (true=true/\True) (cond (!G9 bd (0:Int) (16777215:Int)) (.ret (((1:Int),()))) (.f6 ((0:Int)<=(0:Int)/\(0:Int)<=(↑6:Int)/\(↑6:Int)<=(↑6:Int)) (.f6 (true=true) (cond (List.any (n5 (0:Int) (↑6:Int) aV) Q4) (.ret (((1:Int),()))) (cond (decide ((200:Int)<(↑(List.length bg):Int))) (.ret (((2:Int),()))) (.ret (((0:Int),())))))))))))))))):=by kernel_rfl
theorem b7I {α:Type} {l:List α} {n:Nat} (h:l.length=n):n5 0 (n:Int) l=l:=by subst h; simp [n5]
theorem a6d:a7H.Valid Tryz.prog 65:=by
  refine p9.o5 b0t rfl rfl Tryz.func65 (c:=d8 Tryz.prog 65) rfl rfl b0n rfl ?_;rintro ⟨⟨(a:Int),(b:Int),(c:Int),(d:Int),(e:Int),(v:List Int),(t:List UInt8),⟨⟩⟩,⟨⟩⟩ - ⟨⟨-,-,-,-,-,⟨hv,-⟩,-⟩,-⟩;have hv:v.length=6:=hv;refine j5 (n:=1000) b0t b0n ?_;refine g9 (c2D a b c d e v t) ?_;have hc:n5 0 6 v=v:=b7I hv;have bad:a0j (a,b,c,d,e,v,t,())=false->(((1:Int),()):Int×Unit)=(G2 (a,b,c,d,e,v,t,()),()):=λ h=>by rw [G2,if_pos h]
  simp only [j6,Tree.holds,true_and,true_implies,decide_eq_true_eq,decide_eq_false_iff_not,Bool.not_eq_true',Bool.not_eq_false',Int.toNat_natCast,j7,List.length_set,List.length_cons,List.length_nil,hc];refine ⟨λ h=>bad (by simp [a0j,h]),λ h1=>⟨λ h=>bad (by simp [a0j,h]),λ h2=>⟨λ h=>bad (by simp [a0j,h]),λ h3=>⟨λ h=>bad (by simp [a0j,h]),λ h4=>⟨λ h=>bad (by simp [a0j,h]),λ h5=>⟨by omega,λ _=>⟨λ h=>?_,λ h6=>⟨λ h=>?_,λ h=>?_⟩⟩⟩⟩⟩⟩⟩⟩
  all_goals have hw:a0j (a,b,c,d,e,v,t,())≠false:=by simp [a0j,h1,h2,h3,h4,h5]
  . show (((1:Int),()):Int×Unit)=(G2 (a,b,c,d,e,v,t,()),());rw [G2,if_neg hw,if_pos h]
  . show (((2:Int),()):Int×Unit)=(G2 (a,b,c,d,e,v,t,()),());rw [G2,if_neg hw,if_neg (λ h9=>Bool.noConfusion (Eq.trans (Eq.symm h9) h6)),if_pos (by show 200<t.length; omega)]
  . show (((0:Int),()):Int×Unit)=(G2 (a,b,c,d,e,v,t,()),());rw [G2,if_neg hw,if_neg (λ h9=>Bool.noConfusion (Eq.trans (Eq.symm h9) h6)),if_neg (by show ¬ 200<t.length; omega)]
structure b49 (n:y4):Prop where
  kind:0<=n.1/\n.1<=255
  from_:0<=n.2.1/\n.2.1<=5
  to:0<=n.2.2.1/\n.2.2.1<=5
  view:0<=n.2.2.2.1/\n.2.2.2.1<=16777215
  seq:0<=n.2.2.2.2.1/\n.2.2.2.2.1<=16777215
  at_:∀ x∈n.2.2.2.2.2.1,0<=x/\x<=16777215
  text:n.2.2.2.2.2.2.1.length<=200
theorem a6h {n:y4} (h:G2 n=0):b49 n:=by
  unfold G2 at h;split at h
  . cases h
  split at h
  . cases h
  split at h
  . cases h
  . rename_i h1 h2 h3;have h1:a0j n=true:=by cases e:a0j n with|true=>rfl|false=>exact absurd e h1
    simp only [a0j,Bool.and_eq_true,S7] at h1;obtain ⟨⟨⟨⟨a,b⟩,c⟩,d⟩,e⟩:=h1;refine ⟨a,b,c,d,e,λ x hx=>?_,by omega⟩;have h2:n.2.2.2.2.2.1.any Q4=false:=by cases e:n.2.2.2.2.2.1.any Q4 with|false=>rfl|true=>exact absurd e h2
    have:=List.any_eq_false.1 h2 x hx;rw [Q4,Bool.not_eq_true,Bool.not_eq_false'] at this;exact S7.1 this
def R5 (n:Int):List Int:=[IntKind.wrap .u8 n,IntKind.wrap .u8 (n / 256),IntKind.wrap .u8 (n / 65536)]
def a9X:p9:={ ps:=[.v e8],rs:=[.d0 true (.int .u8)],pre:=λ _=>True,fn:=λ x=>(R5 x.1,()),out:=λ _=>() }
noncomputable def b5u:Env:={ P:=Tryz.prog,tt:=tt,C0:=[],res:=[Go.ResultVar.tmp 2],rs:=[Ty.d0 true U8],ps:=[PK.v e8],y5:=[],nt:=12 }
theorem b2C:u6 b5u:=w9 q9 trivial
theorem b2q:y7 b5u Tryz.f77:=⟨rfl,rfl⟩
theorem c4i (x0:Int):exec b5u 1000 [.code (d8 Tryz.prog 77)] (s5 a9X.ps ((x0,()))) =
  .f6 ((0:Int)<=(8:Int)) (.f6 ((0:Int)<=(16:Int)) (.ret ((List.set (List.set (List.set [(0:Int),(0:Int),(0:Int)] (Int.toNat (↑0:Int)) (IntKind.wrap IntKind.u8 x0)) (Int.toNat (↑1:Int)) (IntKind.wrap IntKind.u8 (x0 / (2:Int)^min (Int.toNat (8:Int)) (IntKind.bits IntKind.i64)))) (Int.toNat (↑2:Int)) (IntKind.wrap IntKind.u8 (x0 / (2:Int)^min (Int.toNat (16:Int)) (IntKind.bits IntKind.i64))),())))):=by kernel_rfl
theorem a6V:a9X.Valid Tryz.prog 77:=by
  refine p9.o5 b2C rfl rfl Tryz.func77 (c:=d8 Tryz.prog 77) rfl rfl b2q rfl ?_;rintro ⟨(n:Int),⟨⟩⟩ - -
  refine j5 (n:=1000) b2C b2q ?_;refine g9 (c4i n) ?_;exact ⟨Int.le.intro 8 rfl,λ _=>⟨Int.le.intro 16 rfl,λ _=>rfl⟩⟩
def a2Q (x:Nat):List Int:=(le4 x).map (λ b=>(b.toNat:Int))
theorem a44 (x:Nat):(UInt8.ofNat x).toNat=x % 256:=by simp
theorem c5M (x:Nat):a2Q x=[(x:Int) % 256,(x:Int) / 256 % 256,(x:Int) / 65536 % 256,(x:Int) / 16777216 % 256]:=by
  simp only [a2Q,le4,List.map_cons,List.map_nil,a44];simp only [List.cons.injEq,and_true];refine ⟨by omega,by omega,by omega,by omega⟩
theorem c07 (n:Int):R5 n=[n % 256,n / 256 % 256,n / 65536 % 256]:=rfl
def b3r:p9:={ ps:=[.v (.int .u32)],rs:=[.d0 true (.int .u8)],pre:=λ _=>True,fn:=λ x=>(a2Q (Int.toNat x.1),()),out:=λ _=>() }
noncomputable def c0O:Env:={ P:=Tryz.prog,tt:=tt,C0:=[(77,a9X)],res:=[Go.ResultVar.tmp 2],rs:=[Ty.d0 true U8],ps:=[PK.v (Ty.int IntKind.u32)],y5:=[],nt:=11 }
theorem b5W:u6 c0O:=w9 q9 ⟨a6V,trivial⟩
theorem b5p:y7 c0O Tryz.f62:=⟨rfl,rfl⟩
theorem c6z (x0:Int):exec c0O 1000 [.code (d8 Tryz.prog 62)] (s5 b3r.ps ((x0,()))) =
  .f6 (True) (.f6 ((0:Int)<=(24:Int)) (.f6 (List.length (R5 (IntKind.wrap IntKind.i64 x0))+List.length (List.set [(0:Int)] (Int.toNat (↑0:Int)) (IntKind.wrap IntKind.u8 (x0 / (2:Int)^min (Int.toNat (24:Int)) (IntKind.bits IntKind.u32))))<=140737488355328/\(List.length (R5 (IntKind.wrap IntKind.i64 x0))+List.length (List.set [(0:Int)] (Int.toNat (↑0:Int)) (IntKind.wrap IntKind.u8 (x0 / (2:Int)^min (Int.toNat (24:Int)) (IntKind.bits IntKind.u32)))))*Ty.wb U8<=140737488355328) (.ret ((R5 (IntKind.wrap IntKind.i64 x0)++List.set [(0:Int)] (Int.toNat (↑0:Int)) (IntKind.wrap IntKind.u8 (x0 / (2:Int)^min (Int.toNat (24:Int)) (IntKind.bits IntKind.u32))),()))))):=by kernel_rfl
theorem a8i:b3r.Valid Tryz.prog 62:=by
  refine p9.o5 b5W rfl rfl Tryz.func62 (c:=d8 Tryz.prog 62) rfl rfl b5p rfl ?_;rintro ⟨(n:Int),⟨⟩⟩ - ⟨hr,-⟩;have hr:0<=n/\n<=4294967295:=a3n.1 hr;refine j5 (n:=1000) b5W b5p ?_;refine g9 (c6z n) ?_;have hw:IntKind.wrap .i64 n=n:=M1 (j7.2 ⟨by omega,by omega⟩);simp only [j6,Tree.holds,true_and,true_implies,decide_eq_true_eq,decide_eq_false_iff_not,Bool.not_eq_true',Bool.not_eq_false',Int.toNat_natCast,j7,List.length_set,List.length_cons,List.length_nil,hw,b8i,c07];refine ⟨by omega,λ _=>⟨by omega,λ _=>?_⟩⟩;obtain ⟨x,rfl⟩:=Int.eq_ofNat_of_zero_le hr.1;show (([(x:Int) % 256,(x:Int) / 256 % 256,(x:Int) / 65536 % 256,(x:Int) / 16777216 % 256],()):List Int×Unit)=(a2Q (Int.toNat (x:Int)),());rw [Int.toNat_natCast,c5M]
def a2n (l:List Int):List UInt8:=l.map (λ n=>UInt8.ofNat n.toNat)
theorem a5L (t:List UInt8):a2n (t.map (λ b=>(b.toNat:Int)))=t:=by
  rw [a2n,List.map_map];have:((λ n:Int=>UInt8.ofNat n.toNat) ∘ λ b:UInt8=>(b.toNat:Int))=id:=by
    funext b
    simp
  rw [this,List.map_id]
theorem a4c (l m:List Int):a2n (l++m)=a2n l++a2n m:=List.map_append
def a9S (n:y4):List Int:=[IntKind.wrap .u8 n.1,IntKind.wrap .u8 n.2.1,IntKind.wrap .u8 n.2.2.1]
def W8 (n:y4):List Int:=n.2.2.2.1::n.2.2.2.2.1::n.2.2.2.2.2.1
def a5N (n:y4):List Int:=a9S n++(W8 n).flatMap R5++n.2.2.2.2.2.2.1.map (λ b=>(b.toNat:Int))
def a0X (n:y4):List UInt8:=a2n (a5N n)
def Y4 (n:y4):List UInt8:=a0X n++le4 (a1i (a0X n))
def Q9 (n:y4):List UInt8×Int×Unit:=if G2 n≠0 then ([],G2 n,()) else (Y4 n,0,())
def b9D:p9:={ ps:=[.v b1h],rs:=[.str,e8],pre:=λ _=>True,fn:=λ x=>Q9 x.1,out:=λ _=>() }
noncomputable def b0v:Env:={ P:=Tryz.prog,tt:=tt,C0:=[(65,a7H),(77,a9X),(62,b3r),(63,b9u)],res:=[Go.ResultVar.tmp 2,Go.ResultVar.tmp 3],rs:=[Ty.str,Ty.int IntKind.i64],ps:=[PK.v (Ty.pair e8 (Ty.pair e8 (Ty.pair e8 (Ty.pair e8 (Ty.pair e8 (Ty.pair V9 (Ty.pair Ty.str Ty.unit)))))))],y5:=[(6,[(1,none),(5,some (Ty.d0 true U8)),(30,some Is),(31,none),(32,none)])],nt:=52 }
theorem a9d:u6 b0v:=w9 q9 ⟨a6d,a6V,a8i,a9Y,trivial⟩
theorem a86:y7 b0v Tryz.f60:=⟨rfl,rfl⟩
theorem c6k (aN:Int) (ab:Int) (ae:Int) (aa:Int) (bd:Int) (aV:List Int) (bg:List UInt8):exec b0v 1000 [.code (d8 Tryz.prog 60)] (s5 b9D.ps (((aN,ab,ae,aa,bd,aV,bg,()),()))) =
  .f6 (True) (cond (decide (G2 (aN,ab,ae,aa,bd,aV,bg,())≠(0:Int))) (.ret ((Array.toList (ByteArray.data (ByteArray.mk #[])),G2 (aN,ab,ae,aa,bd,aV,bg,()),()))) (.f6 ((0:Int)<=(0:Int)/\(0:Int)<=(↑6:Int)/\(↑6:Int)<=(↑6:Int)) (.f6 (List.length (List.set (List.set [(0:Int),(0:Int)] (Int.toNat (↑0:Int)) aa) (Int.toNat (↑1:Int)) bd)+List.length (n5 (0:Int) (↑6:Int) aV)<=140737488355328/\(List.length (List.set (List.set [(0:Int),(0:Int)] (Int.toNat (↑0:Int)) aa) (Int.toNat (↑1:Int)) bd)+List.length (n5 (0:Int) (↑6:Int) aV))*Ty.wb e8<=140737488355328) (.ctL (f9 (d8 Tryz.prog 60) 6) (St.mk [(1,AV.ptr 1 []),(5,AV.at_ 1000005 []),(30,AV.at_ 1000030 []),(31,AV.val e8 (↑(List.length (List.set (List.set [(0:Int),(0:Int)] (Int.toNat (↑0:Int)) aa) (Int.toNat (↑1:Int)) bd++n5 (0:Int) (↑6:Int) aV)):Int)),(32,AV.val e8 (0:Int))] [(1,g8.var (Ty.pair e8 (Ty.pair e8 (Ty.pair e8 (Ty.pair e8 (Ty.pair e8 (Ty.pair V9 (Ty.pair Ty.str Ty.unit))))))) (aN,ab,ae,aa,bd,aV,bg,())),(1000005,g8.own (Ty.d0 true U8) (List.set (List.set (List.set [(0:Int),(0:Int),(0:Int)] (Int.toNat (↑0:Int)) (IntKind.wrap IntKind.u8 aN)) (Int.toNat (↑1:Int)) (IntKind.wrap IntKind.u8 ab)) (Int.toNat (↑2:Int)) (IntKind.wrap IntKind.u8 ae))),(1000030,g8.own Is (List.set (List.set [(0:Int),(0:Int)] (Int.toNat (↑0:Int)) aa) (Int.toNat (↑1:Int)) bd++n5 (0:Int) (↑6:Int) aV))]))))):=by kernel_rfl
def a9c (v31:Int) (v32:Int) (dU:Int) (cL:Int) (du:Int) (cK:Int) (cm:Int) (bQ:List Int) (aL:List UInt8) (cw:List Int) (dE:List Int):St:=St.mk [(1,AV.ptr 1 []),(5,AV.at_ 1000005 []),(30,AV.at_ 1000030 []),(31,AV.val e8 v31),(32,AV.val e8 v32)] [(1,g8.var (Ty.pair e8 (Ty.pair e8 (Ty.pair e8 (Ty.pair e8 (Ty.pair e8 (Ty.pair V9 (Ty.pair Ty.str Ty.unit))))))) (dU,cL,du,cK,cm,bQ,aL,())),(1000005,g8.own (Ty.d0 true U8) cw),(1000030,g8.own Is dE)]
theorem c4n (v31:Int) (v32:Int) (dU:Int) (cL:Int) (du:Int) (cK:Int) (cm:Int) (bQ:List Int) (aL:List UInt8) (cw:List Int) (dE:List Int):exec b0v 1000 (.code (f9 (d8 Tryz.prog 60) 6).1::.inLoop (f9 (d8 Tryz.prog 60) 6).1::(f9 (d8 Tryz.prog 60) 6).2) (a9c v31 v32 dU cL du cK cm bQ aL cw dE) =
  cond (decide (v32<v31)) (.f6 ((0:Int)<=v32/\v32<(↑(List.length dE):Int)) (.f6 (True) (.f6 (List.length cw+List.length (R5 (List.getD dE (Int.toNat v32) (0:Int)))<=140737488355328/\(List.length cw+List.length (R5 (List.getD dE (Int.toNat v32) (0:Int))))*Ty.wb U8<=140737488355328) (.f6 (r7 IntKind.i64 (v32+(1:Int))) (.ctL (f9 (d8 Tryz.prog 60) 6) (St.mk [(1,AV.ptr 1 []),(5,AV.at_ 1000005 []),(30,AV.at_ 1000030 []),(31,AV.val e8 v31),(32,AV.val e8 (v32+(1:Int)))] [(1,g8.var (Ty.pair e8 (Ty.pair e8 (Ty.pair e8 (Ty.pair e8 (Ty.pair e8 (Ty.pair V9 (Ty.pair Ty.str Ty.unit))))))) (dU,cL,du,cK,cm,bQ,aL,())),(1000005,g8.own (Ty.d0 true U8) (cw++R5 (List.getD dE (Int.toNat v32) (0:Int)))),(1000030,g8.own Is dE)])))))) (.f6 (List.length cw+List.length (List.map (λ b=>(↑(UInt8.toNat b):Int)) aL)<=140737488355328/\(List.length cw+List.length (List.map (λ b=>(↑(UInt8.toNat b):Int)) aL))*Ty.wb U8<=140737488355328) (.f6 (True) (.f6 (True) (.f6 (List.length (cw++List.map (λ b=>(↑(UInt8.toNat b):Int)) aL)+List.length (a2Q (Int.toNat (↑(a1i (List.map (λ n=>UInt8.ofNat (Int.toNat n)) (cw++List.map (λ b=>(↑(UInt8.toNat b):Int)) aL))):Int)))<=140737488355328/\(List.length (cw++List.map (λ b=>(↑(UInt8.toNat b):Int)) aL)+List.length (a2Q (Int.toNat (↑(a1i (List.map (λ n=>UInt8.ofNat (Int.toNat n)) (cw++List.map (λ b=>(↑(UInt8.toNat b):Int)) aL))):Int))))*Ty.wb U8<=140737488355328) (.ret ((List.map (λ n=>UInt8.ofNat (Int.toNat n)) (cw++List.map (λ b=>(↑(UInt8.toNat b):Int)) aL++a2Q (Int.toNat (↑(a1i (List.map (λ n=>UInt8.ofNat (Int.toNat n)) (cw++List.map (λ b=>(↑(UInt8.toNat b):Int)) aL))):Int))),(0:Int),()))))))):=by kernel_rfl
theorem b1z (l:List Int):(l.flatMap R5).length=3*l.length:=by
  induction l with
  | nil=>rfl
  | cons x l ih=>rw [List.flatMap_cons,List.length_append,ih,R5]; simp; omega
theorem b6A:b9D.Valid Tryz.prog 60:=by
  refine p9.o5 a9d rfl rfl Tryz.func60 (c:=d8 Tryz.prog 60) rfl rfl a86 rfl ?_;rintro ⟨⟨(a:Int),(b:Int),(c:Int),(d:Int),(e:Int),(v:List Int),(t:List UInt8),⟨⟩⟩,⟨⟩⟩ - ⟨⟨-,-,-,-,-,⟨hv,-⟩,-⟩,-⟩;have hv:v.length=6:=hv;obtain ⟨n,hn⟩:∃ n:y4,n=(a,b,c,d,e,v,t,()):=⟨_,rfl⟩;refine j5 (n:=1000) a9d a86 ?_;refine g9 (c6k a b c d e v t) ?_;have hc:n5 0 6 v=v:=b7I hv;have h0:List.set (List.set [(0:Int),0] (Int.toNat ((0:Nat):Int)) d) (Int.toNat ((1:Nat):Int)) e++v=W8 n:=by rw [hn]; rfl
  have sV:∀ m:List Int,List.set (List.set [(0:Int),0] (Int.toNat 0) d) (Int.toNat 1) e++m=d::e::m:=λ m=>rfl;rw [<- hn];have e6:n5 0 6 v=v:=hc;simp only [j6,Tree.holds,true_and,true_implies,decide_eq_true_eq,decide_eq_false_iff_not,Bool.not_eq_true',Bool.not_eq_false',Int.toNat_natCast,j7,List.length_set,List.length_cons,List.length_nil,hc,b8i,c6K];refine ⟨λ h=>?_,λ h=>⟨by omega,λ _=>⟨by omega,λ _=>?_⟩⟩⟩
  . show (([],G2 n,()):List UInt8×Int×Unit)=Q9 n;rw [Q9,if_pos h]
  have aP:=a6h (n:=n) (by omega);have ht:t.length<=200:=by have:=aP.text; rw [hn] at this; exact this
  have jb:(W8 n).length=8:=by rw [hn]; show (d::e::v).length=8; simp [hv]
  suffices go:Go.Ex.Reach b0v Tryz.f60 (Q9 n) () (.code (f9 (d8 Tryz.prog 60) 6).1::.inLoop (f9 (d8 Tryz.prog 60) 6).1::(f9 (d8 Tryz.prog 60) 6).2) (a9c ((W8 n).length:Int) ((0:Nat):Int) a b c d e v t (a9S n++((W8 n).take 0).flatMap R5) (W8 n)) by
    subst hn;exact go
  refine Reach.K3 a9d a86 (λ i:Nat=>a9c ((W8 n).length:Int) (i:Int) a b c d e v t (a9S n++((W8 n).take i).flatMap R5) (W8 n)) (λ i=>i<=(W8 n).length)
    (λ i=>(W8 n).length - i) 1000 (λ _=>⟨s7 rfl,s7 rfl⟩) ?_ 0 (Nat.zero_le _)
  . rintro i k1 - ih;have k1:i<=(W8 n).length:=k1;refine g9 (c4n ..) ?_;have hl:(a9S n++((W8 n).take i).flatMap R5).length=3+3*i:=by
      rw [List.length_append,b1z,List.length_take];show 3+_=_;omega
    have qU:∀ x,(R5 x).length=3:=λ _=>rfl;simp only [j6,Tree.holds,true_and,true_implies,decide_eq_true_eq,decide_eq_false_iff_not,Bool.not_eq_true',Bool.not_eq_false',Int.toNat_natCast,j7,List.length_set,List.length_cons,List.length_nil,b8i,hl,qU];refine ⟨λ c1=>⟨by omega,λ _=>⟨by omega,λ _=>⟨by omega,λ _=>?_⟩⟩⟩,λ c1=>?_⟩
    . have:=ih (i+1) (by show i+1<=(W8 n).length; omega) (by omega);rw [a22 (show i<(W8 n).length by omega) 0,List.flatMap_append,<- List.append_assoc] at this;simp only [List.flatMap_cons,List.flatMap_nil,List.append_nil] at this;exact this
    . rw [List.take_of_length_le (by omega)] at hl ⊢;have hb:a9S n++(W8 n).flatMap R5++List.map (λ b:UInt8=>(b.toNat:Int)) t=a5N n:=by rw [a5N,hn]
      have bI:(a5N n).length=27+t.length:=by rw [<- hb,List.length_append,hl,List.length_map]; omega
      have h4:∀ x,(a2Q x).length=4:=λ _=>rfl;rw [hb];simp only [j6,Tree.holds,true_and,true_implies,decide_eq_true_eq,decide_eq_false_iff_not,Bool.not_eq_true',Bool.not_eq_false',Int.toNat_natCast,j7,List.length_set,List.length_cons,List.length_nil,bI,h4,List.length_map];refine ⟨by omega,λ _=>⟨by omega,λ _=>?_⟩⟩;show ((a2n (a5N n++a2Q (a1i (a2n (a5N n)))),0,()):List UInt8×Int×Unit)=Q9 n;rw [Q9,if_neg h,a4c,Y4,a2Q,a5L];rfl
def a2b (s:List UInt8) (i:Nat):Int:=((s.getD i 0).toNat:Int)
def Y7 (s:List UInt8) (k:Nat):Int:=a2b s (3+3*k)+a2b s (4+3*k)*256+a2b s (5+3*k)*65536
def b9G:p9:={ ps:=[.v e8,.rd .str],rs:=[e8],pre:=λ x=>LE.le (α:=Int) 0 x.1/\LT.lt (α:=Int) (5+3*(show Int from x.1)) (List.length x.2.1),fn:=λ x=>(Y7 x.2.1 (Int.toNat x.1),()),out:=λ _=>() }
noncomputable def c0u:Env:={ P:=Tryz.prog,tt:=tt,C0:=[],res:=[Go.ResultVar.tmp 3],rs:=[Ty.int IntKind.i64],ps:=[PK.v e8,PK.rd Ty.str],y5:=[],nt:=26 }
theorem b5z:u6 c0u:=w9 q9 trivial
theorem b5e:y7 c0u Tryz.f64:=⟨rfl,rfl⟩
theorem c6m (x0:Int) (x1:List UInt8):exec c0u 1000 [.code (d8 Tryz.prog 64)] (s5 b9G.ps ((x0,x1,()))) =
  .f6 (r7 IntKind.i64 ((3:Int)*x0)) (.f6 (r7 IntKind.i64 ((3:Int)+(3:Int)*x0)) (.f6 ((0:Int)<=(3:Int)+(3:Int)*x0/\(3:Int)+(3:Int)*x0<(↑(List.length x1):Int)) (.f6 (r7 IntKind.i64 ((3:Int)+(3:Int)*x0+(1:Int))) (.f6 ((0:Int)<=(3:Int)+(3:Int)*x0+(1:Int)/\(3:Int)+(3:Int)*x0+(1:Int)<(↑(List.length x1):Int)) (.f6 ((0:Int)<=(8:Int)) (.f6 (r7 IntKind.i64 ((3:Int)+(3:Int)*x0+(2:Int))) (.f6 ((0:Int)<=(3:Int)+(3:Int)*x0+(2:Int)/\(3:Int)+(3:Int)*x0+(2:Int)<(↑(List.length x1):Int)) (.f6 ((0:Int)<=(16:Int)) (.ret ((bOr IntKind.i64 (bOr IntKind.i64 (IntKind.wrap IntKind.i64 (↑(UInt8.toNat (List.getD x1 (Int.toNat ((3:Int)+(3:Int)*x0)) (0:UInt8))):Int)) (IntKind.wrap IntKind.i64 (IntKind.wrap IntKind.i64 (↑(UInt8.toNat (List.getD x1 (Int.toNat ((3:Int)+(3:Int)*x0+(1:Int))) (0:UInt8))):Int)*(2:Int)^min (Int.toNat (8:Int)) (IntKind.bits IntKind.i64)))) (IntKind.wrap IntKind.i64 (IntKind.wrap IntKind.i64 (↑(UInt8.toNat (List.getD x1 (Int.toNat ((3:Int)+(3:Int)*x0+(2:Int))) (0:UInt8))):Int)*(2:Int)^min (Int.toNat (16:Int)) (IntKind.bits IntKind.i64))),()))))))))))):=by kernel_rfl
theorem c6W {x y:Nat} (hx:x<9223372036854775808) (hy:y<9223372036854775808):bOr .i64 (x:Int) (y:Int)=((x ||| y:Nat):Int):=by
  unfold bOr;have e1:(BitVec.ofInt (IntKind.bits .i64) (x:Int) ||| BitVec.ofInt (IntKind.bits .i64) (y:Int)).toNat=x ||| y:=by
    show (BitVec.ofInt 64 (x:Int) ||| BitVec.ofInt 64 (y:Int)).toNat=x ||| y
    rw [BitVec.toNat_or,BitVec.toNat_ofInt,BitVec.toNat_ofInt];congr 1<;>omega
  rw [e1];have:=Nat.or_lt_two_pow (n:=63) hx hy;exact M1 (j7.2 ⟨by omega,by omega⟩)
theorem c1n {x y k:Nat} (hx:x<2^k):x ||| (y*2^k)=x+y*2^k:=by
  rw [Nat.or_comm,<- Nat.shiftLeft_eq,<- Nat.shiftLeft_add_eq_or_of_lt hx,Nat.add_comm]
theorem b6D:b9G.Valid Tryz.prog 64:=by
  refine p9.o5 b5z rfl rfl Tryz.func64 (c:=d8 Tryz.prog 64) rfl rfl b5e rfl ?_;rintro ⟨(k:Int),(s:List UInt8),⟨⟩⟩ ⟨h0,h1⟩ ⟨-,hs,-⟩;have h0:0<=k:=h0;have h1:5+3*k<(s.length:Int):=h1;have hs:s.length<=9223372036854775807:=hs;obtain ⟨m,rfl⟩:=Int.eq_ofNat_of_zero_le h0;refine j5 (n:=1000) b5z b5e ?_;refine g9 (c6m (m:Int) s) ?_;simp only [j6,Tree.holds,true_and,true_implies,decide_eq_true_eq,decide_eq_false_iff_not,Bool.not_eq_true',Bool.not_eq_false',Int.toNat_natCast,j7,List.length_set,List.length_cons,List.length_nil];refine ⟨by omega,λ _=>⟨by omega,λ _=>⟨by omega,λ _=>⟨by omega,λ _=>⟨by omega,λ _=>⟨Int.le.intro 8 rfl,λ _=>⟨by omega,λ _=>⟨by omega,λ _=>⟨Int.le.intro 16 rfl,λ _=>?_⟩⟩⟩⟩⟩⟩⟩⟩⟩;have e1:Int.toNat (3+3*(m:Int))=3+3*m:=by omega
  have e2:Int.toNat (3+3*(m:Int)+1)=4+3*m:=by omega
  have e3:Int.toNat (3+3*(m:Int)+2)=5+3*m:=by omega
  rw [e1,e2,e3];show ((_,()):Int×Unit)=(Y7 s (Int.toNat (m:Int)),());rw [Int.toNat_natCast];have a1:=(s.getD (3+3*m) 0).toNat_lt;have a2:=(s.getD (4+3*m) 0).toNat_lt;have a3:=(s.getD (5+3*m) 0).toNat_lt;unfold Y7 a2b;generalize (s.getD (3+3*m) 0).toNat=x at *
  generalize (s.getD (4+3*m) 0).toNat=y at *
  generalize (s.getD (5+3*m) 0).toNat=z at *
  have w:∀ q:Nat,q<16777216->IntKind.wrap .i64 (q:Int)=(q:Int):=λ q hq=>M1 (j7.2 ⟨by omega,by omega⟩);have p8:(2:Int)^min (Int.toNat 8) (IntKind.bits .i64)=256:=rfl;have p16:(2:Int)^min (Int.toNat 16) (IntKind.bits .i64)=65536:=rfl;rw [w x (by omega),w y (by omega),w z (by omega),p8,p16,show (y:Int)*256=((y*2^8:Nat):Int) by omega,show (z:Int)*65536=((z*2^16:Nat):Int) by omega,w _ (by omega),w _ (by omega),c6W (by omega) (by omega),c1n (k:=8) (by omega),c6W (by omega) (by omega),c1n (k:=16) (by omega)];congr 1
def X6:y4:=(0,0,0,0,0,[0,0,0,0,0,0],[],())
def parse (s:List UInt8):y4:=(a2b s 0,a2b s 1,a2b s 2,Y7 s 0,Y7 s 1,[Y7 s 2,Y7 s 3,Y7 s 4,Y7 s 5,Y7 s 6,Y7 s 7],s.drop 27,())
def u7 (s:List UInt8):y4×Int×Unit :=
  if 231<s.length then (X6,2,()) else if s.length<31 then (X6,3,()) else if le4 (a1i (s.take (s.length - 4)))≠s.drop (s.length - 4) then (X6,5,())
  else if G2 (parse (s.take (s.length - 4)))≠0 then (X6,G2 (parse (s.take (s.length - 4))),()) else (parse (s.take (s.length - 4)),0,())
def b9A:p9:={ ps:=[.v .str],rs:=[b1h,e8],pre:=λ _=>True,fn:=λ x=>u7 x.1,out:=λ _=>() }
noncomputable def b3v:Env:={ P:=Tryz.prog,tt:=tt,C0:=[(63,b9u),(62,b3r),(64,b9G),(65,a7H)],res:=[Go.ResultVar.cell 2 91,Go.ResultVar.tmp 3],rs:=[Ty.pair e8 (Ty.pair e8 (Ty.pair e8 (Ty.pair e8 (Ty.pair e8 (Ty.pair V9 (Ty.pair Ty.str Ty.unit)))))),Ty.int IntKind.i64],ps:=[PK.v Ty.str],y5:=[(11,[(2,none),(6,none),(7,none),(54,none)])],nt:=72 }
theorem a9b:u6 b3v:=w9 q9 ⟨a9Y,a8i,b6D,a6d,trivial⟩
theorem a84:y7 b3v Tryz.f46:=⟨rfl,rfl⟩
theorem c6i (x0:List UInt8):exec b3v 1000 [.code (d8 Tryz.prog 46)] (s5 b9A.ps ((x0,()))) =
  cond (decide ((231:Int)<(↑(List.length x0):Int))) (.ret ((((0:Int),(0:Int),(0:Int),(0:Int),(0:Int),[(0:Int),(0:Int),(0:Int),(0:Int),(0:Int),(0:Int)],[],()),(2:Int),()))) (cond (decide ((↑(List.length x0):Int)<(31:Int))) (.ret ((((0:Int),(0:Int),(0:Int),(0:Int),(0:Int),[(0:Int),(0:Int),(0:Int),(0:Int),(0:Int),(0:Int)],[],()),(3:Int),()))) (.f6 (r7 IntKind.i64 ((↑(List.length x0):Int) - (4:Int))) (.f6 ((0:Int)<=(0:Int)/\(0:Int)<=(↑(List.length x0):Int) - (4:Int)/\(↑(List.length x0):Int) - (4:Int)<=(↑(List.length x0):Int)) (.f6 (r7 IntKind.i64 ((↑(List.length x0):Int) - (4:Int))) (.f6 ((0:Int)<=(↑(List.length x0):Int) - (4:Int)/\(↑(List.length x0):Int) - (4:Int)<=(↑(List.length x0):Int)/\(↑(List.length x0):Int)<=(↑(List.length x0):Int)) (.f6 (True) (.f6 (True) (cond (decide (List.map (λ n=>UInt8.ofNat (Int.toNat n)) (a2Q (Int.toNat (↑(a1i (n5 (0:Int) ((↑(List.length x0):Int) - (4:Int)) x0)):Int)))≠n5 ((↑(List.length x0):Int) - (4:Int)) (↑(List.length x0):Int) x0)) (.ret ((((0:Int),(0:Int),(0:Int),(0:Int),(0:Int),[(0:Int),(0:Int),(0:Int),(0:Int),(0:Int),(0:Int)],[],()),(5:Int),()))) (.f6 ((0:Int)<=(0:Int)/\(0:Int)<(↑(List.length (n5 (0:Int) ((↑(List.length x0):Int) - (4:Int)) x0)):Int)) (.f6 ((0:Int)<=(1:Int)/\(1:Int)<(↑(List.length (n5 (0:Int) ((↑(List.length x0):Int) - (4:Int)) x0)):Int)) (.f6 ((0:Int)<=(2:Int)/\(2:Int)<(↑(List.length (n5 (0:Int) ((↑(List.length x0):Int) - (4:Int)) x0)):Int)) (.f6 ((0:Int)<=(0:Int)/\(5:Int)+(3:Int)*(0:Int)<(↑(List.length (n5 (0:Int) ((↑(List.length x0):Int) - (4:Int)) x0)):Int)) (.f6 ((0:Int)<=(1:Int)/\(5:Int)+(3:Int)*(1:Int)<(↑(List.length (n5 (0:Int) ((↑(List.length x0):Int) - (4:Int)) x0)):Int)) (.f6 ((0:Int)<=(27:Int)/\(27:Int)<=(↑(List.length (n5 (0:Int) ((↑(List.length x0):Int) - (4:Int)) x0)):Int)/\(↑(List.length (n5 (0:Int) ((↑(List.length x0):Int) - (4:Int)) x0)):Int)<=(↑(List.length (n5 (0:Int) ((↑(List.length x0):Int) - (4:Int)) x0)):Int)) (.ctL (f9 (d8 Tryz.prog 46) 11) (St.mk [(2,AV.ptr 2 []),(6,AV.B8 64 (AV.cons (AV.ptr 4 []) AV.nil)),(7,AV.ptr 7 []),(54,AV.val e8 (0:Int))] [(2,g8.var (Ty.pair e8 (Ty.pair e8 (Ty.pair e8 (Ty.pair e8 (Ty.pair e8 (Ty.pair V9 (Ty.pair Ty.str Ty.unit))))))) ((0:Int),(0:Int),(0:Int),(0:Int),(0:Int),[(0:Int),(0:Int),(0:Int),(0:Int),(0:Int),(0:Int)],[],())),(4,g8.var Ty.str (n5 (0:Int) ((↑(List.length x0):Int) - (4:Int)) x0)),(7,g8.var (Ty.pair e8 (Ty.pair e8 (Ty.pair e8 (Ty.pair e8 (Ty.pair e8 (Ty.pair V9 (Ty.pair Ty.str Ty.unit))))))) (IntKind.wrap IntKind.i64 (↑(UInt8.toNat (List.getD (n5 (0:Int) ((↑(List.length x0):Int) - (4:Int)) x0) (Int.toNat (0:Int)) (0:UInt8))):Int),IntKind.wrap IntKind.i64 (↑(UInt8.toNat (List.getD (n5 (0:Int) ((↑(List.length x0):Int) - (4:Int)) x0) (Int.toNat (1:Int)) (0:UInt8))):Int),IntKind.wrap IntKind.i64 (↑(UInt8.toNat (List.getD (n5 (0:Int) ((↑(List.length x0):Int) - (4:Int)) x0) (Int.toNat (2:Int)) (0:UInt8))):Int),Y7 (n5 (0:Int) ((↑(List.length x0):Int) - (4:Int)) x0) (Int.toNat (0:Int)),Y7 (n5 (0:Int) ((↑(List.length x0):Int) - (4:Int)) x0) (Int.toNat (1:Int)),[(0:Int),(0:Int),(0:Int),(0:Int),(0:Int),(0:Int)],n5 (27:Int) (↑(List.length (n5 (0:Int) ((↑(List.length x0):Int) - (4:Int)) x0)):Int) (n5 (0:Int) ((↑(List.length x0):Int) - (4:Int)) x0),()))])))))))))))))))):=by kernel_rfl
def b2D (v54:Int) (dt:Int) (cz:Int) (dq:Int) (cJ:Int) (cj:Int) (bP:List Int) (bJ:List UInt8) (o4:List UInt8) (cy:Int) (bs:Int) (cq:Int) (bO:Int) (bA:Int) (bq:List Int) (bh:List UInt8):St:=St.mk [(2,AV.ptr 2 []),(6,AV.B8 64 (AV.cons (AV.ptr 4 []) AV.nil)),(7,AV.ptr 7 []),(54,AV.val e8 v54)] [(2,g8.var (Ty.pair e8 (Ty.pair e8 (Ty.pair e8 (Ty.pair e8 (Ty.pair e8 (Ty.pair V9 (Ty.pair Ty.str Ty.unit))))))) (dt,cz,dq,cJ,cj,bP,bJ,())),(4,g8.var Ty.str o4),(7,g8.var (Ty.pair e8 (Ty.pair e8 (Ty.pair e8 (Ty.pair e8 (Ty.pair e8 (Ty.pair V9 (Ty.pair Ty.str Ty.unit))))))) (cy,bs,cq,bO,bA,bq,bh,()))]
theorem c2G (v54:Int) (dt:Int) (cz:Int) (dq:Int) (cJ:Int) (cj:Int) (bP:List Int) (bJ:List UInt8) (o4:List UInt8) (cy:Int) (bs:Int) (cq:Int) (bO:Int) (bA:Int) (bq:List Int) (bh:List UInt8):exec b3v 1000 (.code (f9 (d8 Tryz.prog 46) 11).1::.inLoop (f9 (d8 Tryz.prog 46) 11).1::(f9 (d8 Tryz.prog 46) 11).2) (b2D v54 dt cz dq cJ cj bP bJ o4 cy bs cq bO bA bq bh) =
  cond (decide (v54<(6:Int))) (.f6 (r7 IntKind.i64 ((2:Int)+v54)) (.f6 ((0:Int)<=(2:Int)+v54/\(5:Int)+(3:Int)*((2:Int)+v54)<(↑(List.length o4):Int)) (.f6 ((0:Int)<=v54/\v54<(↑6:Int)) (.f6 (r7 IntKind.i64 (v54+(1:Int))) (.ctL (f9 (d8 Tryz.prog 46) 11) (St.mk [(2,AV.ptr 2 []),(6,AV.B8 64 (AV.cons (AV.ptr 4 []) AV.nil)),(7,AV.ptr 7 []),(54,AV.val e8 (v54+(1:Int)))] [(2,g8.var (Ty.pair e8 (Ty.pair e8 (Ty.pair e8 (Ty.pair e8 (Ty.pair e8 (Ty.pair V9 (Ty.pair Ty.str Ty.unit))))))) (dt,cz,dq,cJ,cj,bP,bJ,())),(4,g8.var Ty.str o4),(7,g8.var (Ty.pair e8 (Ty.pair e8 (Ty.pair e8 (Ty.pair e8 (Ty.pair e8 (Ty.pair V9 (Ty.pair Ty.str Ty.unit))))))) (cy,bs,cq,bO,bA,List.set bq (Int.toNat v54) (Y7 o4 (Int.toNat ((2:Int)+v54))),bh,()))])))))) (.f6 (True) (cond (decide (G2 (cy,bs,cq,bO,bA,bq,bh,())≠(0:Int))) (.ret ((((0:Int),(0:Int),(0:Int),(0:Int),(0:Int),[(0:Int),(0:Int),(0:Int),(0:Int),(0:Int),(0:Int)],[],()),G2 (cy,bs,cq,bO,bA,bq,bh,()),()))) (.ret (((cy,bs,cq,bO,bA,bq,bh,()),(0:Int),()))))):=by kernel_rfl
def atL (s:List UInt8) (i:Nat):List Int:=(List.range 6).map (λ j=>if j<i then Y7 s (2+j) else 0)
theorem b6y:b9A.Valid Tryz.prog 46:=by
  refine p9.o5 a9b rfl rfl Tryz.func46 (c:=d8 Tryz.prog 46) rfl rfl a84 rfl ?_;rintro ⟨(s:List UInt8),⟨⟩⟩ - -
  refine j5 (n:=1000) a9b a84 ?_;refine g9 (c6i s) ?_;simp only [j6,Tree.holds,true_and,true_implies,decide_eq_true_eq,decide_eq_false_iff_not,Bool.not_eq_true',Bool.not_eq_false',Int.toNat_natCast,j7,List.length_set,List.length_cons,List.length_nil];refine ⟨λ h=>?_,λ h1=>⟨λ h=>?_,λ h2=>⟨by omega,λ _=>⟨by omega,λ _=>⟨by omega,λ _=>⟨by omega,λ _=>?_⟩⟩⟩⟩⟩⟩
  . show ((X6,2,()):y4×Int×Unit)=u7 s;rw [u7,if_pos (by omega)]
  . show ((X6,3,()):y4×Int×Unit)=u7 s;rw [u7,if_neg (by omega),if_pos (by omega)]
  obtain ⟨n,hn⟩:∃ n:Nat,(s.length:Int) - 4=n:=⟨s.length - 4,by omega⟩;have qN:s.length - 4=n:=by omega
  have b1:n5 0 ((s.length:Int) - 4) s=s.take n:=by rw [hn,n5]; simp
  have b2:n5 ((s.length:Int) - 4) (s.length:Int) s=s.drop n:=by rw [hn,n5,Int.toNat_natCast,List.take_of_length_le (by rw [List.length_drop]; omega)]
  have bI:(s.take n).length=n:=by rw [List.length_take]; omega
  have b3:n5 27 (n:Int) (s.take n)=(s.take n).drop 27:=by rw [n5,List.take_of_length_le (by rw [List.length_drop,bI]; show n - 27<=((n:Int) - 27).toNat; omega)]; rfl
  have b4:List.map (λ n:Int=>UInt8.ofNat n.toNat) (a2Q (a1i (s.take n)))=le4 (a1i (s.take n)):=a5L _;have hR:u7 s=if le4 (a1i (s.take n))≠s.drop n then (X6,5,()) else if G2 (parse (s.take n))≠0 then (X6,G2 (parse (s.take n)),()) else (parse (s.take n),0,()):=by
    rw [u7,if_neg (by omega),if_neg (by omega),qN]
  generalize fP:s.take n=body at *
  have w:∀ q:UInt8,IntKind.wrap .i64 (q.toNat:Int)=(q.toNat:Int):=λ q=>by have:=q.toNat_lt; exact M1 (j7.2 ⟨by omega,by omega⟩)
  simp only [j6,Tree.holds,true_and,true_implies,decide_eq_true_eq,decide_eq_false_iff_not,Bool.not_eq_true',Bool.not_eq_false',Int.toNat_natCast,j7,List.length_set,List.length_cons,List.length_nil,b1,b2,b4,bI,b3,w];refine ⟨λ h=>?_,λ h=>⟨by omega,λ _=>⟨by omega,λ _=>⟨by omega,λ _=>⟨by omega,λ _=>⟨by omega,λ _=>⟨by omega,λ _=>?_⟩⟩⟩⟩⟩⟩⟩
  . show ((X6,5,()):y4×Int×Unit)=u7 s;rw [hR,if_pos h]
  rw [if_neg h] at hR;refine Reach.K3 a9b a84 (λ i:Nat=>b2D (i:Int) 0 0 0 0 0 [0,0,0,0,0,0] [] body (a2b body 0) (a2b body 1) (a2b body 2) (Y7 body 0) (Y7 body 1) (atL body i) (body.drop 27)) (λ i=>i<=6)
    (λ i=>6 - i) 1000 (λ _=>⟨s7 rfl,s7 rfl⟩) ?_ 0 (Nat.zero_le _)
  rintro i k1 - ih;have k1:i<=6:=k1;refine g9 (c2G ..) ?_;simp only [j6,Tree.holds,true_and,true_implies,decide_eq_true_eq,decide_eq_false_iff_not,Bool.not_eq_true',Bool.not_eq_false',Int.toNat_natCast,j7,List.length_set,List.length_cons,List.length_nil,bI];refine ⟨λ c=>⟨by omega,λ _=>⟨by omega,λ _=>⟨by omega,λ _=>⟨by omega,λ _=>?_⟩⟩⟩⟩,λ c=>?_⟩
  . have hi:i<6:=by omega
    have:=ih (i+1) (by show i+1<=6; omega) (by omega);have e2:Int.toNat (2+(i:Int))=2+i:=by omega
    have:(atL body i).set i (Y7 body (2+i))=atL body (i+1):=by
      rw [atL,b2Q _ _ hi,atL];refine List.map_congr_left (λ j hj=>?_);by_cases e:j=i
      . rw [if_pos e,if_pos (by omega),e]
      . rw [if_neg e];by_cases e2:j<i
        . rw [if_pos e2,if_pos (by omega)]
        . rw [if_neg e2,if_neg (by omega)]
    rw [e2,this]
    assumption
  . obtain rfl:i=6:=by omega
    have hp:(a2b body 0,a2b body 1,a2b body 2,Y7 body 0,Y7 body 1,atL body 6,body.drop 27,())=parse body:=rfl;rw [hp];refine ⟨λ h=>?_,λ h=>?_⟩
    . show ((X6,G2 (parse body),()):y4×Int×Unit)=u7 s;rw [hR,if_pos h]
    . show ((parse body,0,()):y4×Int×Unit)=u7 s;rw [hR,if_neg h]
abbrev a0Y:=Int×Int×Unit
def outside (m:Int):Bool:=decide (64<=m)
def half (p o:Int):Bool:=decide (a14 o<2*a14 (U2 .u8 p o))
def U7 (v:a0Y):Int:=if v.1<0\/16777215<v.1\/v.2.1=0\/64<=v.2.1 then 1 else 0
def O7 (v:a0Y) (g c:Int):a0Y×Int×Unit :=
  if U7 v≠0 then ((0,0,()),U7 v,()) else if outside (bOr .u8 g c)=true then ((0,0,()),1,()) else if U2 .u8 g c≠0 then ((0,0,()),1,())
  else if v.1=16777215 then ((0,0,()),8,()) else if (!half (U6 .u8 v.2.1 g) v.2.1)=true then ((0,0,()),11,()) else ((v.1+1,bOr .u8 (U6 .u8 v.2.1 g) c,()),0,())
def a5H:p9:={ ps:=[.v U8],rs:=[.bool],pre:=λ _=>True,fn:=λ x=>(outside x.1,()),out:=λ _=>() }
def a4S:p9:={ ps:=[.v View],rs:=[e8],pre:=λ _=>True,fn:=λ x=>(U7 x.1,()),out:=λ _=>() }
def b9F:p9:={ ps:=[.v U8],rs:=[e8],pre:=λ _=>True,fn:=λ x=>(a14 x.1,()),out:=λ _=>() }
def b9P:p9:={ ps:=[.v U8,.v U8],rs:=[.bool],pre:=λ _=>True,fn:=λ x=>(half x.1 x.2.1,()),out:=λ _=>() }
def a6X:p9:={ ps:=[.v View,.v U8,.v U8],rs:=[View,e8],pre:=λ _=>True,fn:=λ x=>O7 x.1 x.2.1 x.2.2.1,out:=λ _=>() }
noncomputable def a9e:Env:={ P:=Tryz.prog,tt:=tt,C0:=[],res:=[Go.ResultVar.tmp 2],rs:=[Ty.bool],ps:=[PK.v U8],y5:=[],nt:=6 }
theorem a8s:u6 a9e:=w9 q9 trivial
theorem a8r:y7 a9e Tryz.f71:=⟨rfl,rfl⟩
theorem c0s (x0:Int):exec a9e 1000 [.code (d8 Tryz.prog 71)] (s5 a5H.ps ((x0,()))) =
  .f6 ((0:Int)<=(6:Int)) (.ret ((decide (x0 / (2:Int)^min (Int.toNat (6:Int)) (IntKind.bits IntKind.u8)≠(0:Int)),()))):=by kernel_rfl
theorem a4T:a5H.Valid Tryz.prog 71:=by
  refine p9.o5 a8s rfl rfl Tryz.func71 (c:=d8 Tryz.prog 71) rfl rfl a8r rfl ?_;rintro ⟨(x0:Int),⟨⟩⟩ - ⟨h0,-⟩;refine j5 (n:=1000) a8s a8r ?_;refine g9 (c0s x0) ?_;refine ⟨by decide,λ _=>?_⟩;have h:0<=x0/\x0<=255:=h0;show (decide (x0 / 2^6≠0),())=(outside x0,());unfold outside;congr 1;exact decide_eq_decide.2 (by omega)
noncomputable def b1m:Env:={ P:=Tryz.prog,tt:=tt,C0:=[(71,a5H)],res:=[Go.ResultVar.tmp 2],rs:=[Ty.int IntKind.i64],ps:=[PK.v View],y5:=[],nt:=21 }
theorem b0u:u6 b1m:=w9 q9 ⟨a4T,trivial⟩
theorem b0o:y7 b1m Tryz.f70:=⟨rfl,rfl⟩
theorem c2E (aN:Int) (ab:Int):exec b1m 1000 [.code (d8 Tryz.prog 70)] (s5 a4S.ps (((aN,ab,()),()))) =
  cond (decide (aN<(0:Int))) (.ret (((1:Int),()))) (cond (decide ((16777215:Int)<aN)) (.ret (((1:Int),()))) (cond (decide (ab=(0:Int))) (.ret (((1:Int),()))) (.f6 (True) (cond (outside ab) (.ret (((1:Int),()))) (.ret (((0:Int),()))))))):=by kernel_rfl
theorem a6e:a4S.Valid Tryz.prog 70:=by
  refine p9.o5 b0u rfl rfl Tryz.func70 (c:=d8 Tryz.prog 70) rfl rfl b0o rfl ?_;rintro ⟨⟨(x0:Int),(x1:Int),⟨⟩⟩,⟨⟩⟩ - ⟨⟨h0,h1,-⟩,-⟩;refine j5 (n:=1000) b0u b0o ?_;refine g9 (c2E x0 x1) ?_;have g0:-9223372036854775808<=x0/\x0<=9223372036854775807:=h0;have g1:0<=x1/\x1<=255:=h1;simp only [j6,Tree.holds,decide_eq_true_eq,decide_eq_false_iff_not];have key:∀ r:Int,r=U7 (x0,x1,())->((r,()):DL [Ty.int .i64])=a4S.fn ((x0,x1,()),()):=by rintro r rfl; rfl
  refine ⟨λ a=>key _ ?_,λ a=>⟨λ b=>key _ ?_,λ b=>⟨λ c=>key _ ?_,λ c=>⟨trivial,λ _=>⟨λ d=>key _ ?_,λ d=>key _ ?_⟩⟩⟩⟩⟩
  all_goals simp only [U7,outside,decide_eq_true_eq,decide_eq_false_iff_not] at *
  all_goals (first|rw [if_pos (by omega)]|rw [if_neg (by omega)])
noncomputable def c0t:Env:={ P:=Tryz.prog,tt:=tt,C0:=[],res:=[Go.ResultVar.tmp 2],rs:=[Ty.int IntKind.i64],ps:=[PK.v U8],y5:=[],nt:=6 }
theorem b5y:u6 c0t:=w9 q9 trivial
theorem b5d:y7 c0t Tryz.f88:=⟨rfl,rfl⟩
theorem c6l (x0:Int):exec c0t 1000 [.code (d8 Tryz.prog 88)] (s5 b9F.ps ((x0,()))) =
  .f6 ((0:Int)<=x0/\x0<(↑(List.length (Array.toList (ByteArray.data (ByteArray.mk (List.toArray (List.append (List.append [(0:UInt8),(1:UInt8),(1:UInt8),(2:UInt8),(1:UInt8),(2:UInt8),(2:UInt8),(3:UInt8),(1:UInt8),(2:UInt8),(2:UInt8),(3:UInt8),(2:UInt8),(3:UInt8),(3:UInt8),(4:UInt8),(1:UInt8),(2:UInt8),(2:UInt8),(3:UInt8),(2:UInt8),(3:UInt8),(3:UInt8),(4:UInt8),(2:UInt8),(3:UInt8),(3:UInt8),(4:UInt8),(3:UInt8),(4:UInt8),(4:UInt8),(5:UInt8),(1:UInt8),(2:UInt8),(2:UInt8),(3:UInt8),(2:UInt8),(3:UInt8),(3:UInt8),(4:UInt8),(2:UInt8),(3:UInt8),(3:UInt8),(4:UInt8),(3:UInt8),(4:UInt8),(4:UInt8),(5:UInt8),(2:UInt8),(3:UInt8),(3:UInt8),(4:UInt8),(3:UInt8),(4:UInt8),(4:UInt8),(5:UInt8),(3:UInt8),(4:UInt8),(4:UInt8),(5:UInt8),(4:UInt8),(5:UInt8),(5:UInt8),(6:UInt8)] [(1:UInt8),(2:UInt8),(2:UInt8),(3:UInt8),(2:UInt8),(3:UInt8),(3:UInt8),(4:UInt8),(2:UInt8),(3:UInt8),(3:UInt8),(4:UInt8),(3:UInt8),(4:UInt8),(4:UInt8),(5:UInt8),(2:UInt8),(3:UInt8),(3:UInt8),(4:UInt8),(3:UInt8),(4:UInt8),(4:UInt8),(5:UInt8),(3:UInt8),(4:UInt8),(4:UInt8),(5:UInt8),(4:UInt8),(5:UInt8),(5:UInt8),(6:UInt8),(2:UInt8),(3:UInt8),(3:UInt8),(4:UInt8),(3:UInt8),(4:UInt8),(4:UInt8),(5:UInt8),(3:UInt8),(4:UInt8),(4:UInt8),(5:UInt8),(4:UInt8),(5:UInt8),(5:UInt8),(6:UInt8),(3:UInt8),(4:UInt8),(4:UInt8),(5:UInt8),(4:UInt8),(5:UInt8),(5:UInt8),(6:UInt8),(4:UInt8),(5:UInt8),(5:UInt8),(6:UInt8),(5:UInt8),(6:UInt8),(6:UInt8),(7:UInt8)]) (List.append [(1:UInt8),(2:UInt8),(2:UInt8),(3:UInt8),(2:UInt8),(3:UInt8),(3:UInt8),(4:UInt8),(2:UInt8),(3:UInt8),(3:UInt8),(4:UInt8),(3:UInt8),(4:UInt8),(4:UInt8),(5:UInt8),(2:UInt8),(3:UInt8),(3:UInt8),(4:UInt8),(3:UInt8),(4:UInt8),(4:UInt8),(5:UInt8),(3:UInt8),(4:UInt8),(4:UInt8),(5:UInt8),(4:UInt8),(5:UInt8),(5:UInt8),(6:UInt8),(2:UInt8),(3:UInt8),(3:UInt8),(4:UInt8),(3:UInt8),(4:UInt8),(4:UInt8),(5:UInt8),(3:UInt8),(4:UInt8),(4:UInt8),(5:UInt8),(4:UInt8),(5:UInt8),(5:UInt8),(6:UInt8),(3:UInt8),(4:UInt8),(4:UInt8),(5:UInt8),(4:UInt8),(5:UInt8),(5:UInt8),(6:UInt8),(4:UInt8),(5:UInt8),(5:UInt8),(6:UInt8),(5:UInt8),(6:UInt8),(6:UInt8),(7:UInt8)] [(2:UInt8),(3:UInt8),(3:UInt8),(4:UInt8),(3:UInt8),(4:UInt8),(4:UInt8),(5:UInt8),(3:UInt8),(4:UInt8),(4:UInt8),(5:UInt8),(4:UInt8),(5:UInt8),(5:UInt8),(6:UInt8),(3:UInt8),(4:UInt8),(4:UInt8),(5:UInt8),(4:UInt8),(5:UInt8),(5:UInt8),(6:UInt8),(4:UInt8),(5:UInt8),(5:UInt8),(6:UInt8),(5:UInt8),(6:UInt8),(6:UInt8),(7:UInt8),(3:UInt8),(4:UInt8),(4:UInt8),(5:UInt8),(4:UInt8),(5:UInt8),(5:UInt8),(6:UInt8),(4:UInt8),(5:UInt8),(5:UInt8),(6:UInt8),(5:UInt8),(6:UInt8),(6:UInt8),(7:UInt8),(4:UInt8),(5:UInt8),(5:UInt8),(6:UInt8),(5:UInt8),(6:UInt8),(6:UInt8),(7:UInt8),(5:UInt8),(6:UInt8),(6:UInt8),(7:UInt8),(6:UInt8),(7:UInt8),(7:UInt8),(8:UInt8)]))))))):Int)) (.ret ((IntKind.wrap IntKind.i64 (↑(UInt8.toNat (List.getD (Array.toList (ByteArray.data (ByteArray.mk (List.toArray (List.append (List.append [(0:UInt8),(1:UInt8),(1:UInt8),(2:UInt8),(1:UInt8),(2:UInt8),(2:UInt8),(3:UInt8),(1:UInt8),(2:UInt8),(2:UInt8),(3:UInt8),(2:UInt8),(3:UInt8),(3:UInt8),(4:UInt8),(1:UInt8),(2:UInt8),(2:UInt8),(3:UInt8),(2:UInt8),(3:UInt8),(3:UInt8),(4:UInt8),(2:UInt8),(3:UInt8),(3:UInt8),(4:UInt8),(3:UInt8),(4:UInt8),(4:UInt8),(5:UInt8),(1:UInt8),(2:UInt8),(2:UInt8),(3:UInt8),(2:UInt8),(3:UInt8),(3:UInt8),(4:UInt8),(2:UInt8),(3:UInt8),(3:UInt8),(4:UInt8),(3:UInt8),(4:UInt8),(4:UInt8),(5:UInt8),(2:UInt8),(3:UInt8),(3:UInt8),(4:UInt8),(3:UInt8),(4:UInt8),(4:UInt8),(5:UInt8),(3:UInt8),(4:UInt8),(4:UInt8),(5:UInt8),(4:UInt8),(5:UInt8),(5:UInt8),(6:UInt8)] [(1:UInt8),(2:UInt8),(2:UInt8),(3:UInt8),(2:UInt8),(3:UInt8),(3:UInt8),(4:UInt8),(2:UInt8),(3:UInt8),(3:UInt8),(4:UInt8),(3:UInt8),(4:UInt8),(4:UInt8),(5:UInt8),(2:UInt8),(3:UInt8),(3:UInt8),(4:UInt8),(3:UInt8),(4:UInt8),(4:UInt8),(5:UInt8),(3:UInt8),(4:UInt8),(4:UInt8),(5:UInt8),(4:UInt8),(5:UInt8),(5:UInt8),(6:UInt8),(2:UInt8),(3:UInt8),(3:UInt8),(4:UInt8),(3:UInt8),(4:UInt8),(4:UInt8),(5:UInt8),(3:UInt8),(4:UInt8),(4:UInt8),(5:UInt8),(4:UInt8),(5:UInt8),(5:UInt8),(6:UInt8),(3:UInt8),(4:UInt8),(4:UInt8),(5:UInt8),(4:UInt8),(5:UInt8),(5:UInt8),(6:UInt8),(4:UInt8),(5:UInt8),(5:UInt8),(6:UInt8),(5:UInt8),(6:UInt8),(6:UInt8),(7:UInt8)]) (List.append [(1:UInt8),(2:UInt8),(2:UInt8),(3:UInt8),(2:UInt8),(3:UInt8),(3:UInt8),(4:UInt8),(2:UInt8),(3:UInt8),(3:UInt8),(4:UInt8),(3:UInt8),(4:UInt8),(4:UInt8),(5:UInt8),(2:UInt8),(3:UInt8),(3:UInt8),(4:UInt8),(3:UInt8),(4:UInt8),(4:UInt8),(5:UInt8),(3:UInt8),(4:UInt8),(4:UInt8),(5:UInt8),(4:UInt8),(5:UInt8),(5:UInt8),(6:UInt8),(2:UInt8),(3:UInt8),(3:UInt8),(4:UInt8),(3:UInt8),(4:UInt8),(4:UInt8),(5:UInt8),(3:UInt8),(4:UInt8),(4:UInt8),(5:UInt8),(4:UInt8),(5:UInt8),(5:UInt8),(6:UInt8),(3:UInt8),(4:UInt8),(4:UInt8),(5:UInt8),(4:UInt8),(5:UInt8),(5:UInt8),(6:UInt8),(4:UInt8),(5:UInt8),(5:UInt8),(6:UInt8),(5:UInt8),(6:UInt8),(6:UInt8),(7:UInt8)] [(2:UInt8),(3:UInt8),(3:UInt8),(4:UInt8),(3:UInt8),(4:UInt8),(4:UInt8),(5:UInt8),(3:UInt8),(4:UInt8),(4:UInt8),(5:UInt8),(4:UInt8),(5:UInt8),(5:UInt8),(6:UInt8),(3:UInt8),(4:UInt8),(4:UInt8),(5:UInt8),(4:UInt8),(5:UInt8),(5:UInt8),(6:UInt8),(4:UInt8),(5:UInt8),(5:UInt8),(6:UInt8),(5:UInt8),(6:UInt8),(6:UInt8),(7:UInt8),(3:UInt8),(4:UInt8),(4:UInt8),(5:UInt8),(4:UInt8),(5:UInt8),(5:UInt8),(6:UInt8),(4:UInt8),(5:UInt8),(5:UInt8),(6:UInt8),(5:UInt8),(6:UInt8),(6:UInt8),(7:UInt8),(4:UInt8),(5:UInt8),(5:UInt8),(6:UInt8),(5:UInt8),(6:UInt8),(6:UInt8),(7:UInt8),(5:UInt8),(6:UInt8),(6:UInt8),(7:UInt8),(6:UInt8),(7:UInt8),(7:UInt8),(8:UInt8)])))))) (Int.toNat x0) (0:UInt8))):Int),()))):=by kernel_rfl
theorem b6C:b9F.Valid Tryz.prog 88:=by
  refine p9.o5 b5y rfl rfl Tryz.func88 (c:=d8 Tryz.prog 88) rfl rfl b5d rfl ?_;rintro ⟨(x0:Int),⟨⟩⟩ - ⟨h0,-⟩;refine j5 (n:=1000) b5y b5d ?_;refine g9 (c6l x0) ?_;have g0:0<=x0/\x0<=255:=h0;obtain ⟨n,rfl⟩:∃ n:Fin 256,x0=((n.val:Nat):Int):=⟨⟨x0.toNat,by omega⟩,by simp; omega⟩;refine ⟨?_,λ _=>?_⟩
  . clear h0 g0; revert n; decide +kernel
  . show ((_,()):Int×Unit)=(a14 n,());clear h0 g0; revert n; decide +kernel
noncomputable def c0B:Env:={ P:=Tryz.prog,tt:=tt,C0:=[(88,b9F)],res:=[Go.ResultVar.tmp 4],rs:=[Ty.bool],ps:=[PK.v U8,PK.v U8],y5:=[],nt:=13 }
theorem b5H:u6 c0B:=w9 q9 ⟨b6C,trivial⟩
theorem b5i:y7 c0B Tryz.f72:=⟨rfl,rfl⟩
theorem c6s (x0:Int) (x1:Int):exec c0B 1000 [.code (d8 Tryz.prog 72)] (s5 b9P.ps ((x0,x1,()))) =
  .f6 (True) (.f6 (r7 IntKind.i64 ((2:Int)*a14 (U2 IntKind.u8 x0 x1))) (.f6 (True) (.ret ((decide (a14 x1<(2:Int)*a14 (U2 IntKind.u8 x0 x1)),()))))):=by kernel_rfl
theorem b6K:b9P.Valid Tryz.prog 72:=by
  refine p9.o5 b5H rfl rfl Tryz.func72 (c:=d8 Tryz.prog 72) rfl rfl b5i rfl ?_;rintro ⟨(x0:Int),(x1:Int),⟨⟩⟩ - ⟨h0,h1,-⟩;refine j5 (n:=1000) b5H b5i ?_;refine g9 (c6s x0 x1) ?_;have hb:∀ a b:Int,0<=a14 (U2 .u8 a b)/\a14 (U2 .u8 a b)<=8:=λ a b=>c5y _;refine ⟨trivial,λ _=>⟨?_,λ _=>⟨trivial,λ _=>rfl⟩⟩⟩;have:=hb x0 x1;show -9223372036854775808<=_/\_<=9223372036854775807;omega
theorem b8k {v:a0Y} (h:U7 v=0):0<=v.1/\v.1<=16777215/\v.2.1≠0/\v.2.1<64:=by
  unfold U7 at h;split at h
  . cases h
  . omega
noncomputable def b5A:Env:={ P:=Tryz.prog,tt:=tt,C0:=[(71,a5H),(70,a4S),(72,b9P)],res:=[Go.ResultVar.cell 6 57,Go.ResultVar.tmp 7],rs:=[Ty.pair e8 (Ty.pair U8 Ty.unit),Ty.int IntKind.i64],ps:=[PK.v View,PK.v U8,PK.v U8],y5:=[],nt:=52 }
theorem b2E:u6 b5A:=w9 q9 ⟨a4T,a6e,b6K,trivial⟩
theorem b2r:y7 b5A Tryz.f53:=⟨rfl,rfl⟩
theorem c4p (aN:Int) (ab:Int) (x1:Int) (x2:Int):exec b5A 1000 [.code (d8 Tryz.prog 53)] (s5 a6X.ps (((aN,ab,()),x1,x2,()))) =
  .f6 (True) (cond (decide (U7 (aN,ab,())≠(0:Int))) (.ret ((((0:Int),(0:Int),()),U7 (aN,ab,()),()))) (.f6 (True) (cond (outside (bOr IntKind.u8 x1 x2)) (.ret ((((0:Int),(0:Int),()),(1:Int),()))) (cond (decide (U2 IntKind.u8 x1 x2≠(0:Int))) (.ret ((((0:Int),(0:Int),()),(1:Int),()))) (cond (decide (aN=(16777215:Int))) (.ret ((((0:Int),(0:Int),()),(8:Int),()))) (.f6 (True) (cond (!half (U6 IntKind.u8 ab x1) ab) (.ret ((((0:Int),(0:Int),()),(11:Int),()))) (.f6 (r7 IntKind.i64 (aN+(1:Int))) (.ret (((aN+(1:Int),bOr IntKind.u8 (U6 IntKind.u8 ab x1) x2,()),(0:Int),()))))))))))):=by kernel_rfl
theorem a6W:a6X.Valid Tryz.prog 53:=by
  refine p9.o5 b2E rfl rfl Tryz.func53 (c:=d8 Tryz.prog 53) rfl rfl b2r rfl ?_;rintro ⟨⟨(x0:Int),(x1:Int),⟨⟩⟩,(g:Int),(c:Int),⟨⟩⟩ - ⟨⟨h0,h1,-⟩,h2,h3,-⟩;refine j5 (n:=1000) b2E b2r ?_;refine g9 (c4p x0 x1 g c) ?_;have g0:-9223372036854775808<=x0/\x0<=9223372036854775807:=h0;have key:∀ r:a0Y×Int×Unit,O7 (x0,x1,()) g c=r->((r:DL [View,.int .i64])=a6X.fn ((x0,x1,()),g,c,())):=by rintro r rfl; rfl
  simp only [j6,Tree.holds,decide_eq_true_eq,decide_eq_false_iff_not];refine ⟨trivial,λ _=>⟨λ a=>key _ ?_,λ a=>⟨trivial,λ _=>⟨λ b=>key _ ?_,λ b=>⟨λ d=>key _ ?_,λ d=>⟨λ e=>key _ ?_,λ e=>⟨trivial,λ _=>⟨λ f=>key _ ?_,λ f=>⟨⟨?_,?_⟩,λ _=>key _ ?_⟩⟩⟩⟩⟩⟩⟩⟩⟩
  . rw [O7,if_pos a]; rfl
  . rw [O7,if_neg a,if_pos b]; rfl
  . rw [O7,if_neg a,if_neg (by simpa using b),if_pos d]; rfl
  . rw [O7,if_neg a,if_neg (by simpa using b),if_neg d,if_pos e]; rfl
  . rw [O7,if_neg a,if_neg (by simpa using b),if_neg d,if_neg e,if_pos f]; rfl
  . show -9223372036854775808<=_; omega
  . have:=(b8k (v:=(x0,x1,())) (by simpa using a)).2.1;show x0+1<=9223372036854775807; simp only at this; omega
  . rw [O7,if_neg a,if_neg (by simpa using b),if_neg d,if_neg e,if_neg (by simpa using f)]; rfl
def O8 (f:Nat->Int):Nat->Int
  | 0=>0
  | k+1=>if O8 f k≠0 then O8 f k else f k
theorem a73 {f:Nat->Int} {k:Nat} (h0:O8 f k=0) (h1:f k≠0):∀ {n:Nat},k<n->O8 f n=f k
  | 0,h=>by omega
  | n+1,h=>by
    by_cases e:k=n
    . subst e; simp [O8,h0]
    . have:=a73 h0 h1 (n:=n) (by omega);simp [O8,this,h1]
theorem a74 {f:Nat->Int} {k:Nat} (h0:O8 f k=0) (h1:f k=0):O8 f (k+1)=0:=by simp [O8,h0,h1]
theorem a2j {f:Nat->Int}:∀ {n:Nat},O8 f n=0↔∀ k,k<n->f k=0
  | 0=>by simp [O8]
  | n+1=>by
    constructor
    . intro h k hk;have h2:O8 f n=0:=by
        by_cases e:O8 f n=0
        . exact e
        . rw [O8,if_pos e] at h; exact absurd h e
      by_cases e:k=n
      . subst e; simpa [O8,h2] using h
      . exact a2j.1 h2 k (by omega)
    . intro h;exact a74 (a2j.2 (λ k hk=>h k (by omega))) (h n (by omega))
abbrev s4:=Int×List UInt8×Unit
abbrev a0D:=Int×List (List UInt8)×Unit
abbrev ToD:=Int×List s4×Unit
def b4B:p9:={ ps:=[.v e8,.v e8,.v e8],rs:=[.bool],pre:=λ _=>True,fn:=λ x=>(W4 x.1 x.2.1 x.2.2.1,()),out:=λ _=>() }
noncomputable def c4s:Env:={ P:=Tryz.prog,tt:=tt,C0:=[],res:=[Go.ResultVar.tmp 6],rs:=[Ty.bool],ps:=[PK.v e8,PK.v e8,PK.v e8],y5:=[],nt:=15 }
theorem b79:u6 c4s:=w9 q9 trivial
theorem b70:y7 c4s Tryz.f75:=⟨rfl,rfl⟩
theorem c7y (x0:Int) (x1:Int) (x2:Int):exec c4s 1000 [.code (d8 Tryz.prog 75)] (s5 b4B.ps ((x0,x1,x2,()))) =
  cond (decide (x1<=x0)) (.ret ((decide (x0<=x2),()))) (.ret ((false,()))):=by kernel_rfl
theorem a5I:b4B.Valid Tryz.prog 75:=by
  refine p9.o5 b79 rfl rfl Tryz.func75 (c:=d8 Tryz.prog 75) rfl rfl b70 rfl ?_;rintro ⟨(a:Int),(b:Int),(c:Int),⟨⟩⟩ - -
  refine j5 (n:=1000) b79 b70 ?_;refine g9 (c7y a b c) ?_;simp only [j6,Tree.holds,true_and,true_implies,decide_eq_true_eq,decide_eq_false_iff_not,Bool.not_eq_true',Bool.not_eq_false',Int.toNat_natCast,j7,List.length_set,List.length_cons,List.length_nil]
  repeat' first|exact trivial|(refine And.intro ?_ ?_)|(intro _)
  all_goals (show ((_,()):Bool×Unit)=(W4 a b c,()); simp [W4, *])
def D5 (s:List UInt8):Bool:=decide ((200:Int)<s.length)
def a4U:p9:={ ps:=[.v .str],rs:=[.bool],pre:=λ _=>True,fn:=λ x=>(D5 x.1,()),out:=λ _=>() }
noncomputable def b5C:Env:={ P:=Tryz.prog,tt:=tt,C0:=[],res:=[Go.ResultVar.tmp 2],rs:=[Ty.bool],ps:=[PK.v Ty.str],y5:=[],nt:=6 }
theorem b2F:u6 b5C:=w9 q9 trivial
theorem b2s:y7 b5C Tryz.f59:=⟨rfl,rfl⟩
theorem c4r (x0:List UInt8):exec b5C 1000 [.code (d8 Tryz.prog 59)] (s5 a4U.ps ((x0,()))) =
  .ret ((decide ((200:Int)<(↑(List.length x0):Int)),())):=by kernel_rfl
theorem a1L:a4U.Valid Tryz.prog 59:=by
  refine p9.o5 b2F rfl rfl Tryz.func59 (c:=d8 Tryz.prog 59) rfl rfl b2s rfl ?_;rintro ⟨(s:List UInt8),⟨⟩⟩ - -
  refine j5 (n:=1000) b2F b2s ?_;refine g9 (c4r s) ?_;rfl
def b9N:p9:={ ps:=[.v (.d0 false .str),.B8 59 []],rs:=[e8],pre:=λ x=>True,fn:=λ x=>(idxOf (D5) x.1,()),out:=λ _=>() }
noncomputable def b3w:Env:={ P:=Tryz.prog,tt:=tt,C0:=[(59,a4U)],res:=[Go.ResultVar.tmp 4],rs:=[Ty.int IntKind.i64],ps:=[PK.v (Ty.d0 false Ty.str),PK.B8 59 []],y5:=[(2,[(0,none),(1,none),(7,none),(8,none)])],nt:=19 }
theorem a9f:u6 b3w:=w9 q9 ⟨a1L,trivial⟩
theorem a87:y7 b3w Tryz.f94:=⟨rfl,rfl⟩
theorem c6q (x0:List (List UInt8)):exec b3w 1000 [.code (d8 Tryz.prog 94)] (s5 b9N.ps ((x0,(),()))) =
  .ctL (f9 (d8 Tryz.prog 94) 2) (St.mk [(0,AV.val (Ty.d0 false Ty.str) x0),(1,AV.B8 59 AV.nil),(7,AV.val e8 (↑(List.length x0):Int)),(8,AV.val e8 (0:Int))] []):=by kernel_rfl
def b5F (v0:List (List UInt8)) (v7:Int) (v8:Int):St:=St.mk [(0,AV.val (Ty.d0 false Ty.str) v0),(1,AV.B8 59 AV.nil),(7,AV.val e8 v7),(8,AV.val e8 v8)] []
theorem c4v (v0:List (List UInt8)) (v7:Int) (v8:Int):exec b3w 1000 (.code (f9 (d8 Tryz.prog 94) 2).1::.inLoop (f9 (d8 Tryz.prog 94) 2).1::(f9 (d8 Tryz.prog 94) 2).2) (b5F v0 v7 v8) =
  cond (decide (v8<v7)) (.f6 ((0:Int)<=v8/\v8<(↑(List.length v0):Int)) (.f6 (True) (cond (D5 (List.getD v0 (Int.toNat v8) [])) (.ret ((v8,()))) (.f6 (r7 IntKind.i64 (v8+(1:Int))) (.ctL (f9 (d8 Tryz.prog 94) 2) (St.mk [(0,AV.val (Ty.d0 false Ty.str) v0),(1,AV.B8 59 AV.nil),(7,AV.val e8 v7),(8,AV.val e8 (v8+(1:Int)))] [])))))) (.ret (((-1:Int),()))):=by kernel_rfl
theorem b6I:b9N.Valid Tryz.prog 94:=by
  refine p9.o5 a9f rfl rfl Tryz.func94 (c:=d8 Tryz.prog 94) rfl rfl a87 rfl ?_;rintro ⟨(l:List (List UInt8)),⟨⟩,⟨⟩⟩ - ⟨⟨hl,-⟩,-⟩;have hl:l.length<=9223372036854775807:=hl;refine j5 (n:=1000) a9f a87 ?_;refine g9 (c6q l ) ?_;refine Reach.K3 a9f a87 (λ i:Nat=>b5F l  (l.length:Int) (i:Int)) (λ i=>i<=l.length/\idxOf (D5) l=S8 (D5) (l.drop i) i)
    (λ i=>l.length - i) 1000 (λ _=>⟨s7 rfl,s7 rfl⟩) ?_ 0 ⟨by omega,rfl⟩
  rintro i ⟨k1,k2⟩ - ih;refine g9 (c4v ..) ?_;simp only [j6,Tree.holds,true_and,true_implies,decide_eq_true_eq,decide_eq_false_iff_not,Bool.not_eq_true',Bool.not_eq_false',Int.toNat_natCast,j7,List.length_set,List.length_cons,List.length_nil];refine ⟨λ h=>?_,λ h=>?_⟩
  . rw [a6M (show i<l.length by omega) [],S8] at k2;refine ⟨by omega,λ _=>⟨λ c=>?_,λ c=>⟨by omega,λ _=>ih (i+1) ⟨by omega,?_⟩ (by omega)⟩⟩⟩
    . show (((i:Int),()):Int×Unit)=(idxOf (D5) l,());rw [k2,if_pos (show (D5) (l.getD i [])=true from c)]
    . rw [k2,if_neg (show ¬ (D5) (l.getD i [])=true from λ h9=>Bool.noConfusion (Eq.trans (Eq.symm h9) c))]
  . rw [List.drop_eq_nil_of_le (by omega)] at k2;show (((-1:Int),()):Int×Unit)=(idxOf (D5) l,());rw [k2]; rfl
def b4J:p9:={ ps:=[.v (.d0 false .str),.B8 59 []],rs:=[.bool],pre:=λ x=>True,fn:=λ x=>(List.any (α:=List UInt8) x.1 (D5),()),out:=λ _=>() }
noncomputable def b50:Env:={ P:=Tryz.prog,tt:=tt,C0:=[(94,b9N)],res:=[Go.ResultVar.tmp 4],rs:=[Ty.bool],ps:=[PK.v (Ty.d0 false Ty.str),PK.B8 59 []],y5:=[],nt:=9 }
theorem b2M:u6 b50:=w9 q9 ⟨b6I,trivial⟩
theorem b2z:y7 b50 Tryz.f76:=⟨rfl,rfl⟩
theorem c4H (x0:List (List UInt8)):exec b50 1000 [.code (d8 Tryz.prog 76)] (s5 b4J.ps ((x0,(),()))) =
  .f6 (True) (.ret ((decide ((0:Int)<=idxOf D5 x0),()))):=by kernel_rfl
theorem b4I:b4J.Valid Tryz.prog 76:=by
  refine p9.o5 b2M rfl rfl Tryz.func76 (c:=d8 Tryz.prog 76) rfl rfl b2z rfl ?_;rintro ⟨(l:List (List UInt8)),⟨⟩,⟨⟩⟩ - -
  refine j5 (n:=1000) b2M b2z ?_;refine g9 (c4H l ) ?_;refine ⟨trivial,λ _=>?_⟩;show ((decide (0<=idxOf (D5) l),()):Bool×Unit)=(l.any (D5),());rw [b7A]
theorem c7J:Ty.wb .str=16:=rfl
def b9w:p9:={ ps:=[.v (.d0 false .str)],rs:=[.d0 true .str],pre:=λ x=>List.length (α:=List UInt8) x.1<=1048576,fn:=λ x=>x,out:=λ _=>() }
noncomputable def c4l:Env:={ P:=Tryz.prog,tt:=tt,C0:=[],res:=[Go.ResultVar.tmp 2],rs:=[Ty.d0 true Ty.str],ps:=[PK.v (Ty.d0 false Ty.str)],y5:=[],nt:=8 }
theorem b76:u6 c4l:=w9 q9 trivial
theorem b7W:y7 c4l Tryz.f32:=⟨rfl,rfl⟩
theorem c7v (x0:List (List UInt8)):exec c4l 1000 [.code (d8 Tryz.prog 32)] (s5 b9w.ps ((x0,()))) =
  .both (x0=[]) (.ret (([],()))) (.f6 ((0:Nat)+List.length x0<=140737488355328/\((0:Nat)+List.length x0)*Ty.wb Ty.str<=140737488355328) (.ret (([]++x0,())))):=by kernel_rfl
theorem a9Z:b9w.Valid Tryz.prog 32:=by
  refine p9.o5 b76 rfl rfl Tryz.func32 (c:=d8 Tryz.prog 32) rfl rfl b7W rfl ?_;rintro ⟨(l:List (List UInt8)),⟨⟩⟩ hp -
  have hp:l.length<=1048576:=hp;refine j5 (n:=1000) b76 b7W ?_;refine g9 (c7v l) ?_;simp only [j6,Tree.holds,true_and,true_implies,decide_eq_true_eq,decide_eq_false_iff_not,Bool.not_eq_true',Bool.not_eq_false',Int.toNat_natCast,j7,List.length_set,List.length_cons,List.length_nil,c7J];refine ⟨λ h=>?_,by omega,λ _=>rfl⟩;show (([],()):List (List UInt8)×Unit)=(l,());rw [show l=[] from h]
def f00:a0D:=(0,[],())
def G3 (s:a0D):Int:=if W4 s.1 0 16777215=false then 1 else if (16:Int)<s.2.1.length then 1 else if s.2.1.any D5=true then 2 else 0
def a6Z:p9:={ ps:=[.v N8],rs:=[e8],pre:=λ _=>True,fn:=λ x=>(G3 x.1,()),out:=λ _=>() }
noncomputable def b5V:Env:={ P:=Tryz.prog,tt:=tt,C0:=[(75,b4B),(76,b4J)],res:=[Go.ResultVar.tmp 2],rs:=[Ty.int IntKind.i64],ps:=[PK.v N8],y5:=[],nt:=18 }
theorem b2K:u6 b5V:=w9 q9 ⟨a5I,b4I,trivial⟩
theorem b2x:y7 b5V Tryz.f58:=⟨rfl,rfl⟩
theorem c4E (aN:Int) (ab:List (List UInt8)):exec b5V 1000 [.code (d8 Tryz.prog 58)] (s5 a6Z.ps (((aN,ab,()),()))) =
  .f6 (True) (cond (!W4 aN (0:Int) (16777215:Int)) (.ret (((1:Int),()))) (cond (decide ((16:Int)<(↑(List.length ab):Int))) (.ret (((1:Int),()))) (.f6 (True) (cond (List.any ab D5) (.ret (((2:Int),()))) (.ret (((0:Int),()))))))):=by kernel_rfl
theorem lnf {b:Bool} (h:b=true):¬ b=false:=by rw [h]; simp
theorem a3I:a6Z.Valid Tryz.prog 58:=by
  refine p9.o5 b2K rfl rfl Tryz.func58 (c:=d8 Tryz.prog 58) rfl rfl b2x rfl ?_;rintro ⟨⟨(b:Int),(l:List (List UInt8)),⟨⟩⟩,⟨⟩⟩ - -
  refine j5 (n:=1000) b2K b2x ?_;refine g9 (c4E b l) ?_;have key:∀ {x:Int},G3 (b,l,())=x->((x,()):Int×Unit)=(G3 (b,l,()),()):=by rintro x rfl; rfl
  have hd:G3 (b,l,())=if W4 b 0 16777215=false then 1 else if (16:Int)<l.length then 1 else if l.any D5=true then 2 else 0:=rfl
  simp only [j6,Tree.holds,true_and,true_implies,decide_eq_true_eq,decide_eq_false_iff_not,Bool.not_eq_true',Bool.not_eq_false',Int.toNat_natCast,j7,List.length_set,List.length_cons,List.length_nil];refine ⟨λ a=>key (by rw [hd,if_pos a]),λ a=>⟨λ c=>key (by rw [hd,if_neg (lnf a),if_pos c]),λ c=>⟨λ d=>key (by rw [hd,if_neg (lnf a),if_neg c,if_pos d]),λ d=>key (by rw [hd,if_neg (lnf a),if_neg c,if_neg (by rw [d]; simp)])⟩⟩⟩
theorem a0e {s:a0D} (h:G3 s=0):(0<=s.1/\s.1<=16777215)/\s.2.1.length<=16/\s.2.1.any D5=false:=by
  unfold G3 at h;split at h
  . cases h
  rename_i c1;split at h
  . cases h
  rename_i c2;split at h
  . cases h
  rename_i c3;exact ⟨Y9.1 (Bool.not_eq_false _▸c1),by omega,by simpa using c3⟩
def N1 (s:a0D) (x:List UInt8):a0D×Int×Unit :=
  if G3 s≠0 then (f00,G3 s,()) else if D5 x=true then (f00,2,()) else if (s.2.1.length:Int)=16\/16777215<=s.1+s.2.1.length then (f00,8,()) else ((s.1,s.2.1++[x],()),0,())
def b9I:p9:={ ps:=[.v N8,.v .str],rs:=[c5e,e8],pre:=λ _=>True,fn:=λ x=>N1 x.1 x.2.1,out:=λ _=>() }
noncomputable def c0y:Env:={ P:=Tryz.prog,tt:=tt,C0:=[(58,a6Z),(59,a4U),(32,b9w)],res:=[Go.ResultVar.cell 4 78,Go.ResultVar.tmp 5],rs:=[Ty.pair e8 (Ty.pair (Ty.d0 true Ty.str) Ty.unit),Ty.int IntKind.i64],ps:=[PK.v N8,PK.v Ty.str],y5:=[],nt:=41 }
theorem b5B:u6 c0y:=w9 q9 ⟨a3I,a1L,a9Z,trivial⟩
theorem b5f:y7 c0y Tryz.f42:=⟨rfl,rfl⟩
theorem c6n (aN:Int) (ab:List (List UInt8)) (x1:List UInt8):exec c0y 1000 [.code (d8 Tryz.prog 42)] (s5 b9I.ps (((aN,ab,()),x1,()))) =
  .f6 (True) (cond (decide (G3 (aN,ab,())≠(0:Int))) (.ret ((((0:Int),[],()),G3 (aN,ab,()),()))) (.f6 (True) (cond (D5 x1) (.ret ((((0:Int),[],()),(2:Int),()))) (cond (decide ((↑(List.length ab):Int)=(16:Int))) (.ret ((((0:Int),[],()),(8:Int),()))) (.f6 (r7 IntKind.i64 (aN+(↑(List.length ab):Int))) (cond (decide ((16777215:Int)<=aN+(↑(List.length ab):Int))) (.ret ((((0:Int),[],()),(8:Int),()))) (.f6 (List.length ab<=1048576) (.f6 (List.length ab+List.length (List.set [[]] (Int.toNat (↑0:Int)) x1)<=140737488355328/\(List.length ab+List.length (List.set [[]] (Int.toNat (↑0:Int)) x1))*Ty.wb Ty.str<=140737488355328) (.ret (((aN,ab++List.set [[]] (Int.toNat (↑0:Int)) x1,()),(0:Int),()))))))))))):=by kernel_rfl
theorem b6E:b9I.Valid Tryz.prog 42:=by
  refine p9.o5 b5B rfl rfl Tryz.func42 (c:=d8 Tryz.prog 42) rfl rfl b5f rfl ?_;rintro ⟨⟨(b:Int),(l:List (List UInt8)),⟨⟩⟩,(x:List UInt8),⟨⟩⟩ - -
  refine j5 (n:=1000) b5B b5f ?_;refine g9 (c6n b l x) ?_;have key:∀ {y:a0D×Int×Unit},N1 (b,l,()) x=y->y=N1 (b,l,()) x:=λ h=>h.symm;have hd:N1 (b,l,()) x=if G3 (b,l,())≠0 then (f00,G3 (b,l,()),()) else if D5 x=true then (f00,2,()) else if (l.length:Int)=16\/16777215<=b+l.length then (f00,8,()) else ((b,l++[x],()),0,()):=rfl
  have hw:Ty.wb .str=16:=rfl;simp only [j6,Tree.holds,true_and,true_implies,decide_eq_true_eq,decide_eq_false_iff_not,Bool.not_eq_true',Bool.not_eq_false',Int.toNat_natCast,j7,List.length_set,List.length_cons,List.length_nil,hw];refine ⟨λ a=>key (by rw [hd,if_pos a]<;>rfl),λ a=>?_⟩;have aP:=a0e (Decidable.not_not.1 a);simp only at aP;rw [if_neg a] at hd;refine ⟨λ c=>key (by rw [hd,if_pos c]<;>rfl),λ c=>?_⟩;rw [if_neg (by rw [c]; simp)] at hd;refine ⟨λ d=>key (by rw [hd,if_pos (.inl d)]<;>rfl),λ d=>⟨by omega,λ _=>⟨λ e=>key (by rw [hd,if_pos (.inr e)]<;>rfl),λ e=>⟨by omega,λ _=>⟨⟨by omega,by omega⟩,λ _=>key ?_⟩⟩⟩⟩⟩;rw [hd,if_neg (by rintro (h|h); exact d h; exact e h)]; rfl
def ahd (b x:Int):Int:=if x - b<0 then 0 else x - b
def N6 (s:a0D) (x:Int):a0D×Int×Unit :=
  if G3 s≠0 then (f00,G3 s,()) else if s.1+s.2.1.length<x then (f00,1,()) else ((s.1+ahd s.1 x,s.2.1.drop (ahd s.1 x).toNat,()),0,())
def b07:p9:={ ps:=[.v N8,.v e8],rs:=[c5e,e8],pre:=λ x=>LE.le (α:=Int) 0 x.2.1,fn:=λ x=>N6 x.1 x.2.1,out:=λ _=>() }
noncomputable def b1p:Env:={ P:=Tryz.prog,tt:=tt,C0:=[(58,a6Z),(32,b9w)],res:=[Go.ResultVar.cell 4 78,Go.ResultVar.tmp 5],rs:=[Ty.pair e8 (Ty.pair (Ty.d0 true Ty.str) Ty.unit),Ty.int IntKind.i64],ps:=[PK.v N8,PK.v e8],y5:=[],nt:=38 }
theorem b0A:u6 b1p:=w9 q9 ⟨a3I,a9Z,trivial⟩
theorem b0q:y7 b1p Tryz.f86:=⟨rfl,rfl⟩
theorem c2J (aN:Int) (ab:List (List UInt8)) (x1:Int):exec b1p 1000 [.code (d8 Tryz.prog 86)] (s5 b07.ps (((aN,ab,()),x1,()))) =
  .f6 (True) (cond (decide (G3 (aN,ab,())≠(0:Int))) (.ret ((((0:Int),[],()),G3 (aN,ab,()),()))) (.f6 (r7 IntKind.i64 (aN+(↑(List.length ab):Int))) (cond (decide (aN+(↑(List.length ab):Int)<x1)) (.ret ((((0:Int),[],()),(1:Int),()))) (.f6 (r7 IntKind.i64 (x1 - aN)) (.f6 (r7 IntKind.i64 (aN+if x1 - aN<(0:Int) then (0:Int) else x1 - aN)) (.f6 (((0:Int)<=if x1 - aN<(0:Int) then (0:Int) else x1 - aN)/\(if x1 - aN<(0:Int) then (0:Int) else x1 - aN)<=(↑(List.length ab):Int)/\(↑(List.length ab):Int)<=(↑(List.length ab):Int)) (.f6 (List.length (n5 (if x1 - aN<(0:Int) then (0:Int) else x1 - aN) (↑(List.length ab):Int) ab)<=1048576) (.ret (((aN+if x1 - aN<(0:Int) then (0:Int) else x1 - aN,n5 (if x1 - aN<(0:Int) then (0:Int) else x1 - aN) (↑(List.length ab):Int) ab,()),(0:Int),())))))))))):=by kernel_rfl
theorem b3b:b07.Valid Tryz.prog 86:=by
  refine p9.o5 b0A rfl rfl Tryz.func86 (c:=d8 Tryz.prog 86) rfl rfl b0q rfl ?_;rintro ⟨⟨(b:Int),(l:List (List UInt8)),⟨⟩⟩,(x:Int),⟨⟩⟩ (h0:0<=x) -
  refine j5 (n:=1000) b0A b0q ?_;refine g9 (c2J b l x) ?_;have key:∀ {y:a0D×Int×Unit},N6 (b,l,()) x=y->y=N6 (b,l,()) x:=λ h=>h.symm;have hd:N6 (b,l,()) x=if G3 (b,l,())≠0 then (f00,G3 (b,l,()),()) else if b+l.length<x then (f00,1,()) else ((b+ahd b x,l.drop (ahd b x).toNat,()),0,()):=rfl
  have ha:(if x - b<0 then 0 else x - b)=ahd b x:=rfl;have rI:0<=ahd b x/\(x<=b+l.length->ahd b x<=l.length)/\(ahd b x=0\/ahd b x=x - b):=by rw [ahd]; split<;>omega
  have ga:0<=ahd b x->n5 (ahd b x) (l.length:Int) l=l.drop (ahd b x).toNat:=λ h=>by
    rw [n5,List.take_of_length_le (by rw [List.length_drop]; omega)]
  rw [ha];generalize ahd b x=n at *
  rw [ga rI.1];simp only [j6,Tree.holds,true_and,true_implies,decide_eq_true_eq,decide_eq_false_iff_not,Bool.not_eq_true',Bool.not_eq_false',Int.toNat_natCast,j7,List.length_set,List.length_cons,List.length_nil];refine ⟨λ a=>key (by rw [hd,if_pos a]<;>rfl),λ a=>?_⟩;have aP:=a0e (Decidable.not_not.1 a);simp only at aP;rw [if_neg a] at hd;refine ⟨by omega,λ _=>⟨λ c=>key (by rw [hd,if_pos c]<;>rfl),λ c=>?_⟩⟩;rw [if_neg c] at hd;refine ⟨by omega,λ _=>⟨by omega,λ _=>⟨by omega,λ _=>⟨?_,λ _=>key (by rw [hd]<;>rfl)⟩⟩⟩⟩;rw [List.length_drop]; omega
def a1A (b most:Int) (l:List (List UInt8)):Nat->List s4
  | 0=>[]
  | i+1=>a1A b most l i++(if (i:Int)<most then [(b+i,l.getD i [],())] else [])
theorem a5c {b most:Int} {l:List (List UInt8)}:∀ {i:Nat},(a1A b most l i).length<=i
  | 0=>Nat.le_refl _
  | i+1=>by
    have:=a5c (b:=b) (most:=most) (l:=l) (i:=i);rw [a1A,List.length_append]
    split<;>simp<;>omega
def a0L (s:a0D) (most:Int):List s4×Int×Unit:=if G3 s≠0 then ([],G3 s,()) else (a1A s.1 most s.2.1 s.2.1.length,0,())
def b06:p9:={ ps:=[.v N8,.v e8],rs:=[.d0 true p7,e8],pre:=λ _=>True,fn:=λ x=>a0L x.1 x.2.1,out:=λ _=>() }
noncomputable def a7P:Env:={ P:=Tryz.prog,tt:=tt,C0:=[(58,a6Z)],res:=[Go.ResultVar.tmp 4,Go.ResultVar.tmp 5],rs:=[Ty.d0 true p7,Ty.int IntKind.i64],ps:=[PK.v N8,PK.v e8],y5:=[(6,[(1,none),(2,none),(7,some (Ty.d0 true p7)),(16,none),(17,none),(18,none)])],nt:=37 }
theorem a5X:u6 a7P:=w9 q9 ⟨a3I,trivial⟩
theorem a5V:y7 a7P Tryz.f54:=⟨rfl,rfl⟩
theorem c2I (aN:Int) (ab:List (List UInt8)) (x1:Int):exec a7P 1000 [.code (d8 Tryz.prog 54)] (s5 b06.ps (((aN,ab,()),x1,()))) =
  .f6 (True) (cond (decide (G3 (aN,ab,())≠(0:Int))) (.ret (([],G3 (aN,ab,()),()))) (.ctL (f9 (d8 Tryz.prog 54) 6) (St.mk [(1,AV.val e8 x1),(2,AV.ptr 2 []),(7,AV.at_ 1000007 []),(16,AV.val (Ty.d0 false Ty.str) ab),(17,AV.val e8 (↑(List.length ab):Int)),(18,AV.val e8 (0:Int))] [(2,g8.var N8 (aN,ab,())),(1000007,g8.own (Ty.d0 true p7) [])]))):=by kernel_rfl
def b0z (v1:Int) (v16:List (List UInt8)) (v17:Int) (v18:Int) (dt:Int) (cz:List (List UInt8)) (bt:List (Int×List UInt8×Unit)):St:=St.mk [(1,AV.val e8 v1),(2,AV.ptr 2 []),(7,AV.at_ 1000007 []),(16,AV.val (Ty.d0 false Ty.str) v16),(17,AV.val e8 v17),(18,AV.val e8 v18)] [(2,g8.var N8 (dt,cz,())),(1000007,g8.own (Ty.d0 true p7) bt)]
theorem c0w (v1:Int) (v16:List (List UInt8)) (v17:Int) (v18:Int) (dt:Int) (cz:List (List UInt8)) (bt:List (Int×List UInt8×Unit)):exec a7P 1000 (.code (f9 (d8 Tryz.prog 54) 6).1::.inLoop (f9 (d8 Tryz.prog 54) 6).1::(f9 (d8 Tryz.prog 54) 6).2) (b0z v1 v16 v17 v18 dt cz bt) =
  cond (decide (v18<v17)) (.f6 ((0:Int)<=v18/\v18<(↑(List.length v16):Int)) (cond (decide (v18<v1)) (.f6 (r7 IntKind.i64 (dt+v18)) (.f6 (List.length bt+List.length (List.set [((0:Int),[],())] (Int.toNat (↑0:Int)) (dt+v18,List.getD v16 (Int.toNat v18) [],()))<=140737488355328/\(List.length bt+List.length (List.set [((0:Int),[],())] (Int.toNat (↑0:Int)) (dt+v18,List.getD v16 (Int.toNat v18) [],())))*Ty.wb p7<=140737488355328) (.f6 (r7 IntKind.i64 (v18+(1:Int))) (.ctL (f9 (d8 Tryz.prog 54) 6) (St.mk [(1,AV.val e8 v1),(2,AV.ptr 2 []),(7,AV.at_ 1000007 []),(16,AV.val (Ty.d0 false Ty.str) v16),(17,AV.val e8 v17),(18,AV.val e8 (v18+(1:Int)))] [(2,g8.var N8 (dt,cz,())),(1000007,g8.own (Ty.d0 true p7) (bt++List.set [((0:Int),[],())] (Int.toNat (↑0:Int)) (dt+v18,List.getD v16 (Int.toNat v18) [],())))]))))) (.f6 (r7 IntKind.i64 (v18+(1:Int))) (.ctL (f9 (d8 Tryz.prog 54) 6) (St.mk [(1,AV.val e8 v1),(2,AV.ptr 2 []),(7,AV.at_ 1000007 []),(16,AV.val (Ty.d0 false Ty.str) v16),(17,AV.val e8 v17),(18,AV.val e8 (v18+(1:Int)))] [(2,g8.var N8 (dt,cz,())),(1000007,g8.own (Ty.d0 true p7) bt)]))))) (.ret ((bt,(0:Int),()))):=by kernel_rfl
theorem b3a:b06.Valid Tryz.prog 54:=by
  refine p9.o5 a5X rfl rfl Tryz.func54 (c:=d8 Tryz.prog 54) rfl rfl a5V rfl ?_;rintro ⟨⟨(b:Int),(l:List (List UInt8)),⟨⟩⟩,(m:Int),⟨⟩⟩ - -
  refine j5 (n:=1000) a5X a5V ?_;refine g9 (c2I b l m) ?_;have key:∀ {y:List s4×Int×Unit},a0L (b,l,()) m=y->y=a0L (b,l,()) m:=λ h=>h.symm;have hd:a0L (b,l,()) m=if G3 (b,l,())≠0 then ([],G3 (b,l,()),()) else (a1A b m l l.length,0,()):=rfl
  have hw:Ty.wb p7=24:=rfl;simp only [j6,Tree.holds,true_and,true_implies,decide_eq_true_eq,decide_eq_false_iff_not,Bool.not_eq_true',Bool.not_eq_false',Int.toNat_natCast,j7,List.length_set,List.length_cons,List.length_nil];refine ⟨λ a=>key (by rw [hd,if_pos a]<;>rfl),λ a=>?_⟩;have aP:=a0e (Decidable.not_not.1 a);simp only at aP;rw [if_neg a] at hd;refine Reach.K3 a5X a5V (λ i:Nat=>b0z m l (l.length:Int) (i:Int) b l (a1A b m l i)) (λ i=>i<=l.length) (λ i=>l.length - i) 1000 (λ _=>⟨s7 rfl,s7 rfl⟩) ?_ 0 (by omega);rintro i k1 - ih;have k1:i<=l.length:=k1;refine g9 (c0w ..) ?_;have mD:=a5c (b:=b) (most:=m) (l:=l) (i:=i);simp only [j6,Tree.holds,true_and,true_implies,decide_eq_true_eq,decide_eq_false_iff_not,Bool.not_eq_true',Bool.not_eq_false',Int.toNat_natCast,j7,List.length_set,List.length_cons,List.length_nil,hw];refine ⟨λ c=>⟨by omega,λ _=>?_⟩,λ c=>key (by rw [hd,show i=l.length by omega]<;>rfl)⟩;have next:=ih (i+1) (by show i+1<=l.length; omega) (by omega)
  rw [a1A] at next
  refine ⟨λ d=>⟨by omega,λ _=>⟨⟨by omega,by omega⟩,λ _=>⟨by omega,λ _=>?_⟩⟩⟩,λ d=>⟨by omega,λ _=>?_⟩⟩
  . rw [if_pos d] at next; exact next
  . rw [if_neg d,List.append_nil] at next; exact next
def Y1:s4:=(0,[],())
def t00:ToD:=(0,[],())
def b1e (r:Int) (l:List s4):Nat->Int
  | 0=>r
  | i+1=>(l.getD i Y1).1
def a1J (r:Int) (l:List s4) (i:Nat):Int:=if (l.getD i Y1).1<=b1e r l i then 4 else if r+16<=(l.getD i Y1).1 then 4 else if D5 (l.getD i Y1).2.1=true then 4 else 0
def toE (s:ToD):Int:=if W4 s.1 0 16777215=false then 1 else if (16:Int)<s.2.1.length then 2 else O8 (a1J s.1 s.2.1) s.2.1.length
def c3S:p9:={ ps:=[.v ToT],rs:=[e8],pre:=λ _=>True,fn:=λ x=>(toE x.1,()),out:=λ _=>() }
noncomputable def c0p:Env:={ P:=Tryz.prog,tt:=tt,C0:=[(75,b4B),(59,a4U)],res:=[Go.ResultVar.tmp 2],rs:=[Ty.int IntKind.i64],ps:=[PK.v ToT],y5:=[(7,[(1,none),(3,none),(19,none),(20,none),(21,none)])],nt:=45 }
theorem b1n:u6 c0p:=w9 q9 ⟨a5I,a1L,trivial⟩
theorem b1i:y7 c0p Tryz.f96:=⟨rfl,rfl⟩
theorem c7t (aN:Int) (ab:List (Int×List UInt8×Unit)):exec c0p 1000 [.code (d8 Tryz.prog 96)] (s5 c3S.ps (((aN,ab,()),()))) =
  .f6 (True) (cond (!W4 aN (0:Int) (16777215:Int)) (.ret (((1:Int),()))) (cond (decide ((16:Int)<(↑(List.length ab):Int))) (.ret (((2:Int),()))) (.ctL (f9 (d8 Tryz.prog 96) 7) (St.mk [(1,AV.ptr 1 []),(3,AV.val e8 aN),(19,AV.val J4 ab),(20,AV.val e8 (↑(List.length ab):Int)),(21,AV.val e8 (0:Int))] [(1,g8.var ToT (aN,ab,()))])))):=by kernel_rfl
def b74 (v3:Int) (v19:List (Int×List UInt8×Unit)) (v20:Int) (v21:Int) (dU:Int) (cL:List (Int×List UInt8×Unit)):St:=St.mk [(1,AV.ptr 1 []),(3,AV.val e8 v3),(19,AV.val J4 v19),(20,AV.val e8 v20),(21,AV.val e8 v21)] [(1,g8.var ToT (dU,cL,()))]
theorem c6f (v3:Int) (v19:List (Int×List UInt8×Unit)) (v20:Int) (v21:Int) (dU:Int) (cL:List (Int×List UInt8×Unit)):exec c0p 1000 (.code (f9 (d8 Tryz.prog 96) 7).1::.inLoop (f9 (d8 Tryz.prog 96) 7).1::(f9 (d8 Tryz.prog 96) 7).2) (b74 v3 v19 v20 v21 dU cL) =
  cond (decide (v21<v20)) (.f6 ((0:Int)<=v21/\v21<(↑(List.length v19):Int)) (cond (decide (Prod.fst (List.getD v19 (Int.toNat v21) ((0:Int),[],()))<=v3)) (.ret (((4:Int),()))) (.f6 (r7 IntKind.i64 (dU+(16:Int))) (cond (decide (dU+(16:Int)<=Prod.fst (List.getD v19 (Int.toNat v21) ((0:Int),[],())))) (.ret (((4:Int),()))) (.f6 (True) (cond (D5 (Prod.fst (Prod.snd (List.getD v19 (Int.toNat v21) ((0:Int),[],()))))) (.ret (((4:Int),()))) (.f6 (r7 IntKind.i64 (v21+(1:Int))) (.ctL (f9 (d8 Tryz.prog 96) 7) (St.mk [(1,AV.ptr 1 []),(3,AV.val e8 (Prod.fst (List.getD v19 (Int.toNat v21) ((0:Int),[],())))),(19,AV.val J4 v19),(20,AV.val e8 v20),(21,AV.val e8 (v21+(1:Int)))] [(1,g8.var ToT (dU,cL,()))]))))))))) (.ret (((0:Int),()))):=by kernel_rfl
theorem b9r:c3S.Valid Tryz.prog 96:=by
  refine p9.o5 b1n rfl rfl Tryz.func96 (c:=d8 Tryz.prog 96) rfl rfl b1i rfl ?_;rintro ⟨⟨(r:Int),(l:List s4),⟨⟩⟩,⟨⟩⟩ - -
  refine j5 (n:=1000) b1n b1i ?_;refine g9 (c7t r l) ?_;have key:∀ {x:Int},toE (r,l,())=x->((x,()):Int×Unit)=(toE (r,l,()),()):=by rintro x rfl; rfl
  have hd:toE (r,l,())=if W4 r 0 16777215=false then 1 else if (16:Int)<l.length then 2 else O8 (a1J r l) l.length:=rfl
  simp only [j6,Tree.holds,true_and,true_implies,decide_eq_true_eq,decide_eq_false_iff_not,Bool.not_eq_true',Bool.not_eq_false',Int.toNat_natCast,j7,List.length_set,List.length_cons,List.length_nil];refine ⟨λ a=>key (by rw [hd,if_pos a]),λ a=>?_⟩;have hr:=Y9.1 a;rw [if_neg (lnf a)] at hd;refine ⟨λ a=>key (by rw [hd,if_pos a]),λ a=>?_⟩;rw [if_neg a] at hd;refine Reach.K3 b1n b1i (λ i:Nat=>b74 (b1e r l i) l (l.length:Int) (i:Int) r l) (λ i=>i<=l.length/\O8 (a1J r l) i=0) (λ i=>l.length - i) 1000 (λ _=>⟨s7 rfl,s7 rfl⟩) ?_ 0 ⟨by omega,rfl⟩;rintro i ⟨k1,k2⟩ - ih;have k1:i<=l.length:=k1;refine g9 (c6f ..) ?_;simp only [j6,Tree.holds,true_and,true_implies,decide_eq_true_eq,decide_eq_false_iff_not,Bool.not_eq_true',Bool.not_eq_false',Int.toNat_natCast,j7,List.length_set,List.length_cons,List.length_nil];have hE:a1J r l i=if (l.getD i (0,[],())).1<=b1e r l i then 4 else if r+16<=(l.getD i (0,[],())).1 then 4 else if D5 (l.getD i (0,[],())).2.1=true then 4 else 0:=rfl
  have hB:b1e r l (i+1)=(l.getD i (0,[],())).1:=rfl;have stop:a1J r l i=4->i<l.length->toE (r,l,())=4:=λ h9 hi=>by rw [hd,a73 k2 (by rw [h9]; decide) hi,h9]
  have next:=λ(h:a1J r l i=0) (hi:i<l.length)=>ih (i+1) ⟨by omega,a74 k2 h⟩ (by omega)
  rw [hB] at next
  generalize l.getD i (0,[],())=w at *
  obtain ⟨q,x,u⟩:=w;simp only at hE next ⊢
  refine ⟨λ c=>⟨by omega,λ _=>⟨λ c1=>key (stop (by rw [hE,if_pos c1]) (by omega)),λ c1=>⟨by omega,λ _=>⟨λ c2=>key (stop (by rw [hE,if_neg c1,if_pos c2]) (by omega)),λ c2=>⟨λ c3=>key (stop (by rw [hE,if_neg c1,if_neg c2,if_pos c3]) (by omega)),λ c3=>⟨by omega,λ _=>next (by rw [hE,if_neg c1,if_neg c2,if_neg (by rw [c3]; simp)]) (by omega)⟩⟩⟩⟩⟩⟩,λ c=>key (by rw [hd,show l.length=i by omega,k2])⟩
def c3x (p:s4) (n:Int):Int:=p.1 - n
def b9K:p9:={ ps:=[.v p7,.v e8],rs:=[e8],pre:=λ x=>(LE.le (α:=Int) (-100000000) x.1.1/\LE.le (α:=Int) x.1.1 100000000)/\(LE.le (α:=Int) (-100000000) x.2.1/\LE.le (α:=Int) x.2.1 100000000),fn:=λ x=>(c3x x.1 x.2.1,()),out:=λ _=>() }
noncomputable def c0z:Env:={ P:=Tryz.prog,tt:=tt,C0:=[],res:=[Go.ResultVar.tmp 4],rs:=[Ty.int IntKind.i64],ps:=[PK.v p7,PK.v e8],y5:=[],nt:=9 }
theorem b5D:u6 c0z:=w9 q9 trivial
theorem b5g:y7 c0z Tryz.f99:=⟨rfl,rfl⟩
theorem c6o (aN:Int) (ab:List UInt8) (x1:Int):exec c0z 1000 [.code (d8 Tryz.prog 99)] (s5 b9K.ps (((aN,ab,()),x1,()))) =
  .f6 (r7 IntKind.i64 (aN - x1)) (.ret ((aN - x1,()))):=by kernel_rfl
theorem b6G:b9K.Valid Tryz.prog 99:=by
  refine p9.o5 b5D rfl rfl Tryz.func99 (c:=d8 Tryz.prog 99) rfl rfl b5g rfl ?_;rintro ⟨⟨(q:Int),(s:List UInt8),⟨⟩⟩,(n:Int),⟨⟩⟩ ⟨⟨(h1:-100000000<=q),(h2:q<=100000000)⟩,(h3:-100000000<=n),(h4:n<=100000000)⟩ -
  refine j5 (n:=1000) b5D b5g ?_;refine g9 (c6o q s n) ?_;simp only [j6,Tree.holds,true_and,true_implies,decide_eq_true_eq,decide_eq_false_iff_not,Bool.not_eq_true',Bool.not_eq_false',Int.toNat_natCast,j7,List.length_set,List.length_cons,List.length_nil];exact ⟨by omega,λ _=>rfl⟩
def atF (n:Int) (l:List s4):Nat:=(l.takeWhile λ p=>decide (p.1<n)).length
theorem c2n {n:Int}:∀ {l:List s4} {i:Nat},i<=l.length->(∀ k,k<i->(l.getD k Y1).1<n)->(i<l.length->n<=(l.getD i Y1).1)->atF n l=i
  | [],i,hi,_,_=>by simp at hi; subst hi; rfl
  | p::l,0,_,_,h=>by
    have:=h (by simp);rw [atF,List.takeWhile_cons,if_neg]
    . rfl
    . rw [decide_eq_true_eq]; show ¬ p.1<n; exact Int.not_lt.2 this
  | p::l,i+1,hi,h1,h2=>by
    have h0:p.1<n:=h1 0 (by omega);have:=c2n (l:=l) (i:=i) (by simpa using hi) (λ k hk=>h1 (k+1) (by omega)) (λ hk=>h2 (by simpa using hk));rw [atF,List.takeWhile_cons,if_pos (decide_eq_true h0),List.length_cons];rw [atF] at this; omega
def sorted (l:List s4):Prop:=(∀ i j,i<j->j<l.length->(l.getD i Y1).1<(l.getD j Y1).1)/\(∀ i,i<l.length->-100000000<=(l.getD i Y1).1/\(l.getD i Y1).1<=100000000)
def W9 (n:Int) (l:List s4):Bool:=decide (atF n l<l.length) && decide ((l.getD (atF n l) Y1).1 - n=0)
def c34:p9:={ ps:=[.v (.d0 false p7),.v e8,.B8 99 []],rs:=[e8,.bool],pre:=λ x=>(List.length (α:=s4) x.1<=1000/\sorted x.1)/\(LE.le (α:=Int) (-100000000) x.2.1/\LE.le (α:=Int) x.2.1 100000000),fn:=λ x=>((atF x.2.1 x.1:Int),W9 x.2.1 x.1,()),out:=λ _=>() }
noncomputable def c0S:Env:={ P:=Tryz.prog,tt:=tt,C0:=[(99,b9K)],res:=[Go.ResultVar.tmp 6,Go.ResultVar.tmp 7],rs:=[Ty.int IntKind.i64,Ty.bool],ps:=[PK.v J4,PK.v e8,PK.B8 99 []],y5:=[(3,[(0,none),(1,none),(2,none),(8,none),(9,none),(10,none)])],nt:=49 }
theorem b1s:u6 c0S:=w9 q9 ⟨b6G,trivial⟩
theorem b1j:y7 c0S Tryz.f98:=⟨rfl,rfl⟩
theorem c7D (x0:List (Int×List UInt8×Unit)) (x1:Int):exec c0S 1000 [.code (d8 Tryz.prog 98)] (s5 c34.ps ((x0,x1,(),()))) =
  .ctL (f9 (d8 Tryz.prog 98) 3) (St.mk [(0,AV.val J4 x0),(1,AV.val e8 x1),(2,AV.B8 99 AV.nil),(8,AV.val e8 (↑(List.length x0):Int)),(9,AV.val e8 (0:Int)),(10,AV.val e8 (↑(List.length x0):Int))] []):=by kernel_rfl
def b8d (v0:List (Int×List UInt8×Unit)) (v1:Int) (v8:Int) (v9:Int) (v10:Int):St:=St.mk [(0,AV.val J4 v0),(1,AV.val e8 v1),(2,AV.B8 99 AV.nil),(8,AV.val e8 v8),(9,AV.val e8 v9),(10,AV.val e8 v10)] []
theorem c6E (v0:List (Int×List UInt8×Unit)) (v1:Int) (v8:Int) (v9:Int) (v10:Int):exec c0S 1000 (.code (f9 (d8 Tryz.prog 98) 3).1::.inLoop (f9 (d8 Tryz.prog 98) 3).1::(f9 (d8 Tryz.prog 98) 3).2) (b8d v0 v1 v8 v9 v10) =
  cond (decide (v9<v10)) (.f6 (r7 IntKind.i64 (v9+v10)) (.f6 ((0:Int)<=(1:Int)) (.f6 ((0:Int)<=IntKind.wrap IntKind.i64 (IntKind.wrap IntKind.u64 (v9+v10) / (2:Int)^min (Int.toNat (1:Int)) (IntKind.bits IntKind.u64))/\IntKind.wrap IntKind.i64 (IntKind.wrap IntKind.u64 (v9+v10) / (2:Int)^min (Int.toNat (1:Int)) (IntKind.bits IntKind.u64))<(↑(List.length v0):Int)) (.f6 (((-100000000:Int)<=Prod.fst (List.getD v0 (Int.toNat (IntKind.wrap IntKind.i64 (IntKind.wrap IntKind.u64 (v9+v10) / (2:Int)^min (Int.toNat (1:Int)) (IntKind.bits IntKind.u64)))) ((0:Int),[],()))/\Prod.fst (List.getD v0 (Int.toNat (IntKind.wrap IntKind.i64 (IntKind.wrap IntKind.u64 (v9+v10) / (2:Int)^min (Int.toNat (1:Int)) (IntKind.bits IntKind.u64)))) ((0:Int),[],()))<=(100000000:Int))/\(-100000000:Int)<=v1/\v1<=(100000000:Int)) (cond (decide (c3x (List.getD v0 (Int.toNat (IntKind.wrap IntKind.i64 (IntKind.wrap IntKind.u64 (v9+v10) / (2:Int)^min (Int.toNat (1:Int)) (IntKind.bits IntKind.u64)))) ((0:Int),[],())) v1<(0:Int))) (.f6 (r7 IntKind.i64 (IntKind.wrap IntKind.i64 (IntKind.wrap IntKind.u64 (v9+v10) / (2:Int)^min (Int.toNat (1:Int)) (IntKind.bits IntKind.u64))+(1:Int))) (.ctL (f9 (d8 Tryz.prog 98) 3) (St.mk [(0,AV.val J4 v0),(1,AV.val e8 v1),(2,AV.B8 99 AV.nil),(8,AV.val e8 v8),(9,AV.val e8 (IntKind.wrap IntKind.i64 (IntKind.wrap IntKind.u64 (v9+v10) / (2:Int)^min (Int.toNat (1:Int)) (IntKind.bits IntKind.u64))+(1:Int))),(10,AV.val e8 v10)] []))) (.ctL (f9 (d8 Tryz.prog 98) 3) (St.mk [(0,AV.val J4 v0),(1,AV.val e8 v1),(2,AV.B8 99 AV.nil),(8,AV.val e8 v8),(9,AV.val e8 v9),(10,AV.val e8 (IntKind.wrap IntKind.i64 (IntKind.wrap IntKind.u64 (v9+v10) / (2:Int)^min (Int.toNat (1:Int)) (IntKind.bits IntKind.u64))))] []))))))) (cond (decide (v9<v8)) (.f6 ((0:Int)<=v9/\v9<(↑(List.length v0):Int)) (.f6 (((-100000000:Int)<=Prod.fst (List.getD v0 (Int.toNat v9) ((0:Int),[],()))/\Prod.fst (List.getD v0 (Int.toNat v9) ((0:Int),[],()))<=(100000000:Int))/\(-100000000:Int)<=v1/\v1<=(100000000:Int)) (.ret ((v9,decide (c3x (List.getD v0 (Int.toNat v9) ((0:Int),[],())) v1=(0:Int)),()))))) (.ret ((v9,false,())))):=by kernel_rfl
theorem b9Y:c34.Valid Tryz.prog 98:=by
  refine p9.o5 b1s rfl rfl Tryz.func98 (c:=d8 Tryz.prog 98) rfl rfl b1j rfl ?_;rintro ⟨(l:List s4),(n:Int),⟨⟩,⟨⟩⟩ ⟨⟨(h0:l.length<=1000),(hs:sorted l)⟩,(h1:-100000000<=n),(h2:n<=100000000)⟩ -
  refine j5 (n:=1000) b1s b1j ?_;refine g9 (c7D l n) ?_;refine Reach.K3 b1s b1j (λ s:Nat×Nat=>b8d l n (l.length:Int) (s.1:Int) (s.2:Int)) (λ s=>s.1<=s.2/\s.2<=l.length/\(∀ k,k<s.1->(l.getD k Y1).1<n)/\(∀ k,s.2<=k->k<l.length->n<=(l.getD k Y1).1)) (λ s=>s.2 - s.1) 1000 (λ _=>⟨s7 rfl,s7 rfl⟩) ?_ (0,l.length) ⟨Nat.zero_le _,Nat.le_refl _,λ k hk=>by omega,λ k hk eo=>by omega⟩;rintro ⟨i,j⟩ ⟨k1,k2,k3,k4⟩ - ih;have k1:i<=j:=k1;have k2:j<=l.length:=k2;have k3:∀ k,k<i->(l.getD k Y1).1<n:=k3;have k4:∀ k,j<=k->k<l.length->n<=(l.getD k Y1).1:=k4;refine g9 (c6E ..) ?_;have hh:IntKind.wrap .i64 (IntKind.wrap .u64 ((i:Int)+(j:Int)) / 2^min (Int.toNat 1) (IntKind.bits .u64))=(((i+j) / 2:Nat):Int):=by
    rw [M1 (k:=.u64) (by show (0:Int)<=_/\_<=(18446744073709551615:Int); omega)];rw [show (2:Int)^min (Int.toNat 1) (IntKind.bits .u64)=2 from rfl];rw [M1 (k:=.i64) (by show (-9223372036854775808:Int)<=_/\_<=(9223372036854775807:Int); omega)];omega
  rw [show ((i,j):Nat×Nat).1=i from rfl,show ((i,j):Nat×Nat).2=j from rfl,hh];simp only [j6,Tree.holds,true_and,true_implies,decide_eq_true_eq,decide_eq_false_iff_not,Bool.not_eq_true',Bool.not_eq_false',Int.toNat_natCast,j7,List.length_set,List.length_cons,List.length_nil];refine ⟨λ c=>⟨by omega,λ _=>⟨by omega,λ _=>?_⟩⟩,λ c=>?_⟩
  . have hm:(i+j) / 2<l.length:=by omega
    have kD:=hs.2 _ hm;have e0:l.getD ((i+j) / 2) (0,[],())=l.getD ((i+j) / 2) Y1:=rfl;rw [e0];refine ⟨⟨by omega,by omega⟩,λ _=>⟨⟨kD,h1,h2⟩,λ _=>⟨λ d=>⟨by omega,λ _=>?_⟩,λ d=>?_⟩⟩⟩
    . have d:(l.getD ((i+j) / 2) Y1).1 - n<0:=d;exact ih ((i+j) / 2+1,j) ⟨by show (i+j) / 2+1<=j; omega,k2,λ k hk=>(by
        have hk:k<(i+j) / 2+1:=hk;by_cases e:k=(i+j) / 2
        . subst e; omega
        . have:=hs.1 k ((i+j) / 2) (by omega) hm; omega),k4⟩ (by show j - ((i+j) / 2+1)<j - i; omega)
    . have d:¬ (l.getD ((i+j) / 2) Y1).1 - n<0:=d;exact ih (i,(i+j) / 2) ⟨by show i<=(i+j) / 2; omega,by show (i+j) / 2<=l.length; omega,k3,λ k hk eo=>(by
        have hk:(i+j) / 2<=k:=hk;by_cases e:k=(i+j) / 2
        . subst e; omega
        . have:=hs.1 ((i+j) / 2) k (by omega) eo; omega)⟩ (by show (i+j) / 2 - i<j - i; omega)
  . have e:j=i:=by omega
    subst e;have iQ:atF n l=j:=c2n k2 k3 (λ h=>k4 j (Nat.le_refl _) h);have key:∀ {x:Bool},W9 n l=x->(((j:Int),x,()):Int×Bool×Unit)=((atF n l:Int),W9 n l,()):=by rintro x rfl; rw [iQ]
    have hk:W9 n l=(decide (j<l.length) && decide ((l.getD j Y1).1 - n=0)):=by rw [W9,iQ]
    refine ⟨λ d=>⟨by omega,λ _=>⟨⟨hs.2 j (by omega),h1,h2⟩,λ _=>key ?_⟩⟩,λ d=>key ?_⟩
    . rw [hk,decide_eq_true (show j<l.length by omega),Bool.true_and]; rfl
    . rw [hk,decide_eq_false (show ¬ j<l.length by omega)]; rfl
theorem b4n {a b:s4}:H3 p7 a b=true↔a=b:=by
  obtain ⟨a1,a2,a3⟩:=a;obtain ⟨b1,b2,b3⟩:=b;show (decide (a1=b1) && (decide ((a2:List UInt8)=b2) && decide ((a3:Unit)=b3)))=true↔_;rw [Bool.and_eq_true,Bool.and_eq_true,decide_eq_true_eq,decide_eq_true_eq];constructor
  . rintro ⟨rfl,rfl,_⟩; rfl
  . intro h; cases h; exact ⟨rfl,rfl,by simp⟩
theorem c1P {a b:s4} (d:H3 p7 a b=false):¬ a=b:=λ h=>by rw [b4n.2 h] at d; cases d
end Go.Proofs.YtijlnmgondibnaaGreatDoor
namespace Go.Proofs.YtijlnmgondibnaaGreatDoor
open Go.Ex
def C8:List s4->Int->Int×List s4×List (List UInt8)
  | [],n=>(n,[],[])
  | p::l,n=>if p.1=n then ((C8 l (n+1)).1,(C8 l (n+1)).2.1,p.2.1::(C8 l (n+1)).2.2) else (n,p::l,[])
def a6t (b:Int):List s4->Prop
  | []=>True
  | p::l=>b<p.1/\a6t p.1 l
theorem a8A {b:Int}:∀ {l:List s4} {p:s4},a6t b l->p∈l->b<p.1
  | q::l,p,⟨h1,h2⟩,hp=>by
    rcases List.mem_cons.1 hp with rfl|hp
    . exact h1
    . have:=a8A h2 hp; omega
theorem b7m:∀ {l:List s4} {n:Int},a6t (n - 1) l->a6t (C8 l n).1 (C8 l n).2.1/\(C8 l n).1=n+(C8 l n).2.2.length/\(C8 l n).2.1.length+(C8 l n).2.2.length=l.length/\(∀ p∈(C8 l n).2.1,p∈l)
  | [],n,_=>⟨trivial,by simp [C8],by simp [C8],by simp [C8]⟩
  | p::l,n,⟨h1,h2⟩=>by
    rw [C8];by_cases e:p.1=n
    . rw [if_pos e];obtain ⟨a1,a2,a3,a4⟩:=b7m (l:=l) (n:=n+1) (by rw [show n+1 - 1=p.1 by omega]; exact h2);refine ⟨a1,?_,?_,λ q hq=>List.mem_cons_of_mem _ (a4 q hq)⟩
      . show (C8 l (n+1)).1=n+((p.2.1::(C8 l (n+1)).2.2).length:Int);rw [List.length_cons]; omega
      . show (C8 l (n+1)).2.1.length+(p.2.1::(C8 l (n+1)).2.2).length=(p::l).length;rw [List.length_cons,List.length_cons]; omega
    . rw [if_neg e];exact ⟨⟨by show n<p.1; omega,h2⟩,by simp,by simp,λ q hq=>hq⟩
theorem b3L {c:Int}:∀ {l:List s4} {b:Int},a6t b l->(∀ p∈l,p.1<c)->l≠[]->(l.length:Int)+b<c
  | [p],b,⟨h1,_⟩,h,_=>by have:=h p List.mem_cons_self; show ((1:Nat):Int)+b<c; omega
  | p::x::l,b,⟨h1,h2⟩,h,_=>by
    have:=b3L (l:=x::l) h2 (λ y hy=>h y (List.mem_cons_of_mem _ hy)) (by simp);rw [List.length_cons]; omega
def a4m (p:s4) (l:List s4):List s4:=l.take (atF p.1 l)++p::l.drop (atF p.1 l)
theorem c3C {p y:s4} {l:List s4}:y∈a4m p l↔y=p\/y∈l:=by
  have h:y∈l↔y∈l.take (atF p.1 l)\/y∈l.drop (atF p.1 l):=by rw [<- List.mem_append,List.take_append_drop]
  rw [a4m,List.mem_append,List.mem_cons,h];constructor
  . rintro (a|a|a)
    . exact .inr (.inl a)
    . exact .inl a
    . exact .inr (.inr a)
  . rintro (a|a|a)
    . exact .inr (.inl a)
    . exact .inl a
    . exact .inr (.inr a)
theorem c3D {p:s4} {l:List s4}:(a4m p l).length=l.length+1:=by
  rw [a4m,List.length_append,List.length_cons,List.length_take,List.length_drop]; omega
theorem a3s:∀ {l:List s4} {b:Int},a6t b l↔∀ i,i<l.length->b1e b l i<(l.getD i Y1).1
  | [],b=>⟨λ _ i hi=>absurd hi (Nat.not_lt_zero _),λ _=>trivial⟩
  | p::l,b=>by
    constructor
    . rintro ⟨h1,h2⟩ i hi
      match i,hi with
      | 0,_=>exact h1
      | 1,hi=>exact (a3s.1 h2) 0 (by simpa using hi)
      | i+2,hi=>exact (a3s.1 h2) (i+1) (by rw [List.length_cons] at hi; omega)
    . intro h;refine ⟨h 0 (by simp),a3s.2 λ i hi=>?_⟩
      match i,hi with
      | 0,hi=>exact h 1 (by simpa using hi)
      | i+1,hi=>exact h (i+2) (by rw [List.length_cons]; omega)
structure b45 (r:Int) (l:List s4):Prop where
  rg:0<=r/\r<=16777215
  len:l.length<=16
  up:a6t r l
  b:∀ p∈l,p.1<r+16/\D5 p.2.1=false
theorem b0E {r:Int} {l:List s4} {u:Unit}:toE (r,l,u)=0↔b45 r l:=by
  have hd:toE (r,l,u)=if W4 r 0 16777215=false then 1 else if (16:Int)<l.length then 2 else O8 (a1J r l) l.length:=rfl
  rw [hd];constructor
  . intro h;split at h
    . cases h
    rename_i c1;split at h
    . cases h
    rename_i c2;have h:=a2j.1 h;have hE:∀ i,i<l.length->b1e r l i<(l.getD i Y1).1/\(l.getD i Y1).1<r+16/\D5 (l.getD i Y1).2.1=false:=λ i hi=>by
      have:=h i hi;unfold a1J at this;split at this
      . cases this
      split at this
      . cases this
      split at this
      . cases this
      rename_i d1 d2 d3;exact ⟨by omega,by omega,by simpa using d3⟩
    refine ⟨Y9.1 (Bool.not_eq_false _▸c1),by omega,a3s.2 λ i hi=>(hE i hi).1,λ p hp=>?_⟩;obtain ⟨i,hi,rfl⟩:=List.getElem_of_mem hp;have:=hE i hi;rw [List.getD_eq_getElem?_getD,List.getElem?_eq_getElem hi] at this;exact this.2
  . intro h;rw [if_neg (by rw [Y9.2 h.rg]; simp),if_neg (by have:=h.len; omega)];refine a2j.2 λ i hi=>?_;have h1:=a3s.1 h.up i hi;obtain ⟨h2,h3⟩:=h.b (l.getD i Y1) (a5z hi);rw [a1J,if_neg (by omega),if_neg (by omega),if_neg (by rw [h3]; simp)]
theorem b6c {l:List s4}:∀ {b:Int},a6t b l->∀ i j,i<j->j<l.length->(l.getD i Y1).1<(l.getD j Y1).1:=by
  induction l with
  | nil=>intro b _ i j _ h; exact absurd h (Nat.not_lt_zero _)
  | cons p l ih =>
    rintro b ⟨h1,h2⟩ i j cd hj
    match i,j,cd,hj with
    | 0,j+1,_,hj=>exact a8A h2 (a5z (by simpa using hj))
    | i+1,j+1,cd,hj=>exact ih h2 i j (by omega) (by simpa using hj)
end Go.Proofs.YtijlnmgondibnaaGreatDoor
namespace Go.Proofs.YtijlnmgondibnaaGreatDoor
open Go.Ex
def C3 (s:ToD) (p:s4):ToD×List (List UInt8)×Int×Unit :=
  if toE s≠0 then (t00,[],toE s,()) else if W4 p.1 0 16777214=false then (t00,[],1,()) else if D5 p.2.1=true then (t00,[],2,()) else
  if p.1<s.1\/s.1+16<=p.1\/W9 p.1 s.2.1=true then (s,[],0,()) else if s.1<p.1 then ((s.1,a4m p s.2.1,()),[],0,()) else
  (((C8 s.2.1 (s.1+1)).1,(C8 s.2.1 (s.1+1)).2.1,()),p.2.1::(C8 s.2.1 (s.1+1)).2.2,0,())
theorem c3u {r:Int} {l:List s4} {p:s4} (h:b45 r l) (h1:0<=p.1/\p.1<=16777214) (h2:D5 p.2.1=false):C3 (r,l,()) p =
    if p.1<r\/r+16<=p.1\/W9 p.1 l=true then ((r,l,()),[],0,()) else if r<p.1 then ((r,a4m p l,()),[],0,()) else
    (((C8 l (r+1)).1,(C8 l (r+1)).2.1,()),p.2.1::(C8 l (r+1)).2.2,0,()):=by
  rw [C3,if_neg (by simp [b0E.2 h]),if_neg (by rw [Y9.2 h1]; simp),if_neg (by rw [h2]; simp)]
theorem c1v {s:ToD} {p:s4} (h:(C3 s p).2.2.1≠0):(C3 s p).2.1=[]:=by
  by_cases c1:toE s≠0
  . rw [C3,if_pos c1]
  by_cases c2:W4 p.1 0 16777214=false
  . rw [C3,if_neg c1,if_pos c2]
  by_cases c3:D5 p.2.1=true
  . rw [C3,if_neg c1,if_neg c2,if_pos c3]
  by_cases c4:p.1<s.1\/s.1+16<=p.1\/W9 p.1 s.2.1=true
  . rw [C3,if_neg c1,if_neg c2,if_neg c3,if_pos c4]
  by_cases c5:s.1<p.1
  . rw [C3,if_neg c1,if_neg c2,if_neg c3,if_neg c4,if_pos c5]
  . rw [C3,if_neg c1,if_neg c2,if_neg c3,if_neg c4,if_neg c5] at h; exact absurd rfl h
end Go.Proofs.YtijlnmgondibnaaGreatDoor
set_option linter.unusedVariables false
set_option linter.unusedSimpArgs false
namespace Go.Proofs.YtijlnmgondibnaaGreatDoor
open Go Go.Shelf Go.RowKit Go.Lib
theorem b3A {P:Program} (w:World) {o:Oper} {a:Act} {K:Act->World->Prop} {Q:Exit->Act->World->Prop} (d s:Operand) (t t':TypeId)
    (ho:o.op=.call { callee:=.builtin .copy,args:=#[d,s],argTypes:=#[t,t'] }) (v u:Value) (hd:a.eval d=v) (hs:a.eval s=u) {v':Value} {w':World}
    (hr:(Builtin.copy_ #[t,t'] o.type #[v,u]).run P w=.ok v' w') (h:K (a.put o.dst v') w'):o.wp P a w K Q:=by
  unfold Oper.wp execOp;simp only [ho,resolve,invoke,builtin,Sem.run_bind,Sem.run_pure,Result.andThen_ok,List.map_toArray,List.map_cons,List.map_nil,hd,hs,hr];exact h
theorem a3p {P:Program} (w:World) {ops:Array Oper} {rest:List Oper} {o:Oper} {a:Act} {Q:Exit->Act->World->Prop} (ot:o.guard=none) (d s:Operand) (t t':TypeId)
    (ho:o.op=.call { callee:=.builtin .copy,args:=#[d,s],argTypes:=#[t,t'] }) (v u:Value) (hd:a.eval d=v) (hs:a.eval s=u) {v':Value} {w':World}
    (hr:(Builtin.copy_ #[t,t'] o.type #[v,u]).run P w=.ok v' w') (h:wpList P ops Q rest (a.put o.dst v') w'):wpList P ops Q (o::rest) a w :=
  wpList_plain ot λ _ hK=>b3A w d s t t' ho v u hd hs hr (hK _ _ h)
theorem a4D {P:Program} {ops:Array Oper} {o:Oper} {a:Act} {w:World} {K:Act->World->Prop} {Q:Exit->Act->World->Prop} {E:Prop}
    (hg:o.guard=none) (d x:Operand) (dT sT:TypeId) (cT:o.op=Op.call { callee:=Callee.builtin Builtin.copy,args:=#[d,x],argTypes:=#[dT,sT] })
    (v u:Value) (hd:a.eval d=v) (hx:a.eval x=u) {v':Value} {w':World} (hr:(Builtin.copy_ #[dT,sT] o.type #[v,u]).run P w=.ok v' w') (hK:K (a.put o.dst v') w') :
    if Region.wanted o (yielded ops a.tmps)=true then Oper.wp P o a w K Q else E:=by
  have hw:Region.wanted o (yielded ops a.tmps)=true:=by simp [Region.wanted,hg]
  rw [if_pos hw];unfold Oper.wp;simp [execOp,cT,resolve,invoke,builtin,hd,hx,hr,Result.andThen];exact hK
theorem a0y (b:Nat) (vs:List Value) (o:Nat) (w:World) (h:∀ j,j<vs.length->(w.cell? ⟨b,o+j,none⟩).isSome=true) (k:Nat) (hk:(w.cell? ⟨b,k,none⟩).isSome=true):((w.setCells b o vs).cell? ⟨b,k,none⟩).isSome=true:=by
  by_cases dQ:o<=k/\k<o+vs.length
  . have:=World.cell?_setCells_in b vs o w h (k - o) (by omega);rw [show o+(k - o)=k by omega] at this;rw [this]; rfl
  . rw [World.cell?_setCells_out b vs o w ⟨b,k,none⟩ (λ _ _=>by show k<o\/o+vs.length<=k; omega)];exact hk
theorem a23 {P:Program} (w:World) (dT sT ty elem:TypeId) (k b o dLen dCap:Nat) (a:Addr) (sLen sCap:Nat) (cs:List Value)
    (hu:P.underlying dT=some (.slice elem)) (hs:(P.info? elem).map (·.size)=some k) (hn:cs.length=Nat.min sLen dLen*k)
    (dX:∀ j v,cs[j]?=some v->w.cell? (a.add j)=some v) (hc:∀ j,j<cs.length->(w.cell? ⟨b,o+j,none⟩).isSome=true) (hf:∀ j,j<cs.length->w.frozen? ⟨b,o+j,none⟩=false) (h1:∀ v∈cs,v.oneCell'=true) :
    (Builtin.copy_ #[dT,sT] ty #[.slice (some ⟨b,o,none⟩) dLen dCap,.slice (some a) sLen sCap]).run P w=.ok (goInt (Nat.min sLen dLen)) (w.setCells b o cs):=by
  have hl:=run_loadCells_list (P:=P) w a cs dX;have bN:=run_storeCells_cells (P:=P) b o cs 0 w (by simpa using hc) (by simpa using hf) h1;cases hq:P.info? elem with
  | none=>simp [hq] at hs
  | some i =>
    have hi:i.size=k:=by simpa [hq] using hs
    rw [hn] at hl;simp [Builtin.copy_,run_underlying hu,Builtin.lenOf,Builtin.firstCells,sizeOf,typeInfo,hq,hi,hl,bN]
set_option maxHeartbeats 4000000 in
set_option maxRecDepth 100000 in
theorem c1G (b off n c i vb voff vc:Nat) (cs vs:List Value) (w:World) (hi:i<n) (ch:n+1<=c) (rD:c<=9223372036854775807) (mA:vb≠b)
    (df:cs.length=n*2) (gE:vs.length=2)
    (hcs:∀ j v,cs[j]?=some v->w.cell? ⟨b,off+j,none⟩=some v) (hJ:∀ j,j<(n+1)*2->(w.cell? ⟨b,off+j,none⟩).isSome=true) (pO:∀ j,j<(n+1)*2->w.frozen? ⟨b,off+j,none⟩=false)
    (gZ:∀ j v,vs[j]?=some v->w.cell? ⟨vb,voff+j,none⟩=some v) (kt:∀ v∈cs,v.oneCell'=true) (pj:∀ v∈vs,v.oneCell'=true)
    (tA tB:TypeId) (kA kB:Nat) (qz:w.shape? vb=some (tA,kA)) (qy:w.shape? b=some (tB,kB)) (qY:kB≠0) (ru:w.frozen? ⟨vb,voff,none⟩=false) (ov:w.frozen? ⟨vb,kA,none⟩=false) :
    Calls Tryz.prog 100 #[.slice (some ⟨b,off,none⟩) n c,.int .i64 i,.slice (some ⟨vb,voff,none⟩) 1 vc] w λ e w' =>
      e=.returned (.slice (some ⟨b,off,none⟩) (n+1) c)/\w'=(w.drew.setCells b (off+(i+1)*2) (cs.drop (i*2))).setCells b (off+i*2) vs:=by
  have mX:¬ ((i:Int)=(n:Int)):=by omega
  have bn:(Tryz.prog.info? 104).map (·.size)=some 2:=by kernel_rfl
  have mE:∀ lb cb,(callFunc 111 #[.slice (some ⟨vb,voff,none⟩) 1 vc,.slice (some ⟨b,off+(i+1)*2,none⟩) lb cb]).run Tryz.prog w=.ok (.value (.bool false)) w:=λ lb cb=>by
    rw [run_callFunc_extern Tryz.func111 (by kernel_rfl) (by kernel_rfl) (by kernel_rfl) (e:=Extern.SlicesOverlaps.overlaps #[81,81] #[4]) (by kernel_rfl),
      Lib.run_overlaps_apart w 81 4 104 Tryz.underlying81 2 Tryz.sizeOf104 ⟨vb,voff,none⟩ ⟨b,off+(i+1)*2,none⟩ 1 vc lb cb mA tA tB kA kB qz qy qY ru ov]
    rfl
  have fZ:(cs.drop (i*2)).length=(n - i)*2:=by rw [List.length_drop,df]; omega
  have gY:IntKind.i64.wrap ((i:Int)+(1:Int))=(i:Int)+(1:Int):=by rw [IntKind.wrap_i64]; omega
  have dh:(0:Int)<=(i:Int)+(1:Int):=by omega
  have dQ:i<=n:=by omega
  have py:((i:Int)+(1:Int)).toNat=i+1:=by omega
  have eL:¬ (c=i+1):=by omega
  have oQ:(i:Int)<=(n:Int)+(1:Int):=by omega
  have sP:¬ (c=i):=by omega
  have lY:∀ ty dc sc,(Builtin.copy_ #[81,81] ty #[.slice (some ⟨b,off+(i+1)*2,none⟩) (n - i) dc,.slice (some ⟨b,off+i*2,none⟩) (n+1 - i) sc]).run Tryz.prog w.drew=.ok (goInt (Nat.min (n+1 - i) (n - i))) (w.drew.setCells b (off+(i+1)*2) (cs.drop (i*2))):=λ ty dc sc =>
    a23 w.drew _ _ ty 104 2 b (off+(i+1)*2) (n - i) dc ⟨b,off+i*2,none⟩ (n+1 - i) sc (cs.drop (i*2)) Tryz.underlying81 bn (by rw [fZ]; simp only [Nat.min_def]; split<;>omega)
      (λ j v hj=>by rw [Addr.add_lit,Nat.add_assoc]; exact hcs (i*2+j) v (by rwa [List.getElem?_drop] at hj))
      (λ j hj=>by rw [Nat.add_assoc]; exact hJ _ (by omega)) (λ j hj=>by rw [Nat.add_assoc]; exact pO _ (by omega)) (λ v hv=>kt v (List.mem_of_mem_drop hv))
  obtain ⟨W1,fy⟩:∃ W1,W1=w.drew.setCells b (off+(i+1)*2) (cs.drop (i*2)):=⟨_,rfl⟩;have np:∀ k,k<(n+1)*2->(W1.cell? ⟨b,off+k,none⟩).isSome=true:=λ k hk=>by
    rw [fy];exact a0y b _ _ _ (λ j hj=>by rw [Nat.add_assoc]; exact hJ _ (by omega)) _ (hJ k hk)
  have oF:∀ (W:World),(∀ x,W.cell? x=W1.cell? x)->(∀ x,W.frozen? x=W1.frozen? x)->∀ ty dc,(Builtin.copy_ #[81,81] ty #[.slice (some ⟨b,off+i*2,none⟩) (n+1 - i) dc,.slice (some ⟨vb,voff,none⟩) 1 vc]).run Tryz.prog W=.ok (goInt (Nat.min 1 (n+1 - i))) (W.setCells b (off+i*2) vs):=λ W jq mf ty dc =>
    a23 W _ _ ty 104 2 b (off+i*2) (n+1 - i) dc ⟨vb,voff,none⟩ 1 vc vs Tryz.underlying81 bn (by rw [gE]; simp only [Nat.min_def]; split<;>omega)
      (λ j v hj=>by
        rw [Addr.add_lit,jq,fy,World.cell?_setCells_out b _ _ _ _ (λ h _=>absurd h mA)];exact gZ j v hj)
      (λ j hj=>by rw [jq,Nat.add_assoc]; exact np _ (by omega)) (λ j hj=>by rw [mf,fy,World.frozen?_setCells,Nat.add_assoc]; exact pO _ (by omega)) pj
  rw [<- fy] at lY;have mixed:Tryz.prog.follows .mixedOrders=true:=by kernel_rfl
  go_enter Tryz.func100,Tryz.ntmps100
  go_wp2_with (simp only [mE])
  go_region_law_o (refine a4D rfl _ _ 81 81 rfl _ _ (by simp [Act.eval,Act.put]) (by simp [Act.eval,Act.put]) (lY _ _ _) ?_)
  go_wp2_with (at_builtin; refine a3p _ rfl _ _ 81 81 rfl _ _ rfl rfl (oF _ (λ _=>rfl) (λ _=>rfl) _ _) ?_)
  go_ret
  first|exact ⟨rfl,rfl⟩|exact ⟨rfl,by rw [fy]⟩
end Go.Proofs.YtijlnmgondibnaaGreatDoor
namespace Go.Proofs.YtijlnmgondibnaaGreatDoor
open Go Go.Shelf Go.RowKit Go.Lib
set_option linter.unusedVariables false
set_option linter.unusedSimpArgs false
theorem b1u {z:Array Value} {k m:Nat} (h:z.size=k):(Builtin.zeroCells z m).size=m*k:=by
  simp [Builtin.zeroCells,h]
set_option maxHeartbeats 4000000 in
set_option maxRecDepth 100000 in
theorem c3B (b off n c i vb voff vc:Nat) (cs vs:List Value) (w:World) (hi:i<n) (sK:n<=c) (ch:c<n+1) (oO:(n+1)*24<=140737488355328)
    (df:cs.length=n*2) (gE:vs.length=2)
    (hcs:∀ j v,cs[j]?=some v->w.cell? ⟨b,off+j,none⟩=some v)
    (gZ:∀ j v,vs[j]?=some v->w.cell? ⟨vb,voff+j,none⟩=some v) (kt:∀ v∈cs,v.oneCell'=true) (pj:∀ v∈vs,v.oneCell'=true) :
    Calls Tryz.prog 100 #[.slice (some ⟨b,off,none⟩) n c,.int .i64 i,.slice (some ⟨vb,voff,none⟩) 1 vc] w λ e w' =>
      ∃ G Z,n+1<=G/\G<=maxLen/\Z.size=(G - i)*2/\e=.returned (.slice (some ⟨w.heap.size,0,none⟩) (n+1) G) /\
      w'=(((w.alloc (.cells ((cs.take (i*2)).toArray++Z) 104)).drew.setCells w.heap.size (i*2) vs).drew).setCells w.heap.size ((i+1)*2) (cs.drop (i*2)):=by
  have bn:(Tryz.prog.info? 104).map (·.size)=some 2:=by kernel_rfl
  have ee:(Tryz.prog.info? 104).map (λ i=>(i.size,i.bytes,i.zero.map (λ z=>z.cells.size)))=some (2,24,some 2):=by kernel_rfl
  have mixed:Tryz.prog.follows .mixedOrders=true:=by kernel_rfl
  obtain ⟨i0,lQ,mv,mW,z,ir,jt⟩:∃ i0,Tryz.prog.info? 104=some i0/\i0.size=2/\i0.bytes=24/\∃ z,i0.zero=some z/\z.cells.size=2:=by
    cases h:Tryz.prog.info? 104 with
    | none=>rw [h] at ee; cases ee
    | some i0 =>
      rw [h] at ee;simp only [Option.map_some,Option.some.injEq,Prod.mk.injEq,Option.map_eq_some_iff] at ee;obtain ⟨h1,h2,z,h3,h4⟩:=ee;exact ⟨i0,rfl,h1,h2,z,h3,h4⟩
  have mX:¬ ((i:Int)=(n:Int)):=by omega
  have sJ:(c:Int)<(n:Int)+(1:Int):=by omega
  have rE:b<w.heap.size:=block_lt_of_cell (hcs 0 _ (List.getElem?_eq_getElem (by omega)));have dA:vb<w.heap.size:=block_lt_of_cell (gZ 0 _ (List.getElem?_eq_getElem (by omega)));have lL:(n:Int)+(1:Int) - (i:Int)=((n+1 - i:Nat):Int):=by omega
  have jR:i+(n+1 - i)=n+1:=by omega
  have ix:(cs.take (i*2)).length=i*2:=by rw [List.length_take,df]; omega
  have hold:(Builtin.firstCells i0.size i (.slice (some ⟨b,off,none⟩) i c)).run Tryz.prog w.drew=.ok (cs.take (i*2)).toArray w.drew:=by
    rw [mv];exact run_firstCells_some w.drew 2 i ⟨b,off,none⟩ i c (cs.take (i*2)) ix (λ j v hj=>by
      rw [Addr.add_lit];rw [List.getElem?_take] at hj;split at hj
      . exact hcs j v hj
      . cases hj)
  obtain ⟨G,hG⟩:∃ G,G=grownCap w (n+1) c 104:=⟨_,rfl⟩;have sd:n+1<=G:=by rw [hG]; exact grownCap_ge w _ _ _
  have mU:G<=maxLen:=by
    rw [hG]; exact grownCap_le_maxLen w (n+1) c 104 (by unfold maxLen; omega)
  have sf:G<=9223372036854775807:=mU;obtain ⟨Z,hZ⟩:∃ Z:Array Value,Z=Builtin.zeroCells z.cells (n+1 - i)++Builtin.zeroCells z.cells (G - (n+1)):=⟨_,rfl⟩;have oV:Z.size=(G - i)*2:=by rw [hZ,Array.size_append,b1u jt,b1u jt]; omega
  have nr:∀ ty,(Builtin.append_ #[81,3] ty #[.slice (some ⟨b,off,none⟩) i c,.int .i64 ((n:Int)+(1:Int) - (i:Int))]).run Tryz.prog w =
      .ok (.slice (some ⟨w.heap.size,0,none⟩) (n+1) G) (w.drew.alloc (.cells ((cs.take (i*2)).toArray++Z) 104)):=λ ty=>by
    have h:=Lib.run_append_grow_zeros w 81 3 ty 104 i0 z .i64 .i64 Tryz.underlying81 Tryz.underlying3 lQ ir (some ⟨b,off,none⟩) i c (cs.take (i*2)) hold (n+1 - i) (by omega) (by omega) (by omega) (by omega) (by rw [mW]; omega) (by rw [mW,jR]; exact growslice_fits ch oO);rw [jR,<- hG,Array.append_assoc,<- hZ] at h;rw [lL];exact h
  obtain ⟨ROW,iR⟩:∃ ROW:Array Value,ROW=(cs.take (i*2)).toArray++Z:=⟨_,rfl⟩;rw [<- iR] at nr;have pa:(n+1)*2<=ROW.size:=by
    rw [iR,Array.size_append,oV,List.size_toArray,ix];omega
  obtain ⟨W1,fy⟩:∃ W1,W1=w.drew.alloc (.cells ROW 104):=⟨_,rfl⟩;rw [<- fy] at nr;have hN:∀ j,j<(n+1)*2->(W1.cell? ⟨w.heap.size,j,none⟩).isSome=true:=λ j hj=>by
    rw [fy,World.cell?_alloc_at (w:=w.drew) ROW _ w.heap.size j rfl,Array.getElem?_eq_getElem (by omega)]; rfl
  have qa:∀ j,W1.frozen? ⟨w.heap.size,j,none⟩=false:=λ j=>by rw [fy]; exact World.frozen?_alloc_at (w:=w.drew) ROW _ w.heap.size j rfl
  have mQ:∀ j v,w.cell? ⟨b,j,none⟩=some v->W1.cell? ⟨b,j,none⟩=some v:=λ j v h=>by rw [fy,World.cell?_alloc_past (w:=w.drew) _ b j rE]; exact h
  have rS:∀ j v,w.cell? ⟨vb,j,none⟩=some v->W1.cell? ⟨vb,j,none⟩=some v:=λ j v h=>by rw [fy,World.cell?_alloc_past (w:=w.drew) _ vb j dA]; exact h
  have oE:∀ (W:World),(∀ x,W.cell? x=W1.cell? x)->(∀ x,W.frozen? x=W1.frozen? x)->∀ ty dc,(Builtin.copy_ #[81,81] ty #[.slice (some ⟨w.heap.size,i*2,none⟩) (n+1 - i) dc,.slice (some ⟨vb,voff,none⟩) 1 vc]).run Tryz.prog W=.ok (goInt (Nat.min 1 (n+1 - i))) (W.setCells w.heap.size (i*2) vs):=λ W jq mf ty dc =>
    a23 W _ _ ty 104 2 w.heap.size (i*2) (n+1 - i) dc ⟨vb,voff,none⟩ 1 vc vs Tryz.underlying81 bn (by rw [gE]; simp only [Nat.min_def]; split<;>omega)
      (λ j v hj=>by rw [Addr.add_lit,jq]; exact rS _ v (gZ j v hj))
      (λ j hj=>by rw [jq]; exact hN _ (by omega)) (λ j hj=>by rw [mf]; exact qa _) pj
  have sQ:¬ (G=i):=by omega
  have se:¬ (G=i+1):=by omega
  have lZ:¬ (c=i):=by omega
  have rG:b≠w.heap.size:=by omega
  have fZ:(cs.drop (i*2)).length=(n - i)*2:=by rw [List.length_drop,df]; omega
  have oD:∀ (W:World),(∀ x,W.cell? x=(W1.setCells w.heap.size (i*2) vs).cell? x)->(∀ x,W.frozen? x=(W1.setCells w.heap.size (i*2) vs).frozen? x)->∀ ty dc sc,(Builtin.copy_ #[81,81] ty #[.slice (some ⟨w.heap.size,(i+1)*2,none⟩) (n - i) dc,.slice (some ⟨b,off+i*2,none⟩) (n - i) sc]).run Tryz.prog W=.ok (goInt (Nat.min (n - i) (n - i))) (W.setCells w.heap.size ((i+1)*2) (cs.drop (i*2))):=λ W jq mf ty dc sc =>
    a23 W _ _ ty 104 2 w.heap.size ((i+1)*2) (n - i) dc ⟨b,off+i*2,none⟩ (n - i) sc (cs.drop (i*2)) Tryz.underlying81 bn (by rw [fZ]; simp only [Nat.min_def]; split<;>omega)
      (λ j v hj=>by
        rw [Addr.add_lit,jq,World.cell?_setCells_out _ _ _ _ _ (λ h _=>absurd h rG),Nat.add_assoc];exact mQ _ v (hcs (i*2+j) v (by rwa [List.getElem?_drop] at hj)))
      (λ j hj=>by rw [jq]; exact a0y _ _ _ _ (λ t ht=>hN _ (by omega)) _ (hN _ (by omega)))
      (λ j hj=>by rw [mf,World.frozen?_setCells]; exact qa _) (λ v hv=>kt v (List.mem_of_mem_drop hv))
  subst fy;have si:∀ x,((w.alloc (.cells ROW 104)).drew).cell? x=(w.drew.alloc (.cells ROW 104)).cell? x:=λ x=>rfl;have sg:∀ x,((w.alloc (.cells ROW 104)).drew).frozen? x=(w.drew.alloc (.cells ROW 104)).frozen? x:=λ x=>rfl;have mq:∀ x,(((w.alloc (.cells ROW 104)).drew.setCells w.heap.size (i*2) vs).drew).cell? x=((w.drew.alloc (.cells ROW 104)).setCells w.heap.size (i*2) vs).cell? x:=λ x=>rfl;have mo:∀ x,(((w.alloc (.cells ROW 104)).drew.setCells w.heap.size (i*2) vs).drew).frozen? x=((w.drew.alloc (.cells ROW 104)).setCells w.heap.size (i*2) vs).frozen? x:=λ x=>rfl;have gY:IntKind.i64.wrap ((i:Int)+(1:Int))=(i:Int)+(1:Int):=by rw [IntKind.wrap_i64]; omega
  have dh:(0:Int)<=(i:Int)+(1:Int):=by omega
  have dQ:i<=n:=by omega
  have py:((i:Int)+(1:Int)).toNat=i+1:=by omega
  have oQ:(i:Int)<=(n:Int):=by omega
  suffices fX:Calls Tryz.prog 100 #[.slice (some ⟨b,off,none⟩) n c,.int .i64 i,.slice (some ⟨vb,voff,none⟩) 1 vc] w λ e w'=>e=.returned (.slice (some ⟨w.heap.size,0,none⟩) (n+1) G) /\
      w'=(((w.alloc (.cells ROW 104)).drew.setCells w.heap.size (i*2) vs).drew).setCells w.heap.size ((i+1)*2) (cs.drop (i*2)) by
    refine fX.mono ?_;rintro e w' ⟨rfl,rfl⟩;exact ⟨G,Z,sd,mU,oV,rfl,by rw [<- iR]⟩
  clear lL jR hold pa ee bn lQ ir mv mW jt hG hZ iR oV
  go_enter Tryz.func100,Tryz.ntmps100
  go_wp2_with (first
    | (at_builtin; refine Lib.wpList_append_run _ rfl _ _ _ _ rfl _ _ rfl rfl _ _ (nr _) ?_)
    | (at_builtin; refine a3p _ rfl _ _ 81 81 rfl _ _ rfl rfl (oE _ si sg _ _) ?_))
  go_region_law_o (refine a4D rfl _ _ 81 81 rfl (.slice (some ⟨w.heap.size,(i+1)*2,none⟩) (n - i) (G - (i+1))) (.slice (some ⟨b,off+i*2,none⟩) (n - i) (c - i)) (by simp [Act.eval,Act.put]) (by simp [Act.eval,Act.put]) (oD _ mq mo 3 (G - (i+1)) (c - i)) ?_)
  go_wp2
  go_ret
  exact ⟨rfl,rfl⟩
end Go.Proofs.YtijlnmgondibnaaGreatDoor
namespace Go.Proofs.YtijlnmgondibnaaGreatDoor
open Go.Ex
set_option maxRecDepth 100000
abbrev B9:=Int×List UInt8×Unit
def a8N (l:List B9) (i:Int) (m:List B9):List B9:=l.take i.toNat++m++l.drop i.toNat
theorem a0l (b:Nat):∀ (vs:List Value) (o:Nat) (w:World),(w.setCells b o vs).heap.size=w.heap.size/\(w.setCells b o vs).os=w.os/\(w.setCells b o vs).output=w.output/\(w.setCells b o vs).tape=w.tape/\(w.setCells b o vs).drawn=w.drawn /\
    (∀ c,c≠b->(w.setCells b o vs).heap[c]?=w.heap[c]?)/\∀ arr T fz,w.heap[b]?=some (.cells arr T fz)->∃ cP,(w.setCells b o vs).heap[b]?=some (.cells cP T fz)/\cP.size=arr.size
  | [],_,_=>⟨rfl,rfl,rfl,rfl,rfl,λ _ _=>rfl,λ arr _ _ h=>⟨arr,h,rfl⟩⟩
  | v::r,o,w=>by
    obtain ⟨h1,h2,h3,h4,h5,h6,h7⟩:=a0l b r (o+1) (w.setCell ⟨b,o,none⟩ v);have e1:(w.setCell ⟨b,o,none⟩ v).heap.size=w.heap.size:=by simp [World.setCell]
    have e2:∀ c,c≠b->(w.setCell ⟨b,o,none⟩ v).heap[c]?=w.heap[c]?:=λ c hc=>by
      simp only [World.setCell,Array.getElem?_modify,if_neg (Ne.symm hc)]
    refine ⟨h1.trans e1,h2,h3,h4,h5,λ c hc=>(h6 c hc).trans (e2 c hc),λ arr T fz h=>?_⟩;have:(w.setCell ⟨b,o,none⟩ v).heap[b]?=some (.cells (arr.setIfInBounds o v) T fz):=by
      simp [World.setCell,Array.getElem?_modify,h]
    obtain ⟨cP,g1,g2⟩:=h7 _ T fz this;exact ⟨cP,g1,by rw [g2,Array.size_setIfInBounds]⟩
theorem b0a {w:World} {b off:Nat} {arr:Array Value} {T:TypeId} {fz:Nat×Nat} (h:w.heap[b]?=some (.cells arr T fz)) {F:List Value} {n:Nat} (hn:F.length=n) (hc:∀ j,j<n->w.cell? ⟨b,off+j,none⟩=F[j]?):d9 w.heap b off n=F:=by
  have bH:∀ k,w.cell? ⟨b,k,none⟩=arr[k]?:=λ k=>by simp [World.cell?,h]
  simp only [d9,s9,h];apply List.ext_getElem?;intro j;rw [List.getElem?_take,List.getElem?_drop];by_cases hj:j<n
  . rw [if_pos hj,<- hc j hj,bH,Array.getElem?_toList]
  . rw [if_neg hj,List.getElem?_eq_none (by omega)]
theorem b0b {α:Type} (A B C:List α) (j:Nat):(A++B++C)[j]?=if j<A.length then A[j]? else if j<A.length+B.length then B[j - A.length]? else C[j - (A.length+B.length)]?:=by
  rw [List.getElem?_append,List.getElem?_append,List.length_append]
  split<;>split<;>first|rfl|omega|(split<;>first|rfl|omega)
theorem b7o {w:World} {S:Nat->Prop} {t:Ty} (ht:t.shared=true) {L:List Nat} {cs:List Value} {l:List t.den} (h:f8 w.heap S (.d0 true t) L cs l) (hl:0<l.length) :
    ∃ b off cap,L=[b]/\cs=[.slice (some ⟨b,off,none⟩) l.length cap]/\l.length<=cap/\a7R true cap/\i7 (f8 w.heap S t) t.size [] (d9 w.heap b off (l.length*t.size)) l/\R3 t.isB w.heap b (off+cap*t.size):=by
  rcases h with ⟨_,_,rfl⟩|⟨b,off,cap,O',h1,h2,h3,h4,h5,h6,h7⟩
  . simp at hl
  have hO:O'=[]:=i7.J7 (λ _ _ _ hr=>f8.J7 ht hr) h5;subst hO;exact ⟨b,off,cap,h6,h1,h2,h3,h5,h7⟩
def a7K:p9:={ ps:=[.own (.d0 true p7),.v e8,.own (.d0 true p7)],rs:=[.d0 true p7],pre:=λ x=>(LE.le (α:=Int) 0 x.2.1/\LT.lt (α:=Int) x.2.1 (List.length (α:=B9) x.1))/\List.length (α:=B9) x.1<=1000/\List.length (α:=B9) x.2.2.1=1,fn:=λ x=>(a8N x.1 x.2.1 x.2.2.1,()),out:=λ _=>() }
theorem b7n {w w':World} {L:List Nat} (h1:w'.os=w.os) (h2:w'.tape=w.tape) (h3:w.drawn<=w'.drawn) (h4:w'.output=w.output) (h5:w.heap.size<=w'.heap.size) (h6:∀ c,c<w.heap.size->c∉L->w'.heap[c]?=w.heap[c]?):y9 L w w':=⟨h1,⟨h2,h3⟩,h4,h5,h6⟩
theorem a8g:a7K.Valid Tryz.prog 100:=by
  refine ⟨⟨_,Tryz.func100,by kernel_rfl,by kernel_rfl⟩,?_,λ h=>by cases h⟩;rintro w S vs ⟨(l:List B9),(i0:Int),(m:List B9),⟨⟩⟩ L hS - ⟨⟨(p0:0<=i0),(p1:i0<(l.length:Int))⟩,(p2:l.length<=1000),(p3:m.length=1)⟩ kN - aI hL;obtain ⟨v1,us,L1,L2,rfl,rfl,⟨cs1,rfl,r1⟩,v2,us,L3,L4,rfl,rfl,⟨rfl,cs2,rfl,r2⟩,v3,us,L5,L6,rfl,rfl,⟨cs3,rfl,r3⟩,rfl,rfl⟩:=kN;obtain ⟨i,rfl⟩:∃ i:Nat,i0=i:=⟨i0.toNat,by omega⟩;have r1:f8 w.heap S (.d0 true p7) L1 cs1 l:=r1;have r3:f8 w.heap S (.d0 true p7) L5 cs3 m:=r3;obtain ⟨b,off,cap,rfl,rfl,c2,c3,c4,c5⟩:=b7o rfl r1 (by omega);obtain ⟨vb,voff,vc,rfl,rfl,d2,d3,d4,d5⟩:=b7o rfl r3 (by omega);obtain ⟨-,rfl,-⟩:=r2;have bn:Ty.size p7=2:=rfl;have c4:i7 (f8 w.heap S p7) 2 [] (d9 w.heap b off (l.length*2)) l:=c4;have c5:R3 false w.heap b (off+cap*2):=c5;have d5:R3 false w.heap vb (voff+vc*2):=d5;have d4:i7 (f8 w.heap S p7) 2 [] (d9 w.heap vb voff (1*2)) m:=by rw [<- p3]; exact d4
  have mA:vb≠b:=by
    rintro rfl;simp at aI
  have kk:=hL b (by simp);have jv:=hL vb (by simp);obtain ⟨arr,T,⟨fz,e1,ef⟩,en⟩:=c5;obtain rfl:fz=(0,0):=ef.elim id (λ h=>by cases h.1);obtain ⟨varr,vT,⟨vfz,g1,gf⟩,gn⟩:=d5;obtain rfl:vfz=(0,0):=gf.elim id (λ h=>by cases h.1);rw [p3];have cD:cap<=maxLen:=c3.1;have df:(d9 w.heap b off (l.length*2)).length=l.length*2:=i7.length (λ _ _ _ h=>h.length) c4;have gE:(d9 w.heap vb voff (1*2)).length=2:=by have:=i7.length (λ _ _ _ h=>h.length) d4; rw [p3] at this; exact this
  have bW:=i7.plain (λ _ _ _ hr=>hr.plain) c4;have pD:=i7.plain (λ _ _ _ hr=>hr.plain) d4;have bH:∀ k,w.cell? ⟨b,k,none⟩=arr[k]?:=λ k=>by simp [World.cell?,e1]
  have jV:∀ k,w.frozen? ⟨b,k,none⟩=false:=λ k=>by simp [World.frozen?,e1]
  have lR:∀ k,w.frozen? ⟨vb,k,none⟩=false:=λ k=>by simp [World.frozen?,g1]
  have hcs:∀ j v,(d9 w.heap b off (l.length*2))[j]?=some v->w.cell? ⟨b,off+j,none⟩=some v:=λ j v h=>K1 h;have gZ:∀ j v,(d9 w.heap vb voff (1*2))[j]?=some v->w.cell? ⟨vb,voff+j,none⟩=some v:=λ j v h=>K1 h;have iP:a7K.fn (l,(i:Int),m,())=(l.take i++m++l.drop i,()):=rfl;have lO:i<l.length:=by omega
  obtain ⟨q1,q2⟩:i7 (f8 w.heap S p7) 2 [] ((d9 w.heap b off (l.length*2)).take (i*2)) (l.take i)/\i7 (f8 w.heap S p7) 2 [] ((d9 w.heap b off (l.length*2)).drop (i*2)) (l.drop i):=by
    obtain ⟨P1,P2,P3,e,k1,k2,k3⟩:=i7.split (d:=((0:Int),([]:List UInt8),())) lO c4;have e:=e.symm;simp only [List.append_eq_nil_iff] at e;obtain ⟨rfl,rfl,rfl⟩:=e;refine ⟨k1,?_⟩;have h9:l.drop i=l.getD i (0,[],())::l.drop (i+1):=by
      rw [List.drop_eq_getElem_cons lO,List.getD_eq_getElem?_getD,List.getElem?_eq_getElem lO]; rfl
    rw [h9];refine ⟨[],[],rfl,k2,?_⟩;rw [List.drop_drop,show i*2+2=(i+1)*2 by omega];exact k3
  have nu:i7 (f8 w.heap S p7) 2 [] ((d9 w.heap b off (l.length*2)).take (i*2)++d9 w.heap vb voff (1*2)++(d9 w.heap b off (l.length*2)).drop (i*2)) (l.take i++m++l.drop i):=by
    have h1:=i7.append (λ _ _ _ h=>h.length) q1 d4;exact i7.append (λ _ _ _ h=>h.length) h1 q2
  have hlen:(l.take i++m++l.drop i).length=l.length+1:=by simp only [List.length_append,List.length_take,List.length_drop]; omega
  have ix:((d9 w.heap b off (l.length*2)).take (i*2)).length=i*2:=by rw [List.length_take,df]; omega
  have fZ:((d9 w.heap b off (l.length*2)).drop (i*2)).length=(l.length - i)*2:=by rw [List.length_drop,df]; omega
  have fin:∀ {w':World} {c o G:Nat} {cP:Array Value} {T':TypeId},y9 [b,vb] w w'->(c=b\/w.heap.size<=c)->l.length+1<=G->G<=maxLen->w'.heap[c]?=some (.cells cP T' (0,0))->o+G*2<=cP.size ->
      d9 w'.heap c o ((l.length+1)*2)=(d9 w.heap b off (l.length*2)).take (i*2)++d9 w.heap vb voff (1*2)++(d9 w.heap b off (l.length*2)).drop (i*2) ->
      a3e w S a7K.rs a7K.ps [j9 (.d0 true p7) [.slice (some ⟨b,off,none⟩) l.length cap],j9 e8 [.int .i64 i],j9 (.d0 true p7) [.slice (some ⟨vb,voff,none⟩) 1 vc]] [b,vb] (a7K.fn (l,(i:Int),m,())) (a7K.out (l,(i:Int),m,())) (.returned (.slice (some ⟨c,o,none⟩) (l.length+1) G)) w':=by
    intro w' c o G cP T' hp hc hG mU ha hs oK;have bT:∀ {cs:List Value} {l':List B9},i7 (f8 w.heap S p7) 2 [] cs l'->i7 (f8 w'.heap S p7) 2 [] cs l':=λ hr=>i7.mono (L:=[]) (λ _ h=>h) (λ O cs x hO hr=>hr.r8 (λ d hd=>by
      rcases hd with hd|hd
      . exact absurd (hO d hd) (by simp)
      . refine hp.frame d (hS d hd) (λ hm=>?_);rcases List.mem_cons.1 hm with rfl|hm
        . exact kk.1 hd
        . rw [List.mem_singleton] at hm; subst hm; exact jv.1 hd) (λ _ h=>h)) hr
    refine ⟨[.slice (some ⟨c,o,none⟩) (l.length+1) G],[c],[],S,rfl,hp,λ _ h=>h,λ _ h=>.inl h,⟨_,[],[c],[],[.slice (some ⟨c,o,none⟩) (l.length+1) G],rfl,rfl,rfl,?_,rfl,rfl⟩,⟨_,_,rfl,_,_,rfl,_,_,rfl,rfl,rfl⟩,by simp,?_⟩
    . rw [iP];refine .inr ⟨c,o,G,[],by rw [hlen],by rw [hlen]; exact hG,⟨mU,λ _=>by omega⟩,?_,?_,rfl,cP,T',⟨(0,0),ha,.inl rfl⟩,hs⟩
      . rw [hlen,bn]; simp only [s9,ha,Array.length_toList]; omega
      . rw [hlen,bn,oK]; exact bT nu
    . intro d hd;simp only [List.append_nil,List.mem_singleton] at hd;subst hd;refine ⟨λ h=>?_,?_,?_⟩
      . rcases hc with rfl|hc
        . exact kk.1 h
        . have:=hS d h; omega
      . rcases hc with rfl|hc
        . right; simp
        . left; exact hc
      . exact (Array.getElem?_eq_some_iff.1 ha).1
  by_cases ch:l.length+1<=cap
  . have lG:(l.length+1)*2<=cap*2:=Nat.mul_le_mul_right _ ch;refine (c1G b off l.length cap i vb voff vc (d9 w.heap b off (l.length*2)) (d9 w.heap vb voff (1*2)) w lO ch cD mA df gE hcs
      (λ j hj=>by rw [bH,Array.getElem?_eq_getElem (by omega)]; rfl) (λ j _=>jV _) gZ (λ v hv=>(bW v hv).1) (λ v hv=>(pD v hv).1)
      vT T varr.size arr.size (by simp [World.shape?,g1]) (by simp [World.shape?,e1]) (by omega) (lR _) (lR _)).mono ?_
    rintro e w' ⟨rfl,rfl⟩;obtain ⟨A1,A2,A3,A4,A5,A6,A7⟩:=a0l b ((d9 w.heap b off (l.length*2)).drop (i*2)) (off+(i+1)*2) w.drew;obtain ⟨B1,B2,B3,B4,B5,B6,B7⟩:=a0l b (d9 w.heap vb voff (1*2)) (off+i*2) (w.drew.setCells b (off+(i+1)*2) ((d9 w.heap b off (l.length*2)).drop (i*2)));obtain ⟨arr1,x1,x2⟩:=A7 arr T (0,0) e1;obtain ⟨arr2,y1,y2⟩:=B7 arr1 T (0,0) x1;have ca:∀ k,off+k<off+cap*2->(w.drew.cell? ⟨b,off+k,none⟩).isSome=true:=λ k hk=>by
      show (w.cell? ⟨b,off+k,none⟩).isSome=true;rw [bH,Array.getElem?_eq_getElem (by omega)]; rfl
    have fB:∀ k,off+k<off+cap*2->((w.drew.setCells b (off+(i+1)*2) ((d9 w.heap b off (l.length*2)).drop (i*2))).cell? ⟨b,off+k,none⟩).isSome=true:=λ k hk =>
      a0y b _ _ _ (λ j hj=>by rw [fZ] at hj; rw [Nat.add_assoc]; exact ca _ (by omega)) _ (ca k hk)
    refine fin (T':=T) (cP:=arr2) ?_ (.inl rfl) ch cD y1 (by rw [y2,x2]; exact en) ?_
    . refine b7n (B2.trans A2) (B4.trans A4) (by rw [B5,A5]; exact Nat.le_succ _) (B3.trans A3) (by rw [B1,A1]; exact Nat.le_refl _) (λ c hc hn=>?_);have cO:c≠b:=λ e=>hn (by simp [e]);exact (B6 c cO).trans (A6 c cO)
    . refine b0a y1 (by rw [List.length_append,List.length_append,ix,gE,fZ]; omega) (λ j hj=>?_);rw [b0b,ix,gE];by_cases k1:j<i*2
      . rw [if_pos k1,World.cell?_setCells_out b _ _ _ _ (λ _ _=>.inl (by show off+j<_; omega)),World.cell?_setCells_out b _ _ _ _ (λ _ _=>.inl (by show off+j<_; omega)),List.getElem?_take,if_pos k1];have ji:j<(d9 w.heap b off (l.length*2)).length:=by omega
        rw [List.getElem?_eq_getElem ji];exact hcs j _ (List.getElem?_eq_getElem ji)
      . rw [if_neg k1];by_cases k2:j<i*2+2
        . rw [if_pos k2];have:=World.cell?_setCells_in b (d9 w.heap vb voff (1*2)) (off+i*2) (w.drew.setCells b (off+(i+1)*2) ((d9 w.heap b off (l.length*2)).drop (i*2))) (λ j hj=>by rw [Nat.add_assoc]; exact fB _ (by omega)) (j - i*2) (by omega);rw [show off+i*2+(j - i*2)=off+j by omega] at this;rw [this,List.getElem?_eq_getElem]
        . rw [if_neg k2,World.cell?_setCells_out b _ _ _ _ (λ _ _=>.inr (by show _<=off+j; rw [gE]; omega))];have:=World.cell?_setCells_in b ((d9 w.heap b off (l.length*2)).drop (i*2)) (off+(i+1)*2) w.drew (λ j hj=>by rw [fZ] at hj; rw [Nat.add_assoc]; exact ca _ (by omega)) (j - (i*2+2)) (by omega);rw [show off+(i+1)*2+(j - (i*2+2))=off+j by omega] at this;rw [this,List.getElem?_eq_getElem]
  . refine (c3B b off l.length cap i vb voff vc (d9 w.heap b off (l.length*2)) (d9 w.heap vb voff (1*2)) w lO c2 (by omega) (by omega) df gE hcs gZ (λ v hv=>(bW v hv).1) (λ v hv=>(pD v hv).1)).mono ?_;rintro e w' ⟨G,Z,z1,z2,z3,rfl,rfl⟩;generalize iX:((d9 w.heap b off (l.length*2)).take (i*2)).toArray++Z=ROW;have rP:ROW.size=G*2:=by rw [<- iX,Array.size_append,List.size_toArray,ix,z3]; omega
    generalize hN:w.heap.size=N;have n1:((w.alloc (.cells ROW 104)).drew).heap[N]?=some (.cells ROW 104 (0,0)):=by
      show (w.heap.push _)[N]?=_;rw [<- hN]; simp
    have n2:∀ c,c<N->((w.alloc (.cells ROW 104)).drew).heap[c]?=w.heap[c]?:=λ c hc=>by
      show (w.heap.push _)[c]?=_;rw [Array.getElem?_push,if_neg (by omega)]
    have n3:((w.alloc (.cells ROW 104)).drew).heap.size=N+1:=by show (w.heap.push _).size=_; rw [Array.size_push,hN]
    obtain ⟨A1,A2,A3,A4,A5,A6,A7⟩:=a0l N (d9 w.heap vb voff (1*2)) (i*2) ((w.alloc (.cells ROW 104)).drew);generalize fy:((w.alloc (.cells ROW 104)).drew).setCells N (i*2) (d9 w.heap vb voff (1*2))=W1 at *
    obtain ⟨B1,B2,B3,B4,B5,B6,B7⟩:=a0l N ((d9 w.heap b off (l.length*2)).drop (i*2)) ((i+1)*2) W1.drew;obtain ⟨arr1,x1,x2⟩:=A7 ROW 104 (0,0) n1;obtain ⟨arr2,y1,y2⟩:=B7 arr1 104 (0,0) x1;have pQ:∀ k,((w.alloc (.cells ROW 104)).drew).cell? ⟨N,k,none⟩=ROW[k]?:=λ k=>by simp only [World.cell?,n1]; rfl
    have ca:∀ k,k<G*2->(((w.alloc (.cells ROW 104)).drew).cell? ⟨N,k,none⟩).isSome=true:=λ k hk=>by
      rw [pQ,Array.getElem?_eq_getElem (by omega)]; rfl
    have fB:∀ k,k<G*2->(W1.drew.cell? ⟨N,k,none⟩).isSome=true:=λ k hk=>by
      show (W1.cell? ⟨N,k,none⟩).isSome=true;rw [<- fy];exact a0y N _ _ _ (λ j hj=>ca _ (by omega)) _ (ca k hk)
    refine fin (c:=N) (o:=0) (G:=G) (T':=104) (cP:=arr2) ?_ (.inr (by omega)) z1 z2 y1 (by rw [y2,x2,rP]; omega) ?_
    . refine b7n (B2.trans A2) (B4.trans A4) (by rw [B5]; show _<=W1.drawn+1; rw [A5]; show w.drawn<=w.drawn+1+1; omega) (B3.trans A3) (by rw [B1]; show _<=W1.heap.size; rw [A1,n3]; omega) (λ c hc hn=>?_);have cO:c≠N:=by omega
      exact (B6 c cO).trans ((A6 c cO).trans (n2 c (by omega)))
    . refine b0a y1 (by rw [List.length_append,List.length_append,ix,gE,fZ]; omega) (λ j hj=>?_);rw [b0b,ix,gE,Nat.zero_add];by_cases k1:j<i*2
      . rw [if_pos k1,World.cell?_setCells_out N _ _ _ _ (λ _ _=>.inl (by show j<_; omega))];show W1.cell? ⟨N,j,none⟩=_;rw [<- fy,World.cell?_setCells_out N _ _ _ _ (λ _ _=>.inl (by show j<_; omega)),pQ,<- iX];rw [Array.getElem?_append,if_pos (by rw [List.size_toArray,ix]; exact k1),List.getElem?_toArray]
      . rw [if_neg k1];by_cases k2:j<i*2+2
        . rw [if_pos k2,World.cell?_setCells_out N _ _ _ _ (λ _ _=>.inl (by show j<_; omega))];show W1.cell? ⟨N,j,none⟩=_;have:=World.cell?_setCells_in N (d9 w.heap vb voff (1*2)) (i*2) ((w.alloc (.cells ROW 104)).drew) (λ j hj=>ca _ (by omega)) (j - i*2) (by omega);rw [fy,show i*2+(j - i*2)=j by omega] at this;rw [this,List.getElem?_eq_getElem]
        . rw [if_neg k2];have:=World.cell?_setCells_in N ((d9 w.heap b off (l.length*2)).drop (i*2)) ((i+1)*2) W1.drew (λ j hj=>by rw [fZ] at hj; exact fB _ (by omega)) (j - (i*2+2)) (by omega);rw [show (i+1)*2+(j - (i*2+2))=j by omega] at this;rw [this,List.getElem?_eq_getElem]
def c49:p9:={ ps:=[.own (.d0 true p7),.v e8,.own (.d0 true p7)],rs:=[.d0 true p7],pre:=λ x=>x.2.1=(List.length (α:=B9) x.1:Int)/\List.length (α:=B9) x.1<=1000/\List.length (α:=B9) x.2.2.1=1,fn:=λ x=>(a8N x.1 x.2.1 x.2.2.1,()),out:=λ _=>() }
noncomputable def c0A:Env:={ P:=Tryz.prog,tt:=tt,C0:=[],res:=[Go.ResultVar.tmp 6],rs:=[Ty.d0 true p7],ps:=[PK.own (Ty.d0 true p7),PK.v e8,PK.own (Ty.d0 true p7)],y5:=[],nt:=95 }
theorem b5E:u6 c0A:=w9 q9 trivial
theorem b5h:y7 c0A Tryz.f100:=⟨rfl,rfl⟩
theorem c6p (x0:List (Int×List UInt8×Unit)) (x1:Int) (x2:List (Int×List UInt8×Unit)):exec c0A 1000 [.code (d8 Tryz.prog 100)] (s5 c49.ps ((x0,x1,x2,()))) =
  .f6 ((0:Int)<=x1/\x1<=(↑(List.length x0):Int)/\(↑(List.length x0):Int)<=(↑(List.length x0):Int)) (cond (decide ((↑(List.length x2):Int)=(0:Int))) (.ret ((x0,()))) (cond (decide (x1=(↑(List.length x0):Int))) (.f6 (List.length x0+List.length x2<=140737488355328/\(List.length x0+List.length x2)*Ty.wb p7<=140737488355328) (.ret ((x0++x2,())))) (.f6 (r7 IntKind.i64 ((↑(List.length x0):Int)+(↑(List.length x2):Int))) (.stuck "cap")))):=by kernel_rfl
theorem b6H:c49.Valid Tryz.prog 100:=by
  refine p9.o5 b5E rfl rfl Tryz.func100 (c:=d8 Tryz.prog 100) rfl rfl b5h rfl ?_;rintro ⟨(l:List B9),(i:Int),(m:List B9),⟨⟩⟩ ⟨(p1:i=(l.length:Int)),(p2:l.length<=1000),(p3:m.length=1)⟩ -
  subst p1;refine j5 (n:=1000) b5E b5h ?_;refine g9 (c6p l (l.length:Int) m) ?_;have w24:Ty.wb p7=24:=rfl;simp only [j6,Tree.holds,true_and,true_implies,decide_eq_true_eq,decide_eq_false_iff_not,Bool.not_eq_true',Bool.not_eq_false',Int.toNat_natCast,j7,List.length_set,List.length_cons,List.length_nil,w24];refine ⟨by omega,λ _=>⟨λ h=>absurd h (by omega),λ _=>⟨⟨⟨by omega,by omega⟩,λ _=>?_⟩,λ h=>absurd trivial h⟩⟩⟩;show ((l++m,()):List B9×Unit)=(a8N l (l.length:Int) m,());unfold a8N;rw [Int.toNat_natCast,List.take_length,List.drop_length,List.append_nil]
def c69:p9:={ ps:=[.own (.d0 true p7),.v e8,.own (.d0 true p7)],rs:=[.d0 true p7],pre:=λ x=>(LE.le (α:=Int) 0 x.2.1/\LE.le (α:=Int) x.2.1 (List.length (α:=B9) x.1))/\List.length (α:=B9) x.1<=1000/\List.length (α:=B9) x.2.2.1=1,fn:=λ x=>(a8N x.1 x.2.1 x.2.2.1,()),out:=λ _=>() }
theorem b9L:c69.Valid Tryz.prog 100:=by
  refine ⟨a8g.ent,?_,λ h=>by cases h⟩;rintro w S vs ⟨(l:List B9),(i:Int),(m:List B9),⟨⟩⟩ L hS dk ⟨⟨(p0:0<=i),(p1:i<=(l.length:Int))⟩,(p2:l.length<=1000),(p3:m.length=1)⟩ kN eQ aI hL;by_cases h:i<(l.length:Int)
  . exact a8g.run w S vs (l,i,m,()) L hS dk ⟨⟨p0,h⟩,p2,p3⟩ kN eQ aI hL
  . exact b6H.run w S vs (l,i,m,()) L hS dk ⟨by show i=(l.length:Int); omega,p2,p3⟩ kN eQ aI hL
theorem c6J:Ty.wb p7=24:=rfl
def b9C:p9:={ ps:=[.v (.d0 false p7)],rs:=[.d0 true p7],pre:=λ x=>List.length (α:=s4) x.1<=1048576,fn:=λ x=>x,out:=λ _=>() }
noncomputable def c0r:Env:={ P:=Tryz.prog,tt:=tt,C0:=[],res:=[Go.ResultVar.tmp 2],rs:=[Ty.d0 true p7],ps:=[PK.v J4],y5:=[],nt:=8 }
theorem b5x:u6 c0r:=w9 q9 trivial
theorem b5c:y7 c0r Tryz.f97:=⟨rfl,rfl⟩
theorem c6j (x0:List (Int×List UInt8×Unit)):exec c0r 1000 [.code (d8 Tryz.prog 97)] (s5 b9C.ps ((x0,()))) =
  .both (x0=[]) (.ret (([],()))) (.f6 ((0:Nat)+List.length x0<=140737488355328/\((0:Nat)+List.length x0)*Ty.wb p7<=140737488355328) (.ret (([]++x0,())))):=by kernel_rfl
theorem b6z:b9C.Valid Tryz.prog 97:=by
  refine p9.o5 b5x rfl rfl Tryz.func97 (c:=d8 Tryz.prog 97) rfl rfl b5c rfl ?_;rintro ⟨(l:List (s4)),⟨⟩⟩ hp -
  have hp:l.length<=1048576:=hp;refine j5 (n:=1000) b5x b5c ?_;refine g9 (c6j l) ?_;simp only [j6,Tree.holds,true_and,true_implies,decide_eq_true_eq,decide_eq_false_iff_not,Bool.not_eq_true',Bool.not_eq_false',Int.toNat_natCast,j7,List.length_set,List.length_cons,List.length_nil,c6J];refine ⟨λ h=>?_,by omega,λ _=>rfl⟩;show (([],()):List (s4)×Unit)=(l,());rw [show l=[] from h]
def b4A:p9:={ ps:=[.v ToT,.v p7],rs:=[ToO,.d0 true .str,e8],pre:=λ _=>True,fn:=λ x=>C3 x.1 x.2.1,out:=λ _=>() }
noncomputable def b0y:Env:={ P:=Tryz.prog,tt:=tt,C0:=[(96,c3S),(75,b4B),(59,a4U),(97,b9C),(98,c34),(100,c69)],res:=[Go.ResultVar.cell 4 83,Go.ResultVar.tmp 5,Go.ResultVar.tmp 6],rs:=[Ty.pair e8 (Ty.pair (Ty.d0 true p7) Ty.unit),Ty.d0 true Ty.str,Ty.int IntKind.i64],ps:=[PK.v ToT,PK.v p7],y5:=[(17,[(4,none),(8,none),(11,some (Ty.d0 true Ty.str))])],nt:=116 }
theorem a7i:u6 b0y:=w9 q9 ⟨b9r,a5I,a1L,b6z,b9Y,b9L,trivial⟩
theorem a7f:y7 b0y Tryz.f83:=⟨rfl,rfl⟩
theorem c4q (aN:Int) (ab:List (Int×List UInt8×Unit)) (bu:Int) (aC:List UInt8):exec b0y 1000 [.code (d8 Tryz.prog 83)] (s5 b4A.ps (((aN,ab,()),(bu,aC,()),()))) =
  .f6 (True) (cond (decide (toE (aN,ab,())≠(0:Int))) (.ret ((((0:Int),[],()),[],toE (aN,ab,()),()))) (.f6 (True) (cond (!W4 bu (0:Int) (16777214:Int)) (.ret ((((0:Int),[],()),[],(1:Int),()))) (.f6 (True) (cond (D5 aC) (.ret ((((0:Int),[],()),[],(2:Int),()))) (.f6 (List.length ab<=1048576) (.f6 ((List.length ab<=1000/\sorted ab)/\(-100000000:Int)<=bu/\bu<=(100000000:Int)) (cond (decide (bu<aN)) (.ret (((aN,ab,()),[],(0:Int),()))) (.f6 (r7 IntKind.i64 (aN+(16:Int))) (cond (decide (aN+(16:Int)<=bu)) (.ret (((aN,ab,()),[],(0:Int),()))) (cond (W9 bu ab) (.ret (((aN,ab,()),[],(0:Int),()))) (cond (decide (aN<bu)) (.f6 (((0:Int)<=(↑(atF bu ab):Int)/\(↑(atF bu ab):Int)<=(↑(List.length ab):Int))/\List.length ab<=1000/\List.length (List.set [((0:Int),[],())] (Int.toNat (↑0:Int)) (bu,aC,()))=1) (.ret (((aN,a8N ab (↑(atF bu ab):Int) (List.set [((0:Int),[],())] (Int.toNat (↑0:Int)) (bu,aC,())),()),[],(0:Int),())))) (.f6 (r7 IntKind.i64 (aN+(1:Int))) (.ctL (f9 (d8 Tryz.prog 83) 17) (St.mk [(4,AV.ptr 4 []),(8,AV.ptr 8 []),(11,AV.at_ 1000011 [])] [(4,g8.var ToO ((0:Int),[],())),(8,g8.var ToO (aN+(1:Int),ab,())),(1000011,g8.own (Ty.d0 true Ty.str) (List.set [[]] (Int.toNat (↑0:Int)) aC))]))))))))))))))):=by kernel_rfl
def b0x (iq:Int) (eF:List (Int×List UInt8×Unit)) (eY:Int) (bz:List (Int×List UInt8×Unit)) (dG:List (List UInt8)):St:=St.mk [(4,AV.ptr 4 []),(8,AV.ptr 8 []),(11,AV.at_ 1000011 [])] [(4,g8.var ToO (iq,eF,())),(8,g8.var ToO (eY,bz,())),(1000011,g8.own (Ty.d0 true Ty.str) dG)]
theorem c0v (iq:Int) (eF:List (Int×List UInt8×Unit)) (eY:Int) (bz:List (Int×List UInt8×Unit)) (dG:List (List UInt8)):exec b0y 1000 (.code (f9 (d8 Tryz.prog 83) 17).1::.inLoop (f9 (d8 Tryz.prog 83) 17).1::(f9 (d8 Tryz.prog 83) 17).2) (b0x iq eF eY bz dG) =
  cond (decide ((0:Int)<(↑(List.length bz):Int))) (.f6 ((0:Int)<=(0:Int)/\(0:Int)<(↑(List.length bz):Int)) (cond (decide (Prod.fst (List.getD bz (Int.toNat (0:Int)) ((0:Int),[],()))=eY)) (.f6 ((0:Int)<=(0:Int)/\(0:Int)<(↑(List.length bz):Int)) (.f6 (List.length dG+List.length (List.set [[]] (Int.toNat (↑0:Int)) (Prod.fst (Prod.snd (List.getD bz (Int.toNat (0:Int)) ((0:Int),[],())))))<=140737488355328/\(List.length dG+List.length (List.set [[]] (Int.toNat (↑0:Int)) (Prod.fst (Prod.snd (List.getD bz (Int.toNat (0:Int)) ((0:Int),[],()))))))*Ty.wb Ty.str<=140737488355328) (.f6 ((0:Int)<=(1:Int)/\(1:Int)<=(↑(List.length bz):Int)/\(↑(List.length bz):Int)<=(↑(List.length bz):Int)) (.f6 ([]++[Step.l7 1]=[]++[Step.l7 1]/\True) (.f6 (r7 IntKind.i64 (eY+(1:Int))) (.ctL (f9 (d8 Tryz.prog 83) 17) (St.mk [(4,AV.ptr 4 []),(8,AV.ptr 8 []),(11,AV.at_ 1000011 [])] [(4,g8.var ToO (iq,eF,())),(8,g8.var ToO (eY+(1:Int),n5 (1:Int) (↑(List.length bz):Int) bz,())),(1000011,g8.own (Ty.d0 true Ty.str) (dG++List.set [[]] (Int.toNat (↑0:Int)) (Prod.fst (Prod.snd (List.getD bz (Int.toNat (0:Int)) ((0:Int),[],()))))))]))))))) (.f6 (List.length bz<=1048576) (.ret (((eY,bz,()),dG,(0:Int),())))))) (.f6 (List.length bz<=1048576) (.ret (((eY,bz,()),dG,(0:Int),())))):=by kernel_rfl
theorem c7g {n:Int} {l:List s4}:atF n l<=l.length:=by
  rw [atF]; exact (List.takeWhile_sublist _).length_le
theorem b45.sorted {r:Int} {l:List s4} (h:b45 r l):sorted l:=⟨b6c h.up,λ i hi=>by
  have h1:=a8A h.up (a5z (d:=Y1) hi);have h2:=(h.b _ (a5z (d:=Y1) hi)).1;have:=h.rg;omega⟩
theorem b4z:b4A.Valid Tryz.prog 83:=by
  refine p9.o5 a7i rfl rfl Tryz.func83 (c:=d8 Tryz.prog 83) rfl rfl a7f rfl ?_;rintro ⟨⟨(r:Int),(l:List s4),⟨⟩⟩,⟨(q:Int),(x:List UInt8),⟨⟩⟩,⟨⟩⟩ - -
  refine j5 (n:=1000) a7i a7f ?_;refine g9 (c4q r l q x) ?_;have key:∀ {y:ToD×List (List UInt8)×Int×Unit},C3 (r,l,()) (q,x,())=y->y=C3 (r,l,()) (q,x,()):=λ h=>h.symm;have hd:C3 (r,l,()) (q,x,())=if toE (r,l,())≠0 then (t00,[],toE (r,l,()),()) else if W4 q 0 16777214=false then (t00,[],1,()) else if D5 x=true then (t00,[],2,()) else
    if q<r\/r+16<=q\/W9 q l=true then ((r,l,()),[],0,()) else if r<q then ((r,a4m (q,x,()) l,()),[],0,()) else
    (((C8 l (r+1)).1,(C8 l (r+1)).2.1,()),x::(C8 l (r+1)).2.2,0,()):=rfl
  have hw:Ty.wb .str=16:=rfl;simp only [j6,Tree.holds,true_and,true_implies,decide_eq_true_eq,decide_eq_false_iff_not,Bool.not_eq_true',Bool.not_eq_false',Int.toNat_natCast,j7,List.length_set,List.length_cons,List.length_nil,hw];refine ⟨λ a=>key (by rw [hd,if_pos a]<;>rfl),λ a=>?_⟩;have aP:=b0E.1 (Decidable.not_not.1 a);have kD:=aP.rg;have hlen:=aP.len;rw [if_neg a] at hd;refine ⟨λ c=>key (by rw [hd,if_pos c]<;>rfl),λ c=>?_⟩;have hq:=Y9.1 c;rw [if_neg (lnf c)] at hd;refine ⟨λ d=>key (by rw [hd,if_pos d]<;>rfl),λ d=>⟨by omega,λ _=>⟨⟨⟨by omega,aP.sorted⟩,by omega,by omega⟩,λ _=>?_⟩⟩⟩;rw [if_neg (by rw [d]; simp)] at hd;refine ⟨λ e=>key (by rw [hd,if_pos (.inl e)]<;>rfl),λ e=>⟨by omega,λ _=>⟨λ f=>key (by rw [hd,if_pos (.inr (.inl f))]<;>rfl),λ f=>⟨λ g=>key (by rw [hd,if_pos (.inr (.inr g))]<;>rfl),λ g=>?_⟩⟩⟩⟩;rw [if_neg (by rintro (h|h|h); exact e h; exact f h; rw [g] at h; cases h)] at hd;have iQ:=c7g (n:=q) (l:=l);refine ⟨λ k=>⟨⟨⟨by omega,by omega⟩,by omega,trivial⟩,λ _=>key (by rw [hd,if_pos k]; simp [a8N,a4m]; rfl)⟩,λ k=>⟨by omega,λ _=>?_⟩⟩;rw [if_neg k] at hd;refine Reach.K3 a7i a7f (λ s:Int×List s4×List (List UInt8)=>b0x 0 [] s.1 s.2.1 s.2.2) (λ s=>((C8 s.2.1 s.1).1=(C8 l (r+1)).1/\(C8 s.2.1 s.1).2.1=(C8 l (r+1)).2.1/\s.2.2++(C8 s.2.1 s.1).2.2=x::(C8 l (r+1)).2.2)/\s.2.1.length<=16/\s.2.2.length+s.2.1.length<=17/\0<=s.1/\s.1+s.2.1.length<=20000000)
    (λ s=>s.2.1.length) 1000 (λ _=>⟨s7 rfl,s7 rfl⟩) ?_ (r+1,l,[x]) ⟨⟨rfl,rfl,rfl⟩,hlen,by show 1+l.length<=17; omega,by show 0<=r+1; omega,by show r+1+(l.length:Int)<=20000000; omega⟩
  rintro ⟨n,m,ts⟩ ⟨⟨k1,k2,k3⟩,k4,k5,k6,k7⟩ - ih;have k1:(C8 m n).1=(C8 l (r+1)).1:=k1;have k2:(C8 m n).2.1=(C8 l (r+1)).2.1:=k2;have k3:ts++(C8 m n).2.2=x::(C8 l (r+1)).2.2:=k3;have k4:m.length<=16:=k4;have k5:ts.length+m.length<=17:=k5;have k6:0<=n:=k6;have k7:n+(m.length:Int)<=20000000:=k7;rw [<- k1,<- k2,<- k3] at hd;refine g9 (c0v ..) ?_;rw [show ((n,m,ts):Int×List s4×List (List UInt8)).1=n from rfl,show ((n,m,ts):Int×List s4×List (List UInt8)).2.1=m from rfl,show ((n,m,ts):Int×List s4×List (List UInt8)).2.2=ts from rfl];cases m with
  | nil =>
    simp only [j6,Tree.holds,true_and,true_implies,decide_eq_true_eq,decide_eq_false_iff_not,Bool.not_eq_true',Bool.not_eq_false',Int.toNat_natCast,j7,List.length_set,List.length_cons,List.length_nil,hw];refine ⟨λ c2=>absurd c2 (by simp),λ _=>⟨by omega,λ _=>key ?_⟩⟩;rw [hd,C8,List.append_nil]; rfl
  | cons p m =>
    have g0:List.getD (p::m) (Int.toNat 0) (0,[],())=p:=rfl;have ga:n5 1 ((p::m).length:Int) (p::m)=m:=by
      rw [n5,List.take_of_length_le (by simp)]; rfl
    simp only [List.length_cons] at k4 k5 k7;have iC:C8 (p::m) n=if p.1=n then ((C8 m (n+1)).1,(C8 m (n+1)).2.1,p.2.1::(C8 m (n+1)).2.2) else (n,p::m,[]):=rfl
    simp only [j6,Tree.holds,true_and,true_implies,decide_eq_true_eq,decide_eq_false_iff_not,Bool.not_eq_true',Bool.not_eq_false',Int.toNat_natCast,j7,List.length_set,List.length_cons,List.length_nil,hw,g0,ga];refine ⟨λ c2=>⟨by omega,λ _=>⟨λ c3=>?_,λ c3=>⟨by omega,λ _=>key ?_⟩⟩⟩,λ c2=>absurd (by omega) c2⟩
    . rw [if_pos c3] at iC;rw [iC] at k1 k2 k3;have next:=ih (n+1,m,ts++[p.2.1]) ⟨⟨k1,k2,by rw [List.append_assoc]; exact k3⟩,by show m.length<=16; omega,by show (ts++[p.2.1]).length+m.length<=17; rw [List.length_append,List.length_singleton]; omega,by show 0<=n+1; omega,by show n+1+(m.length:Int)<=20000000; omega⟩ (by show m.length<(p::m).length; simp)
      have lX:n5 1 ((m.length+1:Nat):Int) (p::m)=m:=ga;rw [lX];exact ⟨by omega,λ _=>⟨⟨by omega,by omega⟩,λ _=>⟨by omega,λ _=>⟨by omega,λ _=>next⟩⟩⟩⟩
    . rw [if_neg c3] at iC;rw [hd,iC,List.append_nil]; rfl
end Go.Proofs.YtijlnmgondibnaaGreatDoor
