import Derived.Test.YtijlnmgondibnaaGreatDoorProg
import Derived.Test.YtijlnmgondibnaaGreatDoorExW
import Derived.Test.YtijlnmgondibnaaGreatDoorRows
import Derived.Lib.LaidU8
import Derived.LaidMore
import Derived.LaidSub
import Derived.Shelf.Vars
import Derived.JoinedCond
import Derived.WalkKit
import Derived.Lib.Walk
import Derived.Shelf.RegionOpenPlain
import Derived.Lib.SliceRun
import Derived.Lib.Overlaps
import Derived.Lib.AppendZerosOnto
import Derived.Laws.Externs
import Derived.Laws.IdiomCopy
import Derived.Laws.NewBlocks
set_option linter.unusedVariables false
set_option linter.unusedSimpArgs false
set_option linter.unusedSectionVars false
namespace Go.Proofs.YtijlnmgondibnaaGreatDoor
open Go.Ex
set_option maxRecDepth 100000
abbrev e8:Ty:=.int .i64
abbrev U8:Ty:=.int .u8
abbrev Is:Ty:=.d0 true e8
abbrev V2:Ty:=.arr 6 e8
abbrev c4D:Ty:=.pair e8 (.pair e8 .unit)
abbrev a0L:Ty:=.arr 10 e8
abbrev View:Ty:=.pair e8 (.pair U8 .unit)
abbrev u5:Ty:=.pair e8 (.pair .str .unit)
abbrev ToT:Ty:=.pair e8 (.pair (.d0 false u5) .unit)
abbrev ToO:Ty:=.pair e8 (.pair (.d0 true u5) .unit)
abbrev V4:Ty:=.pair e8 (.pair (.d0 false .str) .unit)
abbrev c4G:Ty:=.pair e8 (.pair (.d0 true .str) .unit)
abbrev b0R:Ty:=.pair e8 (.pair e8 (.pair e8 (.pair e8 (.pair e8 (.pair V2 (.pair .str .unit))))))
abbrev a2i:Ty:=.pair .bool (.pair (.d0 true u5) (.pair V4 (.pair ToT (.pair ToT .unit))))
abbrev w9:Ty:=.pair View (.pair (.d0 true a2i) (.pair (.d0 true .str) (.pair (.d0 true .str) .unit)))
abbrev c7m:Ty:=.pair .bool (.pair (.d0 false u5) (.pair V4 (.pair ToT (.pair ToT .unit))))
abbrev J0:Ty:=.pair View (.pair (.d0 false c7m) (.pair (.d0 false .str) (.pair (.d0 false .str) .unit)))
abbrev N5:Ty:=.d0 false u5
abbrev V3:Ty:=.pair .bool (.pair (.w5 u5) (.pair V4 (.pair ToT (.pair ToT .unit))))
abbrev W6:Ty:=.pair View (.pair (.d0 true V3) (.pair (.d0 true .str) (.pair (.d0 true .str) .unit)))
def tt:List (TypeId×TI):=[(2,TI.mk (Ty.int IntKind.i64) 8),(3,TI.mk (Ty.int IntKind.i64) 8),(4,TI.mk Ty.bool 1),(5,TI.mk (Ty.int IntKind.u8) 1),(6,TI.mk (Ty.int IntKind.u8) 1),(7,TI.mk (Ty.pair (Ty.int IntKind.i64) (Ty.pair (Ty.int IntKind.i64) (Ty.pair Ty.bool (Ty.pair (Ty.int IntKind.u8) Ty.unit)))) 24),(8,TI.mk (Ty.pair (Ty.int IntKind.i64) (Ty.pair (Ty.int IntKind.i64) (Ty.pair Ty.bool (Ty.pair (Ty.int IntKind.u8) Ty.unit)))) 24),(9,TI.mk Ty.str 16),(10,TI.mk Ty.str 16),(11,TI.mk Ty.str 16),(12,TI.mk (Ty.int IntKind.u64) 8),(13,TI.mk (Ty.pair Ty.str (Ty.pair (Ty.int IntKind.u64) Ty.unit)) 24),(14,TI.mk (Ty.pair Ty.str (Ty.pair (Ty.int IntKind.u64) Ty.unit)) 24),(21,TI.mk (Ty.int IntKind.i32) 4),(22,TI.mk (Ty.d0 true Ty.str) 24),(26,TI.mk (Ty.int IntKind.i64) 8),(33,TI.mk (Ty.d0 true (Ty.pair (Ty.int IntKind.i64) (Ty.pair Ty.str Ty.unit))) 24),(39,TI.mk (Ty.pair (Ty.int IntKind.i64) (Ty.pair Ty.str Ty.unit)) 24),(40,TI.mk (Ty.pair (Ty.int IntKind.i64) (Ty.pair Ty.str Ty.unit)) 24),(43,TI.mk (Ty.d0 true (Ty.pair (Ty.int IntKind.i64) (Ty.pair (Ty.int IntKind.i64) (Ty.pair (Ty.int IntKind.i64) (Ty.pair Ty.str Ty.unit))))) 24),(44,TI.mk (Ty.d0 true (Ty.d0 true Ty.str)) 24),(45,TI.mk (Ty.d0 true (Ty.int IntKind.i64)) 24),(53,TI.mk (Ty.arr 6 (Ty.d0 true Ty.str)) 144),(55,TI.mk (Ty.map true (Ty.int IntKind.i64) (Ty.int IntKind.i64)) 8),(56,TI.mk (Ty.pair (Ty.int IntKind.i64) (Ty.pair (Ty.int IntKind.u8) Ty.unit)) 16),(57,TI.mk (Ty.pair (Ty.int IntKind.i64) (Ty.pair (Ty.int IntKind.u8) Ty.unit)) 16),(59,TI.mk (Ty.arr 10 (Ty.int IntKind.i64)) 80),(60,TI.mk (Ty.arr 10 (Ty.int IntKind.i64)) 80),(68,TI.mk (Ty.d0 true (Ty.d0 true (Ty.pair (Ty.int IntKind.i64) (Ty.pair Ty.str Ty.unit)))) 24),(69,TI.mk (Ty.pair (Ty.int IntKind.i64) (Ty.pair (Ty.int IntKind.i64) (Ty.pair (Ty.int IntKind.i64) (Ty.pair Ty.str Ty.unit)))) 40),(70,TI.mk (Ty.pair (Ty.int IntKind.i64) (Ty.pair (Ty.int IntKind.i64) (Ty.pair (Ty.int IntKind.i64) (Ty.pair Ty.str Ty.unit)))) 40),(74,TI.mk (Ty.d0 true (Ty.pair Ty.bool (Ty.pair (Ty.d0 true (Ty.pair (Ty.int IntKind.i64) (Ty.pair Ty.str Ty.unit))) (Ty.pair (Ty.pair (Ty.int IntKind.i64) (Ty.pair (Ty.d0 true Ty.str) Ty.unit)) (Ty.pair (Ty.pair (Ty.int IntKind.i64) (Ty.pair (Ty.d0 true (Ty.pair (Ty.int IntKind.i64) (Ty.pair Ty.str Ty.unit))) Ty.unit)) (Ty.pair (Ty.pair (Ty.int IntKind.i64) (Ty.pair (Ty.d0 true (Ty.pair (Ty.int IntKind.i64) (Ty.pair Ty.str Ty.unit))) Ty.unit)) Ty.unit)))))) 24),(75,TI.mk (Ty.pair (Ty.pair (Ty.int IntKind.i64) (Ty.pair (Ty.int IntKind.u8) Ty.unit)) (Ty.pair (Ty.d0 true (Ty.pair Ty.bool (Ty.pair (Ty.d0 true (Ty.pair (Ty.int IntKind.i64) (Ty.pair Ty.str Ty.unit))) (Ty.pair (Ty.pair (Ty.int IntKind.i64) (Ty.pair (Ty.d0 true Ty.str) Ty.unit)) (Ty.pair (Ty.pair (Ty.int IntKind.i64) (Ty.pair (Ty.d0 true (Ty.pair (Ty.int IntKind.i64) (Ty.pair Ty.str Ty.unit))) Ty.unit)) (Ty.pair (Ty.pair (Ty.int IntKind.i64) (Ty.pair (Ty.d0 true (Ty.pair (Ty.int IntKind.i64) (Ty.pair Ty.str Ty.unit))) Ty.unit)) Ty.unit)))))) (Ty.pair (Ty.d0 true Ty.str) (Ty.pair (Ty.d0 true Ty.str) Ty.unit)))) 88),(76,TI.mk (Ty.pair (Ty.pair (Ty.int IntKind.i64) (Ty.pair (Ty.int IntKind.u8) Ty.unit)) (Ty.pair (Ty.d0 true (Ty.pair Ty.bool (Ty.pair (Ty.d0 true (Ty.pair (Ty.int IntKind.i64) (Ty.pair Ty.str Ty.unit))) (Ty.pair (Ty.pair (Ty.int IntKind.i64) (Ty.pair (Ty.d0 true Ty.str) Ty.unit)) (Ty.pair (Ty.pair (Ty.int IntKind.i64) (Ty.pair (Ty.d0 true (Ty.pair (Ty.int IntKind.i64) (Ty.pair Ty.str Ty.unit))) Ty.unit)) (Ty.pair (Ty.pair (Ty.int IntKind.i64) (Ty.pair (Ty.d0 true (Ty.pair (Ty.int IntKind.i64) (Ty.pair Ty.str Ty.unit))) Ty.unit)) Ty.unit)))))) (Ty.pair (Ty.d0 true Ty.str) (Ty.pair (Ty.d0 true Ty.str) Ty.unit)))) 88),(77,TI.mk (Ty.pair (Ty.int IntKind.i64) (Ty.pair (Ty.d0 true Ty.str) Ty.unit)) 32),(78,TI.mk (Ty.pair (Ty.int IntKind.i64) (Ty.pair (Ty.d0 true Ty.str) Ty.unit)) 32),(81,TI.mk (Ty.d0 true (Ty.pair (Ty.int IntKind.i64) (Ty.pair Ty.str Ty.unit))) 24),(82,TI.mk (Ty.pair (Ty.int IntKind.i64) (Ty.pair (Ty.d0 true (Ty.pair (Ty.int IntKind.i64) (Ty.pair Ty.str Ty.unit))) Ty.unit)) 32),(83,TI.mk (Ty.pair (Ty.int IntKind.i64) (Ty.pair (Ty.d0 true (Ty.pair (Ty.int IntKind.i64) (Ty.pair Ty.str Ty.unit))) Ty.unit)) 32),(84,TI.mk (Ty.pair Ty.bool (Ty.pair (Ty.d0 true (Ty.pair (Ty.int IntKind.i64) (Ty.pair Ty.str Ty.unit))) (Ty.pair (Ty.pair (Ty.int IntKind.i64) (Ty.pair (Ty.d0 true Ty.str) Ty.unit)) (Ty.pair (Ty.pair (Ty.int IntKind.i64) (Ty.pair (Ty.d0 true (Ty.pair (Ty.int IntKind.i64) (Ty.pair Ty.str Ty.unit))) Ty.unit)) (Ty.pair (Ty.pair (Ty.int IntKind.i64) (Ty.pair (Ty.d0 true (Ty.pair (Ty.int IntKind.i64) (Ty.pair Ty.str Ty.unit))) Ty.unit)) Ty.unit))))) 128),(85,TI.mk (Ty.pair Ty.bool (Ty.pair (Ty.d0 true (Ty.pair (Ty.int IntKind.i64) (Ty.pair Ty.str Ty.unit))) (Ty.pair (Ty.pair (Ty.int IntKind.i64) (Ty.pair (Ty.d0 true Ty.str) Ty.unit)) (Ty.pair (Ty.pair (Ty.int IntKind.i64) (Ty.pair (Ty.d0 true (Ty.pair (Ty.int IntKind.i64) (Ty.pair Ty.str Ty.unit))) Ty.unit)) (Ty.pair (Ty.pair (Ty.int IntKind.i64) (Ty.pair (Ty.d0 true (Ty.pair (Ty.int IntKind.i64) (Ty.pair Ty.str Ty.unit))) Ty.unit)) Ty.unit))))) 128),(88,TI.mk (Ty.arr 6 (Ty.int IntKind.i64)) 48),(89,TI.mk (Ty.arr 6 (Ty.int IntKind.i64)) 48),(90,TI.mk (Ty.pair (Ty.int IntKind.i64) (Ty.pair (Ty.int IntKind.i64) (Ty.pair (Ty.int IntKind.i64) (Ty.pair (Ty.int IntKind.i64) (Ty.pair (Ty.int IntKind.i64) (Ty.pair (Ty.arr 6 (Ty.int IntKind.i64)) (Ty.pair Ty.str Ty.unit))))))) 104),(91,TI.mk (Ty.pair (Ty.int IntKind.i64) (Ty.pair (Ty.int IntKind.i64) (Ty.pair (Ty.int IntKind.i64) (Ty.pair (Ty.int IntKind.i64) (Ty.pair (Ty.int IntKind.i64) (Ty.pair (Ty.arr 6 (Ty.int IntKind.i64)) (Ty.pair Ty.str Ty.unit))))))) 104),(103,TI.mk (Ty.pair (Ty.int IntKind.i64) (Ty.pair Ty.str Ty.unit)) 24),(104,TI.mk (Ty.pair (Ty.int IntKind.i64) (Ty.pair Ty.str Ty.unit)) 24),(115,TI.mk (Ty.d0 true (Ty.int IntKind.u8)) 24),(117,TI.mk (Ty.int IntKind.u32) 4),(119,TI.mk (Ty.int IntKind.u64) 8),(125,TI.mk (Ty.pair (Ty.int IntKind.i64) (Ty.pair (Ty.int IntKind.i64) (Ty.pair (Ty.int IntKind.i64) Ty.unit))) 24),(126,TI.mk (Ty.pair (Ty.int IntKind.i64) (Ty.pair (Ty.int IntKind.i64) (Ty.pair (Ty.int IntKind.i64) Ty.unit))) 24),(158,TI.mk (Ty.arr 24 (Ty.int IntKind.u8)) 24),(159,TI.mk (Ty.int IntKind.u64) 8),(169,TI.mk (Ty.int IntKind.i64) 8),(176,TI.mk (Ty.arr 20 (Ty.int IntKind.u64)) 160),(177,TI.mk (Ty.arr 65 (Ty.int IntKind.u8)) 65),(181,TI.mk (Ty.arr 256 Ty.bool) 256),(182,TI.mk (Ty.arr 256 Ty.bool) 256),(206,TI.mk (Ty.pair Ty.str Ty.unit) 16),(207,TI.mk (Ty.pair Ty.str Ty.unit) 16),(208,TI.mk (Ty.arr 32 (Ty.int IntKind.u8)) 32),(209,TI.mk (Ty.arr 64 (Ty.int IntKind.u8)) 64),(211,TI.mk (Ty.arr 256 (Ty.int IntKind.u8)) 256),(212,TI.mk (Ty.pair (Ty.int IntKind.u8) (Ty.pair (Ty.int IntKind.u8) Ty.unit)) 2),(213,TI.mk (Ty.pair (Ty.int IntKind.u8) (Ty.pair (Ty.int IntKind.u8) Ty.unit)) 2),(214,TI.mk (Ty.arr 16 (Ty.pair (Ty.int IntKind.u8) (Ty.pair (Ty.int IntKind.u8) Ty.unit))) 32),(222,TI.mk (Ty.int IntKind.u8) 1),(223,TI.mk (Ty.int IntKind.u8) 1),(225,TI.mk (Ty.int IntKind.i32) 4),(226,TI.mk (Ty.int IntKind.i32) 4),(25,{ ty:=Ty.box true none w9,by_:=8 }),(94,{ ty:=Ty.fn 79,by_:=8 })]
theorem p9:tt.all (a4R Tryz.prog)=true:=by kernel_rfl
theorem own:ownKnob Tryz.prog.godebug=none:=by kernel_rfl
theorem laid:laidOutB Tryz.prog=true:=by kernel_rfl
abbrev _root_.Go.Ex.Tree.ctL {ts:List Ty} (q:Code×List Item) (s:St):Tree ts:=.cut q.1 q.2 s
end Go.Proofs.YtijlnmgondibnaaGreatDoor
namespace Go.Proofs.YtijlnmgondibnaaGreatDoor
open Go.Ex Go.ChangeShapes Go.WideShapes Go.ChangeAt Go.RowKit
set_option maxRecDepth 100000

theorem c2P {X:Type} {enc:TypeId×Value→X} {C:Checked} {os:Os} {f:FuncId} {fn:Func} {s:ChangeSpec} {conds:List PathCond} {apart fresh handsOn again:Bool} {us:List Ty} {tb:TypeId} {a:Assume} {Y:World→Array Value→Prop}
    (hX:∀ (w w':World) (args:Array Value),w.heap=w'.heap→Y w args→Y w' args)
    (own:ownKnob C.prog.godebug=none) (started:os.Started) (noInit:C.prog.inits.idxOf? f=none) (hfn:C.prog.funcs[f]?=some fn)
    (witness:∃ (w:World) (tape:Tape) (i:Input),w.os=os∧(w.forCall tape i).Shaped C.prog∧i.vars=[]∧Input.okWide C.prog (w.forCall tape i) .any w.heap.size f i ∧
      ((s.pre enc C.prog fn conds apart (w.forCall tape i).memory i.args∧Y (w.forCall tape i).memory i.args)∧sizedMet enc C.prog fn (OpenSpec.ofChange s) apart (w.forCall tape i).memory i.args)∧a.holds C.prog (lone (Frame.enter C.prog f i.args .normal) [] (w.forCall tape i)))
    (hl:laidOutB C.prog=true) (hty:a4P C.prog fn.params.toList us=true) (hvars:s.vars=[]) (hs:∀ ds:List (DataW X),ds.length=fn.params.toList.length→s.fn X ds={ results:=[.lit (.bool true)],args:=ds })
    (hres:fn.resultTypes=#[tb]) (htb:C.prog.underlying tb=some .bool) (hv:(b8E us (fun _=>True)).Valid C.prog f) (hgl:∀ W args,W.ShapedOpen C.prog→Y W args→a0r C.prog W (fun b=>b<W.heap.size)) :
    ReturnsInHanded a C os f .any (fun w args=>(s.pre enc C.prog fn conds apart w args∧Y w args)∧sizedMet enc C.prog fn (OpenSpec.ofChange s) apart w args) (s.post enc C.prog fn apart fresh handsOn again):=by
  refine returnsInHanded_of_calls own started noInit witness ?_
  intro w tape i _ hsh _ hok hpre hholds
  obtain ⟨_,_,_,fn',hfn',_,_,_,_,hval⟩:=hok
  have e:fn'=fn:=Option.some.inj (hfn'.symm.trans hfn)
  subst e
  obtain ⟨⟨⟨ds,gs,before,hw,hc⟩,hx⟩,hz⟩:=hpre
  have hw':=DataW.Whole.of_heap (w':=w.forCall tape i) (by rfl) hw
  refine (c06 (apart:=apart) (fresh:=fresh) (handsOn:=handsOn) (again:=again) hl hty hvars hs hres htb hv (hgl _ _ hsh (hX _ _ _ (by rfl) hx)) (fun _ _=>trivial) hval hw').mono fun e W' ⟨v,he,hp⟩=>?_
  subst he
  exact ChangeSpec.post_blind hp

theorem c0v {P:Program} {W:World} {n:String} {g:Nat} {cs:Array Value} (hg:P.globalNamed n=some g) (h:W.var? P n=some cs):g<W.heap.size:=by
  unfold World.var? at h
  rw [hg,Option.bind_some] at h
  by_cases hlt:g<W.heap.size
  · exact hlt
  · rw [Array.getElem?_eq_none (by omega)] at h
    cases h

theorem c3s {P:Program} {W:World} {n:String} {g:Nat} {v:Value} (hg:P.globalNamed n=some g) (h:W.cell? ⟨g,0,none⟩=some v):∃ cs,W.var? P n=some cs∧cs[0]?=some v:=by
  unfold World.var?
  rw [hg,Option.bind_some]
  unfold World.cell? at h
  split at h
  · rename_i cs T fz hh
    exact ⟨cs,by rw [hh],h⟩
  · cases h

theorem c5g {l:List (String×DataW Unit)} {W:World} (hsh:W.ShapedOpen Tryz.prog) (hl:laidMetH Tryz.prog l W) (hf:(l.filter fun x=>x.2.handleName?.isSome)=[]) (hm:("internal/strconv.uint64pow10",Rows.laid_internal_strconv_uint64pow10)∈l) :
    a0r Tryz.prog W (fun b=>b<W.heap.size):=by
  unfold laidMetH at hl
  rw [hf] at hl
  obtain ⟨g,t,cs,fuel,p,h1,h2,h3,h4⟩:=Lib.laidMet.reads hl hm
  intro x hx g' hg'
  simp only [b3M,List.mem_cons,List.mem_nil_iff,or_false] at hx
  rcases hx with rfl|rfl
  · refine ⟨c0v hg' h3,cs,h3,?_⟩
    obtain rfl:=Option.some.inj ((show Tryz.prog.globalNamed "internal/strconv.uint64pow10"=some 0 by kernel_rfl).symm.trans h1)
    obtain rfl:=Option.some.inj ((show (Tryz.prog.globals[0]?).map (·.type)=some 176 by kernel_rfl).symm.trans h2)
    have:=Lib.cells_of_tab (n:=20) (e:=159) (k:=.u64) (zs:=(List.range 20).map fun i=>((10^i:Nat):Int)) (by kernel_rfl) (by kernel_rfl) (by kernel_rfl) (by kernel_rfl) h4
    rw [← this]
  · obtain rfl:=Option.some.inj ((show Tryz.prog.globalNamed "internal/bytealg.MaxLen"=some 1 by kernel_rfl).symm.trans hg')
    obtain ⟨m,hm⟩:=cell_of_shapedOpen_int (g:=1) (t:=3) (zero:=#[.int .i64 0]) (k:=.i64) hsh (Nat.le_of_ble_eq_true (by kernel_rfl)) (by kernel_rfl) rfl (by kernel_rfl) (by kernel_rfl) (by kernel_rfl)
    obtain ⟨cs,k1,k2⟩:=c3s (show Tryz.prog.globalNamed "internal/bytealg.MaxLen"=some 1 by kernel_rfl) hm
    exact ⟨c0v (show Tryz.prog.globalNamed "internal/bytealg.MaxLen"=some 1 by kernel_rfl) k1,cs,k1,m,k2⟩
end Go.Proofs.YtijlnmgondibnaaGreatDoor
namespace Go.Proofs.YtijlnmgondibnaaGreatDoor
open Go.Ex
set_option maxRecDepth 100000
theorem j9 {n:Int}:q9 .i64 n↔-9223372036854775808≤n∧n≤9223372036854775807:=Iff.rfl
theorem c59:Ty.wb e8=8:=rfl
theorem b7O:Ty.wb U8=1:=rfl
theorem yes:((true,()):Bool×Unit)=(true,()):=rfl
theorem a6r {α:Type} {l:List α} {i:Nat} (h:i<l.length) (d:α):l.drop i=l.getD i d::l.drop (i+1):=by
  rw [List.drop_eq_getElem_cons h,List.getD_eq_getElem?_getD,List.getElem?_eq_getElem h]; rfl
theorem a5h {α:Type} {l:List α} {i:Nat} {d:α} (h:i<l.length):l.getD i d∈l:=by
  rw [List.getD_eq_getElem?_getD,List.getElem?_eq_getElem h]; exact List.getElem_mem h
theorem c2I {α:Type} {l:List α} {x d:α} (h:x∈l):∃ i,i<l.length∧l.getD i d=x:=by
  obtain ⟨i,hi,e⟩:=List.getElem_of_mem h
  exact ⟨i,hi,by rw [List.getD_eq_getElem?_getD,List.getElem?_eq_getElem hi,e]; rfl⟩
theorem X2 {α:Type} {l:List α} {i j:Nat} {x d:α} (h:i<l.length):(l.set i x).getD j d=if j=i then x else l.getD j d:=by
  rw [List.getD_eq_getElem?_getD,List.getD_eq_getElem?_getD,List.getElem?_set]
  by_cases e:i=j
  · subst e; simp [h]
  · rw [if_neg e,if_neg (fun h=>e h.symm)]
theorem b2p {α:Type} {n i:Nat} (f:Nat→α) (x:α) (hi:i<n):((List.range n).map f).set i x=(List.range n).map (fun j=>if j=i then x else f j):=by
  refine List.ext_getElem (by simp) (fun j h1 h2=>?_)
  rw [List.getElem_set]
  simp only [List.getElem_map,List.getElem_range]
  by_cases e:i=j
  · rw [if_pos e,if_pos e.symm]
  · rw [if_neg e,if_neg (fun h=>e h.symm)]
def S5 {α:Type} (p:α→Bool):List α→Nat→Int
  | [],_=>-1
  | x::l,i=>if p x=true then (i:Int) else S5 p l (i+1)
def idxOf {α:Type} (p:α→Bool) (l:List α):Int:=S5 p l 0
theorem a6k {α:Type} {p:α→Bool}:∀ {l:List α} {i:Nat},0≤S5 p l i↔∃ x∈l,p x=true
  | [],i=>by simp [S5]
  | x::l,i=>by
    rw [S5]
    split
    · rename_i h; exact ⟨fun _=>⟨x,by simp,h⟩,fun _=>by omega⟩
    · rename_i h
      rw [a6k]
      constructor
      · rintro ⟨y,h1,h2⟩; exact ⟨y,by simp [h1],h2⟩
      · rintro ⟨y,h1,h2⟩
        rcases List.mem_cons.1 h1 with rfl|h1
        · exact absurd h2 h
        · exact ⟨y,h1,h2⟩
theorem b66 {α:Type} {p:α→Bool} {l:List α}:decide (0≤idxOf p l)=l.any p:=by
  cases e:l.any p with
  | true =>
    obtain ⟨x,h1,h2⟩:=List.any_eq_true.1 e
    exact decide_eq_true (a6k.2 ⟨x,h1,h2⟩)
  | false =>
    refine decide_eq_false (fun h=>?_)
    obtain ⟨x,h1,h2⟩:=a6k.1 h
    rw [List.any_eq_true.2 ⟨x,h1,h2⟩] at e
    cases e
end Go.Proofs.YtijlnmgondibnaaGreatDoor
namespace Go.Proofs.YtijlnmgondibnaaGreatDoor

def step (r:Nat):Nat:=if r % 2=1 then (r / 2) ^^^ 2197175160 else r / 2
theorem c4K {r:Nat} (h:r<4294967296):step r<4294967296:=by
  unfold step
  split
  · exact Nat.xor_lt_two_pow (n:=32) (by omega) (by decide)
  · omega
def steps:Nat→Nat→Nat
  | 0,r=>r
  | k+1,r=>steps k (step r)
theorem a8a:∀ (k:Nat) {r:Nat},r<4294967296→steps k r<4294967296
  | 0,_,h=>h
  | k+1,_,h=>a8a k (c4K h)
theorem b1a:∀ (a b r:Nat),steps (a+b) r=steps b (steps a r)
  | 0,b,r=>by rw [Nat.zero_add]; rfl
  | a+1,b,r=>by rw [show a+1+b=(a+b)+1 by omega]; simp only [steps]; exact b1a a b _
def byt (r b:Nat):Nat:=steps 8 (r ^^^ b)
def reg (r:Nat) (s:List UInt8):Nat:=s.foldl (fun r b=>byt r b.toNat) r
def a1d (s:List UInt8):Nat:=reg 4294967295 s ^^^ 4294967295
theorem c4Q (r:Nat) (s t:List UInt8):reg r (s++t)=reg (reg r s) t:=by simp [reg]
theorem c6B {r:Nat} (h:r<4294967296) (b:UInt8):byt r b.toNat<4294967296:=a8a 8 (Nat.xor_lt_two_pow (n:=32) h (by have:=b.toNat_lt; omega))
theorem c0O:∀ {s:List UInt8} {r:Nat},r<4294967296→reg r s<4294967296
  | [],_,h=>h
  | b::s,r,h=>show reg (byt r b.toNat) s<_ from c0O (c6B h b)
def le4 (x:Nat):List UInt8:=[UInt8.ofNat x,UInt8.ofNat (x / 2^8),UInt8.ofNat (x / 2^16),UInt8.ofNat (x / 2^24)]
/-! three texts -/
/-! how many ones, by two -/
/-! the order -/
end Go.Proofs.YtijlnmgondibnaaGreatDoor
namespace Go.Proofs.YtijlnmgondibnaaGreatDoor
open Go.Ex
set_option maxRecDepth 100000
def V6 (n a b:Int):Bool:=decide (a≤n) && decide (n≤b)
theorem Y5 {n a b:Int}:V6 n a b=true↔a≤n∧n≤b:=by simp [V6]
theorem b0D {α:Type} {l:List α} {i j:Int} (h0:0≤i) (h1:i≤j) (h2:j≤(l.length:Int)):n7 j (l.length:Int) l=l.drop j.toNat:=by
  rw [n7]; exact List.take_of_length_le (by rw [List.length_drop]; omega)
theorem b7c {α:Type} {l:List α} {i j:Int} (h0:0≤i) (h1:i≤j) (h2:j≤(l.length:Int)):((n7 j (l.length:Int) l).length:Int)=(l.length:Int) - j∧(List.take i.toNat l++n7 j (l.length:Int) l++List.drop (i.toNat+(n7 j (l.length:Int) l).length) l).length=l.length:=by
  rw [b0D h0 h1 h2]
  simp only [List.length_append,List.length_take,List.length_drop]
  omega
theorem c5l {α:Type} {l:List α} {d:List α} {i j:Int} (h0:0≤i) (h1:i≤j) (h2:j≤(l.length:Int)) {r:Nat} :
    n7 (0:Int) (i+(↑(List.length (n7 j (↑(List.length l):Int) l)):Int)) (List.take (Int.toNat ((0:Int)+(i+(↑(List.length (n7 j (↑(List.length l):Int) l)):Int) - (0:Int)))) (List.take (Int.toNat i) l++n7 j (↑(List.length l):Int) l++List.drop (Int.toNat i+List.length (n7 j (↑(List.length l):Int) l)) l)++d++List.drop r (List.take (Int.toNat i) l++n7 j (↑(List.length l):Int) l++List.drop (Int.toNat i+List.length (n7 j (↑(List.length l):Int) l)) l))=List.take i.toNat l++List.drop j.toNat l:=by
  obtain ⟨e1,e2⟩:=b7c h0 h1 h2 (l:=l)
  rw [b0D h0 h1 h2] at e1 e2 ⊢
  generalize hX:List.take i.toNat l++List.drop j.toNat l++List.drop (i.toNat+(List.drop j.toNat l).length) l=X at e2 ⊢
  have em:(0+(i+((List.drop j.toNat l).length:Int) - 0)).toNat=(List.take i.toNat l++List.drop j.toNat l).length:=by
    simp only [List.length_append,List.length_take]; omega
  have en:(i+((List.drop j.toNat l).length:Int) - 0).toNat=(List.take i.toNat l++List.drop j.toNat l).length:=by
    simp only [List.length_append,List.length_take]; omega
  rw [n7,em,en,Int.toNat_zero,List.drop_zero,List.append_assoc,List.take_append_of_le_length (by
    rw [List.length_take,e2]
    simp only [List.length_append,List.length_take,List.length_drop]; omega),List.take_take,Nat.min_self,← hX,List.take_left]

def rest (a n:Int):Int:=if n≤0 then 0 else Int.tmod (Int.tmod a n+n) n
def b86:p7:={ ps:=[.v e8,.v e8],rs:=[e8],pre:=fun x=>LE.le (α:=Int) x.2.1 1000000000,fn:=fun x=>(rest x.1 x.2.1,()),out:=fun _=>() }
noncomputable def b9W:Env:={ P:=Tryz.prog,tt:=tt,C0:=[],res:=[Go.ResultVar.tmp 4],rs:=[Ty.int IntKind.i64],ps:=[PK.v e8,PK.v e8],y6:=[],nt:=14 }
theorem b41:u7 b9W:=x6 p9 trivial
theorem b4G:B0 b9W Tryz.f39:=⟨rfl,rfl⟩
theorem c5H (x0:Int) (x1:Int):exec b9W 1000 [.code (d9 Tryz.prog 39)] (s6 b86.ps ((x0,x1,()))) =
  cond (decide (x1≤(0:Int))) (.ret (((0:Int),()))) (.f6 ((0:Int)<x1) (.f6 (q9 IntKind.i64 (Int.tmod x0 x1+x1)) (.f6 ((0:Int)<x1) (.ret ((Int.tmod (Int.tmod x0 x1+x1) x1,())))))):=by kernel_rfl
theorem b53:b86.Valid Tryz.prog 39:=by
  refine p7.o6 b41 rfl rfl Tryz.func39 (c:=d9 Tryz.prog 39) rfl rfl b4G rfl ?_
  rintro ⟨(x0:Int),(x1:Int),⟨⟩⟩ hp -
  refine j5 (n:=1000) b41 b4G ?_
  refine g9 (c5H x0 x1) ?_
  have hp:x1≤1000000000:=hp
  simp only [j8,Tree.holds,true_and,true_implies,decide_eq_true_eq,decide_eq_false_iff_not,Bool.not_eq_true',Bool.not_eq_false',Int.toNat_natCast,j9,List.length_set,List.length_cons,List.length_nil]
  refine ⟨fun a=>?_,fun a=>?_⟩
  · show ((0,()):Int×Unit)=(rest x0 x1,())
    rw [rest,if_pos a]
  · have h0:0<x1:=by omega
    have h1:=Int.tmod_lt_of_pos x0 h0
    have h2:-x1<Int.tmod x0 x1:=by
      have:=Int.tmod_lt_of_pos (-x0) h0
      rw [Int.neg_tmod] at this
      omega
    refine ⟨h0,fun _=>⟨by omega,fun _=>⟨h0,fun _=>?_⟩⟩⟩
    show ((_,()):Int×Unit)=(rest x0 x1,())
    rw [rest,if_neg a]
theorem b6O {a n:Int} (h:0<n):0≤rest a n∧rest a n<n:=by
  have h1:=Int.tmod_lt_of_pos (-a) h
  rw [Int.neg_tmod] at h1
  rw [rest,if_neg (by omega)]
  exact ⟨Int.tmod_nonneg _ (by omega),Int.tmod_lt_of_pos _ h⟩
end Go.Proofs.YtijlnmgondibnaaGreatDoor
namespace Go.Proofs.YtijlnmgondibnaaGreatDoor
open Go.Ex

instance {k:IntKind} {n:Int}:Decidable (q9 k n):=inferInstanceAs (Decidable (_∧_))

def bit (x:Int) (i:Nat):Bool:=x.toNat.testBit i

section
variable {k:IntKind} {x y:Int}
theorem a6j (hk:k.signed=false):q9 k x↔0≤x∧x<2^k.bits:=by
  cases k<;>simp [IntKind.signed] at hk<;>simp [q9,IntKind.min,IntKind.max,IntKind.signed,IntKind.bits]<;>omega

theorem b2Q (hk:k.signed=false) (b:BitVec k.bits):k.wrap (b.toNat:Int)=(b.toNat:Int):=by
  refine K7 ((a6j hk).2 ⟨Int.natCast_nonneg _,?_⟩)
  have:=b.isLt
  exact_mod_cast this

theorem a2w (hk:k.signed=false) (hx:q9 k x) (i:Nat):(BitVec.ofInt k.bits x).getLsbD i=bit x i:=by
  obtain ⟨h0,h1⟩:=(a6j hk).1 hx
  obtain ⟨n,rfl⟩:=Int.eq_ofNat_of_zero_le h0
  have hn:n<2^k.bits:=by exact_mod_cast h1
  rw [BitVec.ofInt_natCast,BitVec.getLsbD_ofNat]
  simp only [bit,Int.toNat_natCast]
  by_cases hi:i<k.bits
  · simp [hi]
  · have:n.testBit i=false:=Nat.testBit_lt_two_pow (Nat.lt_of_lt_of_le hn (Nat.pow_le_pow_right (by omega) (by omega)))
    simp [this]

theorem c5t (hk:k.signed=false) (hx:q9 k x) {i:Nat} (hi:k.bits≤i):bit x i=false:=by
  obtain ⟨h0,h1⟩:=(a6j hk).1 hx
  obtain ⟨n,rfl⟩:=Int.eq_ofNat_of_zero_le h0
  have hn:n<2^k.bits:=by exact_mod_cast h1
  exact Nat.testBit_lt_two_pow (Nat.lt_of_lt_of_le hn (Nat.pow_le_pow_right (by omega) hi))

theorem b7j (hk:k.signed=false) (hx:q9 k x) (hy:q9 k y) (i:Nat):bit (R6 k x y) i=(bit x i && bit y i):=by
  rw [R6,b2Q hk,bit,Int.toNat_natCast,BitVec.testBit_toNat,BitVec.getLsbD_and,a2w hk hx,a2w hk hy]

theorem c1E (hk:k.signed=false) (hx:q9 k x) (hy:q9 k y) (i:Nat):bit (bOr k x y) i=(bit x i || bit y i):=by
  rw [bOr,b2Q hk,bit,Int.toNat_natCast,BitVec.testBit_toNat,BitVec.getLsbD_or,a2w hk hx,a2w hk hy]

theorem c5s (hk:k.signed=false) (hx:q9 k x) (hy:q9 k y) (i:Nat):bit (a1K k x y) i=(bit x i ^^ bit y i):=by
  rw [a1K,b2Q hk,bit,Int.toNat_natCast,BitVec.testBit_toNat,BitVec.getLsbD_xor,a2w hk hx,a2w hk hy]

theorem b9D (hk:k.signed=false) (hx:q9 k x) (hy:q9 k y) (i:Nat):bit (Q4 k x y) i=(bit x i && !bit y i):=by
  rw [Q4,b2Q hk,bit,Int.toNat_natCast,BitVec.testBit_toNat,BitVec.getLsbD_and,BitVec.getLsbD_not,a2w hk hx,a2w hk hy]
  by_cases hi:i<k.bits
  · simp [hi]
  · rw [c5t hk hx (by omega)]; simp

theorem c1P:q9 k (R6 k x y):=P8 _ _
theorem b8o:q9 k (bOr k x y):=P8 _ _
theorem c57:q9 k (a1K k x y):=P8 _ _
theorem c1Q:q9 k (Q4 k x y):=P8 _ _

theorem b4q (hx:0≤x) (hy:0≤y) (h:∀ i,bit x i=bit y i):x=y:=by
  have:x.toNat=y.toNat:=Nat.eq_of_testBit_eq h
  omega

end

theorem u8s:IntKind.u8.signed=false:=rfl
theorem u8_in {x:Int}:q9 .u8 x↔0≤x∧x≤255:=Iff.rfl

def c4o (n:Nat):Nat:=((List.range 8).map fun i=>(n.testBit i).toNat).sum
def a1W (m:Int):Int:=(c4o m.toNat:Int)

theorem c41 (m:Int):a1W m=((bit m 0).toNat+(bit m 1).toNat+(bit m 2).toNat+(bit m 3).toNat+(bit m 4).toNat+(bit m 5).toNat+(bit m 6).toNat+(bit m 7).toNat:Nat):=by
  simp only [a1W,c4o,List.range,List.range.loop,List.map_cons,List.map_nil,List.sum_cons,List.sum_nil,bit]
  omega

theorem toNat_le (b:Bool):b.toNat≤1:=by cases b<;>decide

theorem c40 (m:Int):0≤a1W m∧a1W m≤8:=by
  rw [c41]
  have:=toNat_le (bit m 0); have:=toNat_le (bit m 1); have:=toNat_le (bit m 2); have:=toNat_le (bit m 3)
  have:=toNat_le (bit m 4); have:=toNat_le (bit m 5); have:=toNat_le (bit m 6); have:=toNat_le (bit m 7)
  omega

end Go.Proofs.YtijlnmgondibnaaGreatDoor
namespace Go.Proofs.YtijlnmgondibnaaGreatDoor
open Go.Ex
set_option maxRecDepth 100000

theorem a27 {n:Int}:q9 .u32 n↔0≤n∧n≤4294967295:=Iff.rfl
theorem c3A {k:IntKind} (hk:k.signed=false) {a b:Nat} (ha:q9 k a) (hb:q9 k b):a1K k (a:Int) (b:Int)=((a ^^^ b:Nat):Int) :=
  b4q ((a6j hk).1 c57).1 (Int.natCast_nonneg _) (fun i=>by rw [c5s hk ha hb]; simp [bit,Nat.testBit_xor])
theorem c3B {k:IntKind} (hk:k.signed=false) {a b:Nat} (ha:q9 k a) (hb:q9 k b):R6 k (a:Int) (b:Int)=((a &&& b:Nat):Int) :=
  b4q ((a6j hk).1 c1P).1 (Int.natCast_nonneg _) (fun i=>by rw [b7j hk ha hb]; simp [bit,Nat.testBit_and])
theorem b7N {a b:Nat} (ha:a<4294967296) (hb:b<4294967296):a1K .u32 (a:Int) (b:Int)=((a ^^^ b:Nat):Int):=c3A rfl (a27.2 ⟨by omega,by omega⟩) (a27.2 ⟨by omega,by omega⟩)
theorem c7d {a:Nat} (ha:a<4294967296):R6 .u32 (a:Int) 1=((a % 2:Nat):Int):=by
  have:=c3B (k:=.u32) rfl (a:=a) (b:=1) (a27.2 ⟨by omega,by omega⟩) (a27.2 ⟨by omega,by omega⟩)
  rw [Nat.and_one_is_mod] at this
  exact this

def b81:p7:={ ps:=[.v .str],rs:=[.int .u32],pre:=fun _=>True,fn:=fun x=>(((a1d x.1:Nat):Int),()),out:=fun _=>() }
noncomputable def b5A:Env:={ P:=Tryz.prog,tt:=tt,C0:=[],res:=[Go.ResultVar.tmp 2],rs:=[Ty.int IntKind.u32],ps:=[PK.v Ty.str],y6:=[(3,[(0,none),(3,none),(7,none),(8,none)]),(7,[(0,none),(3,none),(7,none),(8,none),(17,none)])],nt:=31 }
theorem a7u:u7 b5A:=x6 p9 trivial
theorem a7t:B0 b5A Tryz.f63:=⟨rfl,rfl⟩
theorem c63 (x0:List UInt8):exec b5A 1000 [.code (d9 Tryz.prog 63)] (s6 b81.ps ((x0,()))) =
  .ctL (f9 (d9 Tryz.prog 63) 3) (St.mk [(0,AV.val Ty.str x0),(3,AV.val (Ty.int IntKind.u32) (4294967295:Int)),(7,AV.val e8 (↑(List.length x0):Int)),(8,AV.val e8 (0:Int))] []):=by kernel_rfl
def b7L (v0:List UInt8) (v3:Int) (v7:Int) (v8:Int):St:=St.mk [(0,AV.val Ty.str v0),(3,AV.val (Ty.int IntKind.u32) v3),(7,AV.val e8 v7),(8,AV.val e8 v8)] []
theorem c55 (v0:List UInt8) (v3:Int) (v7:Int) (v8:Int):exec b5A 1000 (.code (f9 (d9 Tryz.prog 63) 3).1::.inLoop (f9 (d9 Tryz.prog 63) 3).1::(f9 (d9 Tryz.prog 63) 3).2) (b7L v0 v3 v7 v8) =
  cond (decide (v8<v7)) (.f6 ((0:Int)≤v8∧v8<(↑(List.length v0):Int)) (.ctL (f9 (d9 Tryz.prog 63) 7) (St.mk [(0,AV.val Ty.str v0),(3,AV.val (Ty.int IntKind.u32) (a1K IntKind.u32 v3 (IntKind.wrap IntKind.u32 (↑(UInt8.toNat (List.getD v0 (Int.toNat v8) (0:UInt8))):Int)))),(7,AV.val e8 v7),(8,AV.val e8 v8),(17,AV.val e8 (0:Int))] []))) (.ret ((a1K IntKind.u32 (if IntKind.signed IntKind.u32=true then (-1:Int) else IntKind.max IntKind.u32) v3,()))):=by kernel_rfl
def b7K (v0:List UInt8) (v3:Int) (v7:Int) (v8:Int) (v17:Int):St:=St.mk [(0,AV.val Ty.str v0),(3,AV.val (Ty.int IntKind.u32) v3),(7,AV.val e8 v7),(8,AV.val e8 v8),(17,AV.val e8 v17)] []
theorem c54 (v0:List UInt8) (v3:Int) (v7:Int) (v8:Int) (v17:Int):exec b5A 1000 (.code (f9 (d9 Tryz.prog 63) 7).1::.inLoop (f9 (d9 Tryz.prog 63) 7).1::(f9 (d9 Tryz.prog 63) 7).2) (b7K v0 v3 v7 v8 v17) =
  cond (decide (v17<(8:Int))) (.f6 ((0:Int)≤(1:Int)) (cond (decide (R6 IntKind.u32 v3 (1:Int)=(1:Int))) (.f6 (q9 IntKind.i64 (v17+(1:Int))) (.ctL (f9 (d9 Tryz.prog 63) 7) (St.mk [(0,AV.val Ty.str v0),(3,AV.val (Ty.int IntKind.u32) (a1K IntKind.u32 (v3 / (2:Int)^min (Int.toNat (1:Int)) (IntKind.bits IntKind.u32)) (2197175160:Int))),(7,AV.val e8 v7),(8,AV.val e8 v8),(17,AV.val e8 (v17+(1:Int)))] []))) (.f6 (q9 IntKind.i64 (v17+(1:Int))) (.ctL (f9 (d9 Tryz.prog 63) 7) (St.mk [(0,AV.val Ty.str v0),(3,AV.val (Ty.int IntKind.u32) (v3 / (2:Int)^min (Int.toNat (1:Int)) (IntKind.bits IntKind.u32))),(7,AV.val e8 v7),(8,AV.val e8 v8),(17,AV.val e8 (v17+(1:Int)))] []))))) (.f6 (q9 IntKind.i64 (v8+(1:Int))) (.ctL (f9 (d9 Tryz.prog 63) 3) (St.mk [(0,AV.val Ty.str v0),(3,AV.val (Ty.int IntKind.u32) v3),(7,AV.val e8 v7),(8,AV.val e8 (v8+(1:Int)))] []))):=by kernel_rfl
theorem b78 (k r:Nat):steps (k+1) r=step (steps k r):=by rw [b1a k 1]; rfl
theorem c2y {s:List UInt8} {i:Nat} (h:i<s.length) (r:Nat):reg r (s.take (i+1))=steps 8 (reg r (s.take i) ^^^ (s.getD i 0).toNat):=by
  rw [List.take_add_one,List.getElem?_eq_getElem h,c4Q,List.getD_eq_getElem?_getD,List.getElem?_eq_getElem h]
  rfl
theorem a9C:b81.Valid Tryz.prog 63:=by
  refine p7.o6 a7u rfl rfl Tryz.func63 (c:=d9 Tryz.prog 63) rfl rfl a7t rfl ?_
  rintro ⟨(s:List UInt8),⟨⟩⟩ - ⟨hl,-⟩
  have hl:s.length≤9223372036854775807:=hl
  refine j5 (n:=1000) a7u a7t ?_
  refine g9 (c63 s) ?_
  refine Reach.N3 a7u a7t (fun i:Nat=>b7L s ((reg 4294967295 (s.take i):Nat):Int) (s.length:Int) (i:Int)) (fun i=>i≤s.length)
    (fun i=>s.length - i) 1000 (fun i=>⟨u3 rfl,u3 rfl⟩) ?_ 0 (by omega)
  rintro i hi - ih
  refine g9 (c55 ..) ?_
  simp only [j8,Tree.holds,decide_eq_true_eq,decide_eq_false_iff_not,Int.toNat_natCast]
  have hr:=c0O (s:=s.take i) (r:=4294967295) (by decide)
  have hb:(s.getD i 0).toNat<256:=UInt8.toNat_lt _
  refine ⟨fun a=>⟨⟨by omega,by omega⟩,fun _=>?_⟩,fun a=>?_⟩
  · have h32:reg 4294967295 (s.take i) ^^^ (s.getD i 0).toNat<4294967296:=Nat.xor_lt_two_pow (n:=32) hr (by omega)
    rw [show IntKind.wrap IntKind.u32 ((s.getD i 0).toNat:Int)=((s.getD i 0).toNat:Int) from K7 (a27.2 ⟨by omega,by omega⟩),b7N hr (by omega)]
    refine Reach.N3 a7u a7t (fun j:Nat=>b7K s ((steps j (reg 4294967295 (s.take i) ^^^ (s.getD i 0).toNat):Nat):Int) (s.length:Int) (i:Int) (j:Int)) (fun j=>j≤8)
      (fun j=>8 - j) 1000 (fun i=>⟨u3 rfl,u3 rfl⟩) ?_ 0 (by omega)
    rintro j hj - ih2
    refine g9 (c54 ..) ?_
    have hs:=a8a j h32
    have hn:=b78 j (reg 4294967295 (s.take i) ^^^ (s.getD i 0).toNat)
    have he:steps 8 (reg 4294967295 (s.take i) ^^^ (s.getD i 0).toNat)=reg 4294967295 (s.take (i+1))∨¬ i<s.length:=by
      by_cases h:i<s.length
      · exact .inl (c2y h _).symm
      · exact .inr h
    generalize hR:steps j (reg 4294967295 (s.take i) ^^^ (s.getD i 0).toNat)=r at *
    have hd:((r:Nat):Int) / 2^min (Int.toNat 1) (IntKind.bits IntKind.u32)=((r / 2:Nat):Int):=by
      show ((r:Nat):Int) / 2^1=_
      omega
    rw [hd,c7d hs,show (2197175160:Int)=((2197175160:Nat):Int) from rfl,b7N (by omega) (by decide)]
    simp only [j8,Tree.holds,decide_eq_true_eq,decide_eq_false_iff_not]
    have hk:q9 .i64 ((j:Int)+1):=j9.2 ⟨by omega,by omega⟩
    refine ⟨fun b=>⟨by decide,fun _=>⟨fun c=>⟨hk,fun _=>?_⟩,fun c=>⟨hk,fun _=>?_⟩⟩⟩,fun b=>⟨j9.2 ⟨by omega,by omega⟩,fun _=>?_⟩⟩
    · have h9:=ih2 (j+1) (by omega) (by omega)
      rw [hn,step,if_pos (by omega)] at h9
      exact h9
    · have h9:=ih2 (j+1) (by omega) (by omega)
      rw [hn,step,if_neg (by omega)] at h9
      exact h9
    · have hj8:j=8:=by omega
      subst hj8
      rw [hR] at he
      have h9:=ih (i+1) (by omega) (by omega)
      rw [← he.resolve_right (fun h=>h (by omega))] at h9
      exact h9
  · have hi:i=s.length:=by omega
    subst hi
    rw [List.take_length] at hr ⊢
    show (a1K .u32 4294967295 ((reg 4294967295 s:Nat):Int),())=(((a1d s:Nat):Int),())
    rw [show (4294967295:Int)=((4294967295:Nat):Int) from rfl,b7N (by decide) hr,a1d,Nat.xor_comm]

end Go.Proofs.YtijlnmgondibnaaGreatDoor
namespace Go.Proofs.YtijlnmgondibnaaGreatDoor
open Go.Ex
section
variable {α:Type} {p:α→Bool} {d:α}
theorem b3H:∀ {l:List α} {j:Nat},S5 p l j≠-1→∃ k:Nat,S5 p l j=((j+k:Nat):Int)∧k<l.length∧p (l.getD k d)=true∧∀ i,i<k→p (l.getD i d)=false
  | [],_,h=>absurd rfl h
  | y::l,j,h=>by
    by_cases hy:p y=true
    · exact ⟨0,by rw [S5,if_pos hy]; rfl,by simp,hy,fun i hi=>by omega⟩
    · rw [S5,if_neg hy] at h ⊢
      obtain ⟨k,h1,h2,h3,h4⟩:=b3H h
      refine ⟨k+1,by rw [h1]; congr 1; omega,by simp; omega,h3,fun i hi=>?_⟩
      cases i with
      | zero=>simpa using hy
      | succ i=>exact h4 i (by omega)
structure W8 (p:α→Bool) (l m:List α) (i j:Nat):Prop where
  tk:m.take i=(l.take j).filter (fun x=>!p x)
  dr:m.drop j=l.drop j
  len:m.length=l.length
  lt:i<j
  le:j≤l.length
theorem a81 {l:List α} {i:Nat} (h:i<l.length) (d:α):l.take (i+1)=l.take i++[l.getD i d]:=by
  rw [List.getD_eq_getElem?_getD,List.getElem?_eq_getElem h]; simp
theorem b8O:∀ {l:List α},(∀ x∈l,p x=false)→l.filter (fun x=>!p x)=l:=fun h=>List.filter_eq_self.2 (fun x hx=>by rw [h x hx]; rfl)
theorem W8.start (d:α) {l:List α} (h:idxOf p l≠-1):∃ k:Nat,idxOf p l=(k:Int)∧k<l.length∧W8 p l l k (k+1):=by
  obtain ⟨k,h1,h2,h3,h4⟩:=b3H (d:=d) h
  refine ⟨k,by rw [idxOf,h1]; congr 1; omega,h2,⟨?_,rfl,rfl,by omega,by omega⟩⟩
  rw [a81 h2 d,List.filter_append,b8O]
  · simp only [List.filter_cons,List.filter_nil,h3]; simp
  · intro x hx
    obtain ⟨i,hi,rfl⟩:=c2I (d:=d) hx
    rw [List.length_take] at hi
    have:=h4 i (by omega)
    rw [List.getD_eq_getElem?_getD,List.getElem?_take,if_pos (by omega),← List.getD_eq_getElem?_getD]
    exact this
theorem W8.at_ {l m:List α} {i j:Nat} (h:W8 p l m i j) (d:α):m.getD j d=l.getD j d:=by
  have:=congrArg (fun q:List α=>q.getD 0 d) h.dr
  simpa [List.getD_eq_getElem?_getD,List.getElem?_drop] using this
theorem W8.c4y {l m:List α} {i j:Nat} (h:W8 p l m i j):m.drop (j+1)=l.drop (j+1):=by
  rw [← List.drop_drop,← List.drop_drop,h.dr]
theorem W8.a8o {l m:List α} {i j:Nat} (h:W8 p l m i j) (hj:j<l.length) (hp:p (m.getD j d)=false):W8 p l (m.set i (m.getD j d)) (i+1) (j+1):=by
  have hl:=h.len
  have hlt:=h.lt
  refine ⟨?_,?_,by rw [List.length_set,hl],by omega,by omega⟩
  · rw [a81 hj d,List.filter_append,← h.tk,a81 (by rw [List.length_set]; omega) d]
    rw [h.at_ d] at hp ⊢
    congr 1
    · rw [List.take_set_of_le (Nat.le_refl i)]
    · rw [X2 (by omega),if_pos rfl]; generalize l.getD j d=x at hp ⊢; simp [hp]
  · rw [List.drop_set_of_lt (by omega)]; exact h.c4y
theorem W8.skip {l m:List α} {i j:Nat} (h:W8 p l m i j) (hj:j<l.length) (hp:p (m.getD j d)=true):W8 p l m i (j+1):=by
  refine ⟨?_,h.c4y,h.len,by have:=h.lt; omega,by omega⟩
  rw [a81 hj d,List.filter_append,← h.tk]
  rw [h.at_ d] at hp
  generalize l.getD j d=x at hp ⊢
  simp [hp]
theorem W8.fin {l m A B:List α} {i j:Nat} (h:W8 p l m i j) (hj:j=l.length):n7 0 (i:Int) (m.take i++A++B)=l.filter (fun x=>!p x):=by
  have h1:=h.tk
  rw [hj,List.take_of_length_le (Nat.le_refl _)] at h1
  have hi:(m.take i).length=i:=by rw [List.length_take]; have:=h.len; have:=h.lt; omega
  rw [n7,show ((i:Int) - 0).toNat=i by omega,Int.toNat_zero,List.drop_zero,List.append_assoc,List.take_append_of_le_length (by omega),List.take_of_length_le (by omega),h1]
end
end Go.Proofs.YtijlnmgondibnaaGreatDoor
namespace Go.Proofs.YtijlnmgondibnaaGreatDoor
open Go.Ex
set_option maxRecDepth 100000
theorem a2O {α:Type} {l:List α} {i:Nat} (h:i<l.length) (d:α):l.take (i+1)=l.take i++[l.getD i d]:=by
  rw [List.take_succ_eq_append_getElem h,List.getD_eq_getElem?_getD,List.getElem?_eq_getElem h]; rfl
abbrev y4:=Int×Int×Int×Int×Int×List Int×List UInt8×Unit
def G6 (n a b:Int):Bool:=decide (a≤n) && decide (n≤b)
theorem S4 {n a b:Int}:G6 n a b=true↔a≤n∧n≤b:=by simp [G6]
def b9k:p7:={ ps:=[.v e8,.v e8,.v e8],rs:=[.bool],pre:=fun _=>True,fn:=fun x=>(G6 x.1 x.2.1 x.2.2.1,()),out:=fun _=>() }
noncomputable def c3U:Env:={ P:=Tryz.prog,tt:=tt,C0:=[],res:=[Go.ResultVar.tmp 6],rs:=[Ty.bool],ps:=[PK.v e8,PK.v e8,PK.v e8],y6:=[],nt:=15 }
theorem b7H:u7 c3U:=x6 p9 trivial
theorem b7y:B0 c3U Tryz.f80:=⟨rfl,rfl⟩
theorem c6Z (x0:Int) (x1:Int) (x2:Int):exec c3U 1000 [.code (d9 Tryz.prog 80)] (s6 b9k.ps ((x0,x1,x2,()))) =
  cond (decide (x1≤x0)) (.ret ((decide (x0≤x2),()))) (.ret ((false,()))):=by kernel_rfl
theorem a9K:b9k.Valid Tryz.prog 80:=by
  refine p7.o6 b7H rfl rfl Tryz.func80 (c:=d9 Tryz.prog 80) rfl rfl b7y rfl ?_
  rintro ⟨(n:Int),(a:Int),(b:Int),⟨⟩⟩ - -
  refine j5 (n:=1000) b7H b7y ?_
  refine g9 (c6Z n a b) ?_
  simp only [j8,Tree.holds,true_and,true_implies,decide_eq_true_eq,decide_eq_false_iff_not,Bool.not_eq_true',Bool.not_eq_false',Int.toNat_natCast,j9,List.length_set,List.length_cons,List.length_nil]
  refine ⟨fun c=>?_,fun c=>?_⟩
  · show ((decide _,()):Bool×Unit)=(G6 n a b,()); rw [G6,decide_eq_true c,Bool.true_and]
  · show ((false,()):Bool×Unit)=(G6 n a b,()); rw [G6,decide_eq_false c,Bool.false_and]
def b9e:p7:={ ps:=[.v e8],rs:=[.bool],pre:=fun _=>True,fn:=fun x=>(G6 x.1 0 16777215,()),out:=fun _=>() }
noncomputable def c3O:Env:={ P:=Tryz.prog,tt:=tt,C0:=[(80,b9k)],res:=[Go.ResultVar.tmp 2],rs:=[Ty.bool],ps:=[PK.v e8],y6:=[],nt:=5 }
theorem b7E:u7 c3O:=x6 p9 ⟨a9K,trivial⟩
theorem b7v:B0 c3O Tryz.f79:=⟨rfl,rfl⟩
theorem c6W (x0:Int):exec c3O 1000 [.code (d9 Tryz.prog 79)] (s6 b9e.ps ((x0,()))) =
  .f6 (True) (.ret ((G6 x0 (0:Int) (16777215:Int),()))):=by kernel_rfl
theorem a9H:b9e.Valid Tryz.prog 79:=by
  refine p7.o6 b7E rfl rfl Tryz.func79 (c:=d9 Tryz.prog 79) rfl rfl b7v rfl ?_
  rintro ⟨(n:Int),⟨⟩⟩ - -
  refine j5 (n:=1000) b7E b7v ?_
  refine g9 (c6W n) ?_
  exact ⟨trivial,fun _=>rfl⟩
def P7 (n:Int):Bool:=!G6 n 0 16777215
def b0G:p7:={ ps:=[.v e8,.rd (.fn 79)],rs:=[.bool],pre:=fun x=>Eq (α:=Bool) x.2.1 true,fn:=fun x=>(P7 x.1,()),out:=fun _=>() }
noncomputable def b0Y:Env:={ P:=Tryz.prog,tt:=tt,C0:=[(79,b9e)],res:=[Go.ResultVar.tmp 3],rs:=[Ty.bool],ps:=[PK.v e8,PK.rd (Ty.fn 79)],y6:=[],nt:=8 }
theorem b0a:u7 b0Y:=x6 p9 ⟨a9H,trivial⟩
theorem a94:B0 b0Y Tryz.f82:=⟨rfl,rfl⟩
theorem c2a (x0:Int) (x1:Bool):exec b0Y 1000 [.code (d9 Tryz.prog 82)] (s6 b0G.ps ((x0,x1,()))) =
  .f6 (x1=true∧True) (.ret ((!G6 x0 (0:Int) (16777215:Int),()))):=by kernel_rfl
theorem b2B:b0G.Valid Tryz.prog 82:=by
  refine p7.o6 b0a rfl rfl Tryz.func82 (c:=d9 Tryz.prog 82) rfl rfl a94 rfl ?_
  rintro ⟨(n:Int),(b:Bool),⟨⟩⟩ (hp:b=true) -
  refine j5 (n:=1000) b0a a94 ?_
  refine g9 (c2a n b) ?_
  exact ⟨⟨hp,trivial⟩,fun _=>rfl⟩
def b9m:p7:={ ps:=[.v (.d0 false e8),.B8 82 [.fn 79]],rs:=[e8],pre:=fun x=>Eq (α:=Bool) x.2.1.1 true,fn:=fun x=>(idxOf (P7) x.1,()),out:=fun _=>() }
noncomputable def b2W:Env:={ P:=Tryz.prog,tt:=tt,C0:=[(82,b0G)],res:=[Go.ResultVar.tmp 4],rs:=[Ty.int IntKind.i64],ps:=[PK.v (Ty.d0 false e8),PK.B8 82 [Ty.fn 79]],y6:=[(2,[(0,none),(1,none),(7,none),(8,none)])],nt:=19 }
theorem a8Q:u7 b2W:=x6 p9 ⟨b2B,trivial⟩
theorem a8J:B0 b2W Tryz.f95:=⟨rfl,rfl⟩
theorem c5R (x0:List Int) (x1c0:Bool):exec b2W 1000 [.code (d9 Tryz.prog 95)] (s6 b9m.ps ((x0,(x1c0,()),()))) =
  .ctL (f9 (d9 Tryz.prog 95) 2) (St.mk [(0,AV.val (Ty.d0 false e8) x0),(1,AV.B8 82 (AV.cons (AV.L9 (Ty.fn 79) x1c0) AV.nil)),(7,AV.val e8 (↑(List.length x0):Int)),(8,AV.val e8 (0:Int))] []):=by kernel_rfl
def b5b (v0:List Int) (v1a:Bool) (v7:Int) (v8:Int):St:=St.mk [(0,AV.val (Ty.d0 false e8) v0),(1,AV.B8 82 (AV.cons (AV.L9 (Ty.fn 79) v1a) AV.nil)),(7,AV.val e8 v7),(8,AV.val e8 v8)] []
theorem c3W (v0:List Int) (v1a:Bool) (v7:Int) (v8:Int):exec b2W 1000 (.code (f9 (d9 Tryz.prog 95) 2).1::.inLoop (f9 (d9 Tryz.prog 95) 2).1::(f9 (d9 Tryz.prog 95) 2).2) (b5b v0 v1a v7 v8) =
  cond (decide (v8<v7)) (.f6 ((0:Int)≤v8∧v8<(↑(List.length v0):Int)) (.f6 (v1a=true) (cond (P7 (List.getD v0 (Int.toNat v8) (0:Int))) (.ret ((v8,()))) (.f6 (q9 IntKind.i64 (v8+(1:Int))) (.ctL (f9 (d9 Tryz.prog 95) 2) (St.mk [(0,AV.val (Ty.d0 false e8) v0),(1,AV.B8 82 (AV.cons (AV.L9 (Ty.fn 79) v1a) AV.nil)),(7,AV.val e8 v7),(8,AV.val e8 (v8+(1:Int)))] [])))))) (.ret (((-1:Int),()))):=by kernel_rfl
theorem b6g:b9m.Valid Tryz.prog 95:=by
  refine p7.o6 a8Q rfl rfl Tryz.func95 (c:=d9 Tryz.prog 95) rfl rfl a8J rfl ?_
  rintro ⟨(l:List (Int)),⟨(b:Bool),⟨⟩⟩,⟨⟩⟩ hp ⟨⟨hl,-⟩,-⟩
  have hl:l.length≤9223372036854775807:=hl
  have hp:b=true:=hp
  refine j5 (n:=1000) a8Q a8J ?_
  refine g9 (c5R l b) ?_
  refine Reach.N3 a8Q a8J (fun i:Nat=>b5b l b (l.length:Int) (i:Int)) (fun i=>i≤l.length∧idxOf (P7) l=S5 (P7) (l.drop i) i)
    (fun i=>l.length - i) 1000 (fun _=>⟨u3 rfl,u3 rfl⟩) ?_ 0 ⟨by omega,rfl⟩
  rintro i ⟨k1,k2⟩ - ih
  refine g9 (c3W ..) ?_
  simp only [j8,Tree.holds,true_and,true_implies,decide_eq_true_eq,decide_eq_false_iff_not,Bool.not_eq_true',Bool.not_eq_false',Int.toNat_natCast,j9,List.length_set,List.length_cons,List.length_nil]
  refine ⟨fun h=>?_,fun h=>?_⟩
  · rw [a6r (show i<l.length by omega) 0,S5] at k2
    refine ⟨by omega,fun _=>⟨hp,fun _=>⟨fun c=>?_,fun c=>⟨by omega,fun _=>ih (i+1) ⟨by omega,?_⟩ (by omega)⟩⟩⟩⟩
    · show (((i:Int),()):Int×Unit)=(idxOf (P7) l,())
      rw [k2,if_pos (show (P7) (l.getD i 0)=true from c)]
    · rw [k2,if_neg (show ¬ (P7) (l.getD i 0)=true from fun h9=>Bool.noConfusion (Eq.trans (Eq.symm h9) c))]
  · rw [List.drop_eq_nil_of_le (by omega)] at k2
    show (((-1:Int),()):Int×Unit)=(idxOf (P7) l,())
    rw [k2]; rfl
def b4i:p7:={ ps:=[.v (.d0 false e8),.B8 82 [.fn 79]],rs:=[.bool],pre:=fun x=>Eq (α:=Bool) x.2.1.1 true,fn:=fun x=>(List.any (α:=Int) x.1 (P7),()),out:=fun _=>() }
noncomputable def b5w:Env:={ P:=Tryz.prog,tt:=tt,C0:=[(95,b9m)],res:=[Go.ResultVar.tmp 4],rs:=[Ty.bool],ps:=[PK.v (Ty.d0 false e8),PK.B8 82 [Ty.fn 79]],y6:=[],nt:=9 }
theorem b2m:u7 b5w:=x6 p9 ⟨b6g,trivial⟩
theorem b1Y:B0 b5w Tryz.f81:=⟨rfl,rfl⟩
theorem c4b (x0:List Int) (x1c0:Bool):exec b5w 1000 [.code (d9 Tryz.prog 81)] (s6 b4i.ps ((x0,(x1c0,()),()))) =
  .f6 (x1c0=true) (.ret ((decide ((0:Int)≤idxOf P7 x0),()))):=by kernel_rfl
theorem b4h:b4i.Valid Tryz.prog 81:=by
  refine p7.o6 b2m rfl rfl Tryz.func81 (c:=d9 Tryz.prog 81) rfl rfl b1Y rfl ?_
  rintro ⟨(l:List (Int)),⟨(b:Bool),⟨⟩⟩,⟨⟩⟩ hp -
  refine j5 (n:=1000) b2m b1Y ?_
  refine g9 (c4b l b) ?_
  refine ⟨hp,fun _=>?_⟩
  show ((decide (0≤idxOf (P7) l),()):Bool×Unit)=(l.any (P7),())
  rw [b66]
def a0g (n:y4):Bool:=G6 n.1 0 255 && G6 n.2.1 0 5 && G6 n.2.2.1 0 5 && G6 n.2.2.2.1 0 16777215 && G6 n.2.2.2.2.1 0 16777215
def G0 (n:y4):Int :=
  if a0g n=false then 1 else if n.2.2.2.2.2.1.any P7=true then 1 else if 200<n.2.2.2.2.2.2.1.length then 2 else 0
def a7n:p7:={ ps:=[.v b0R],rs:=[e8],pre:=fun _=>True,fn:=fun x=>(G0 x.1,()),out:=fun _=>() }
noncomputable def b0V:Env:={ P:=Tryz.prog,tt:=tt,C0:=[(80,b9k),(79,b9e),(81,b4i)],res:=[Go.ResultVar.tmp 2],rs:=[Ty.int IntKind.i64],ps:=[PK.v (Ty.pair e8 (Ty.pair e8 (Ty.pair e8 (Ty.pair e8 (Ty.pair e8 (Ty.pair V2 (Ty.pair Ty.str Ty.unit)))))))],y6:=[],nt:=45 }
theorem a97:u7 b0V:=x6 p9 ⟨a9K,a9H,b4h,trivial⟩
theorem a92:B0 b0V Tryz.f65:=⟨rfl,rfl⟩
theorem c1W (x0_1:Int) (x0_2_1:Int) (x0_2_2_1:Int) (x0_2_2_2_1:Int) (x0_2_2_2_2_1:Int) (x0_2_2_2_2_2_1:List Int) (x0_2_2_2_2_2_2_1:List UInt8):exec b0V 1000 [.code (d9 Tryz.prog 65)] (s6 a7n.ps (((x0_1,x0_2_1,x0_2_2_1,x0_2_2_2_1,x0_2_2_2_2_1,x0_2_2_2_2_2_1,x0_2_2_2_2_2_2_1,()),()))) =
  .f6 (True) (cond (!G6 x0_1 (0:Int) (255:Int)) (.ret (((1:Int),()))) (.f6 (True) (cond (!G6 x0_2_1 (0:Int) (5:Int)) (.ret (((1:Int),()))) (.f6 (True) (cond (!G6 x0_2_2_1 (0:Int) (5:Int)) (.ret (((1:Int),()))) (.f6 (true=true∧True) (cond (!G6 x0_2_2_2_1 (0:Int) (16777215:Int)) (.ret (((1:Int),()))) (.f6 (true=true∧True) (cond (!G6 x0_2_2_2_2_1 (0:Int) (16777215:Int)) (.ret (((1:Int),()))) (.f6 ((0:Int)≤(0:Int)∧(0:Int)≤(↑6:Int)∧(↑6:Int)≤(↑6:Int)) (.f6 (true=true) (cond (List.any (n7 (0:Int) (↑6:Int) x0_2_2_2_2_2_1) P7) (.ret (((1:Int),()))) (cond (decide ((200:Int)<(↑(List.length x0_2_2_2_2_2_2_1):Int))) (.ret (((2:Int),()))) (.ret (((0:Int),())))))))))))))))):=by kernel_rfl
theorem b7e {α:Type} {l:List α} {n:Nat} (h:l.length=n):n7 0 (n:Int) l=l:=by subst h; simp [n7]
theorem a5Q:a7n.Valid Tryz.prog 65:=by
  refine p7.o6 a97 rfl rfl Tryz.func65 (c:=d9 Tryz.prog 65) rfl rfl a92 rfl ?_
  rintro ⟨⟨(a:Int),(b:Int),(c:Int),(d:Int),(e:Int),(v:List Int),(t:List UInt8),⟨⟩⟩,⟨⟩⟩ - ⟨⟨-,-,-,-,-,⟨hv,-⟩,-⟩,-⟩
  have hv:v.length=6:=hv
  refine j5 (n:=1000) a97 a92 ?_
  refine g9 (c1W a b c d e v t) ?_
  have hc:n7 0 6 v=v:=b7e hv
  have bad:a0g (a,b,c,d,e,v,t,())=false→(((1:Int),()):Int×Unit)=(G0 (a,b,c,d,e,v,t,()),()):=fun h=>by rw [G0,if_pos h]
  simp only [j8,Tree.holds,true_and,true_implies,decide_eq_true_eq,decide_eq_false_iff_not,Bool.not_eq_true',Bool.not_eq_false',Int.toNat_natCast,j9,List.length_set,List.length_cons,List.length_nil,hc]
  refine ⟨fun h=>bad (by simp [a0g,h]),fun h1=>⟨fun h=>bad (by simp [a0g,h]),fun h2=>⟨fun h=>bad (by simp [a0g,h]),fun h3=>⟨fun h=>bad (by simp [a0g,h]),fun h4=>⟨fun h=>bad (by simp [a0g,h]),fun h5=>⟨by omega,fun _=>⟨fun h=>?_,fun h6=>⟨fun h=>?_,fun h=>?_⟩⟩⟩⟩⟩⟩⟩⟩
  all_goals have hw:a0g (a,b,c,d,e,v,t,())≠false:=by simp [a0g,h1,h2,h3,h4,h5]
  · show (((1:Int),()):Int×Unit)=(G0 (a,b,c,d,e,v,t,()),())
    rw [G0,if_neg hw,if_pos h]
  · show (((2:Int),()):Int×Unit)=(G0 (a,b,c,d,e,v,t,()),())
    rw [G0,if_neg hw,if_neg (fun h9=>Bool.noConfusion (Eq.trans (Eq.symm h9) h6)),if_pos (by show 200<t.length; omega)]
  · show (((0:Int),()):Int×Unit)=(G0 (a,b,c,d,e,v,t,()),())
    rw [G0,if_neg hw,if_neg (fun h9=>Bool.noConfusion (Eq.trans (Eq.symm h9) h6)),if_neg (by show ¬ 200<t.length; omega)]
structure b4E (n:y4):Prop where
  kind:0≤n.1∧n.1≤255
  from_:0≤n.2.1∧n.2.1≤5
  to:0≤n.2.2.1∧n.2.2.1≤5
  view:0≤n.2.2.2.1∧n.2.2.2.1≤16777215
  seq:0≤n.2.2.2.2.1∧n.2.2.2.2.1≤16777215
  at_:∀ x∈n.2.2.2.2.2.1,0≤x∧x≤16777215
  text:n.2.2.2.2.2.2.1.length≤200
theorem a5U {n:y4} (h:G0 n=0):b4E n:=by
  unfold G0 at h
  split at h
  · cases h
  split at h
  · cases h
  split at h
  · cases h
  · rename_i h1 h2 h3
    have h1:a0g n=true:=by cases e:a0g n with|true=>rfl|false=>exact absurd e h1
    simp only [a0g,Bool.and_eq_true,S4] at h1
    obtain ⟨⟨⟨⟨a,b⟩,c⟩,d⟩,e⟩:=h1
    refine ⟨a,b,c,d,e,fun x hx=>?_,by omega⟩
    have h2:n.2.2.2.2.2.1.any P7=false:=by cases e:n.2.2.2.2.2.1.any P7 with|false=>rfl|true=>exact absurd e h2
    have:=List.any_eq_false.1 h2 x hx
    rw [P7,Bool.not_eq_true,Bool.not_eq_false'] at this
    exact S4.1 this
def R0 (n:Int):List Int:=[IntKind.wrap .u8 n,IntKind.wrap .u8 (n / 256),IntKind.wrap .u8 (n / 65536)]
def a9B:p7:={ ps:=[.v e8],rs:=[.d0 true (.int .u8)],pre:=fun _=>True,fn:=fun x=>(R0 x.1,()),out:=fun _=>() }
noncomputable def b4Z:Env:={ P:=Tryz.prog,tt:=tt,C0:=[],res:=[Go.ResultVar.tmp 2],rs:=[Ty.d0 true U8],ps:=[PK.v e8],y6:=[],nt:=12 }
theorem b2a:u7 b4Z:=x6 p9 trivial
theorem b1N:B0 b4Z Tryz.f77:=⟨rfl,rfl⟩
theorem c3I (x0:Int):exec b4Z 1000 [.code (d9 Tryz.prog 77)] (s6 a9B.ps ((x0,()))) =
  .f6 ((0:Int)≤(8:Int)) (.f6 ((0:Int)≤(16:Int)) (.ret ((List.set (List.set (List.set [(0:Int),(0:Int),(0:Int)] (Int.toNat (↑0:Int)) (IntKind.wrap IntKind.u8 x0)) (Int.toNat (↑1:Int)) (IntKind.wrap IntKind.u8 (x0 / (2:Int)^min (Int.toNat (8:Int)) (IntKind.bits IntKind.i64)))) (Int.toNat (↑2:Int)) (IntKind.wrap IntKind.u8 (x0 / (2:Int)^min (Int.toNat (16:Int)) (IntKind.bits IntKind.i64))),())))):=by kernel_rfl
theorem a6A:a9B.Valid Tryz.prog 77:=by
  refine p7.o6 b2a rfl rfl Tryz.func77 (c:=d9 Tryz.prog 77) rfl rfl b1N rfl ?_
  rintro ⟨(n:Int),⟨⟩⟩ - -
  refine j5 (n:=1000) b2a b1N ?_
  refine g9 (c3I n) ?_
  exact ⟨Int.le.intro 8 rfl,fun _=>⟨Int.le.intro 16 rfl,fun _=>rfl⟩⟩
def a2F (x:Nat):List Int:=(le4 x).map (fun b=>(b.toNat:Int))
theorem a4O (x:Nat):(UInt8.ofNat x).toNat=x % 256:=by simp
theorem c5d (x:Nat):a2F x=[(x:Int) % 256,(x:Int) / 256 % 256,(x:Int) / 65536 % 256,(x:Int) / 16777216 % 256]:=by
  simp only [a2F,le4,List.map_cons,List.map_nil,a4O]
  simp only [List.cons.injEq,and_true]
  refine ⟨by omega,by omega,by omega,by omega⟩
theorem c0B (n:Int):R0 n=[n % 256,n / 256 % 256,n / 65536 % 256]:=rfl
def b2P:p7:={ ps:=[.v (.int .u32)],rs:=[.d0 true (.int .u8)],pre:=fun _=>True,fn:=fun x=>(a2F (Int.toNat x.1),()),out:=fun _=>() }
noncomputable def c0i:Env:={ P:=Tryz.prog,tt:=tt,C0:=[(77,a9B)],res:=[Go.ResultVar.tmp 2],rs:=[Ty.d0 true U8],ps:=[PK.v (Ty.int IntKind.u32)],y6:=[],nt:=11 }
theorem b5s:u7 c0i:=x6 p9 ⟨a6A,trivial⟩
theorem b4U:B0 c0i Tryz.f62:=⟨rfl,rfl⟩
theorem c5Z (x0:Int):exec c0i 1000 [.code (d9 Tryz.prog 62)] (s6 b2P.ps ((x0,()))) =
  .f6 (True) (.f6 ((0:Int)≤(24:Int)) (.f6 (List.length (R0 (IntKind.wrap IntKind.i64 x0))+List.length (List.set [(0:Int)] (Int.toNat (↑0:Int)) (IntKind.wrap IntKind.u8 (x0 / (2:Int)^min (Int.toNat (24:Int)) (IntKind.bits IntKind.u32))))≤140737488355328∧(List.length (R0 (IntKind.wrap IntKind.i64 x0))+List.length (List.set [(0:Int)] (Int.toNat (↑0:Int)) (IntKind.wrap IntKind.u8 (x0 / (2:Int)^min (Int.toNat (24:Int)) (IntKind.bits IntKind.u32)))))*Ty.wb U8≤140737488355328) (.ret ((R0 (IntKind.wrap IntKind.i64 x0)++List.set [(0:Int)] (Int.toNat (↑0:Int)) (IntKind.wrap IntKind.u8 (x0 / (2:Int)^min (Int.toNat (24:Int)) (IntKind.bits IntKind.u32))),()))))):=by kernel_rfl
theorem a7S:b2P.Valid Tryz.prog 62:=by
  refine p7.o6 b5s rfl rfl Tryz.func62 (c:=d9 Tryz.prog 62) rfl rfl b4U rfl ?_
  rintro ⟨(n:Int),⟨⟩⟩ - ⟨hr,-⟩
  have hr:0≤n∧n≤4294967295:=a27.1 hr
  refine j5 (n:=1000) b5s b4U ?_
  refine g9 (c5Z n) ?_
  have hw:IntKind.wrap .i64 n=n:=K7 (j9.2 ⟨by omega,by omega⟩)
  simp only [j8,Tree.holds,true_and,true_implies,decide_eq_true_eq,decide_eq_false_iff_not,Bool.not_eq_true',Bool.not_eq_false',Int.toNat_natCast,j9,List.length_set,List.length_cons,List.length_nil,hw,b7O,c0B]
  refine ⟨by omega,fun _=>⟨by omega,fun _=>?_⟩⟩
  obtain ⟨x,rfl⟩:=Int.eq_ofNat_of_zero_le hr.1
  show (([(x:Int) % 256,(x:Int) / 256 % 256,(x:Int) / 65536 % 256,(x:Int) / 16777216 % 256],()):List Int×Unit)=(a2F (Int.toNat (x:Int)),())
  rw [Int.toNat_natCast,c5d]
def a2e (l:List Int):List UInt8:=l.map (fun n=>UInt8.ofNat n.toNat)
theorem a5t (t:List UInt8):a2e (t.map (fun b=>(b.toNat:Int)))=t:=by
  rw [a2e,List.map_map]
  have:((fun n:Int=>UInt8.ofNat n.toNat) ∘ fun b:UInt8=>(b.toNat:Int))=id:=by
    funext b
    simp
  rw [this,List.map_id]
theorem a3U (l m:List Int):a2e (l++m)=a2e l++a2e m:=List.map_append
def a9u (n:y4):List Int:=[IntKind.wrap .u8 n.1,IntKind.wrap .u8 n.2.1,IntKind.wrap .u8 n.2.2.1]
def W2 (n:y4):List Int:=n.2.2.2.1::n.2.2.2.2.1::n.2.2.2.2.2.1
def a5u (n:y4):List Int:=a9u n++(W2 n).flatMap R0++n.2.2.2.2.2.2.1.map (fun b=>(b.toNat:Int))
def a0S (n:y4):List UInt8:=a2e (a5u n)
def X8 (n:y4):List UInt8:=a0S n++le4 (a1d (a0S n))
def Q5 (n:y4):List UInt8×Int×Unit:=if G0 n≠0 then ([],G0 n,()) else (X8 n,0,())
def b9a:p7:={ ps:=[.v b0R],rs:=[.str,e8],pre:=fun _=>True,fn:=fun x=>Q5 x.1,out:=fun _=>() }
noncomputable def a99:Env:={ P:=Tryz.prog,tt:=tt,C0:=[(65,a7n),(77,a9B),(62,b2P),(63,b81)],res:=[Go.ResultVar.tmp 2,Go.ResultVar.tmp 3],rs:=[Ty.str,Ty.int IntKind.i64],ps:=[PK.v (Ty.pair e8 (Ty.pair e8 (Ty.pair e8 (Ty.pair e8 (Ty.pair e8 (Ty.pair V2 (Ty.pair Ty.str Ty.unit)))))))],y6:=[(6,[(1,none),(5,some (Ty.d0 true U8)),(30,some Is),(31,none),(32,none)])],nt:=52 }
theorem a8N:u7 a99:=x6 p9 ⟨a5Q,a6A,a7S,a9C,trivial⟩
theorem a8H:B0 a99 Tryz.f60:=⟨rfl,rfl⟩
theorem c5K (x0_1:Int) (x0_2_1:Int) (x0_2_2_1:Int) (x0_2_2_2_1:Int) (x0_2_2_2_2_1:Int) (x0_2_2_2_2_2_1:List Int) (x0_2_2_2_2_2_2_1:List UInt8):exec a99 1000 [.code (d9 Tryz.prog 60)] (s6 b9a.ps (((x0_1,x0_2_1,x0_2_2_1,x0_2_2_2_1,x0_2_2_2_2_1,x0_2_2_2_2_2_1,x0_2_2_2_2_2_2_1,()),()))) =
  .f6 (True) (cond (decide (G0 (x0_1,x0_2_1,x0_2_2_1,x0_2_2_2_1,x0_2_2_2_2_1,x0_2_2_2_2_2_1,x0_2_2_2_2_2_2_1,())≠(0:Int))) (.ret ((Array.toList (ByteArray.data (ByteArray.mk #[])),G0 (x0_1,x0_2_1,x0_2_2_1,x0_2_2_2_1,x0_2_2_2_2_1,x0_2_2_2_2_2_1,x0_2_2_2_2_2_2_1,()),()))) (.f6 ((0:Int)≤(0:Int)∧(0:Int)≤(↑6:Int)∧(↑6:Int)≤(↑6:Int)) (.f6 (List.length (List.set (List.set [(0:Int),(0:Int)] (Int.toNat (↑0:Int)) x0_2_2_2_1) (Int.toNat (↑1:Int)) x0_2_2_2_2_1)+List.length (n7 (0:Int) (↑6:Int) x0_2_2_2_2_2_1)≤140737488355328∧(List.length (List.set (List.set [(0:Int),(0:Int)] (Int.toNat (↑0:Int)) x0_2_2_2_1) (Int.toNat (↑1:Int)) x0_2_2_2_2_1)+List.length (n7 (0:Int) (↑6:Int) x0_2_2_2_2_2_1))*Ty.wb e8≤140737488355328) (.ctL (f9 (d9 Tryz.prog 60) 6) (St.mk [(1,AV.ptr 1 []),(5,AV.at_ 1000005 []),(30,AV.at_ 1000030 []),(31,AV.val e8 (↑(List.length (List.set (List.set [(0:Int),(0:Int)] (Int.toNat (↑0:Int)) x0_2_2_2_1) (Int.toNat (↑1:Int)) x0_2_2_2_2_1++n7 (0:Int) (↑6:Int) x0_2_2_2_2_2_1)):Int)),(32,AV.val e8 (0:Int))] [(1,g8.var (Ty.pair e8 (Ty.pair e8 (Ty.pair e8 (Ty.pair e8 (Ty.pair e8 (Ty.pair V2 (Ty.pair Ty.str Ty.unit))))))) (x0_1,x0_2_1,x0_2_2_1,x0_2_2_2_1,x0_2_2_2_2_1,x0_2_2_2_2_2_1,x0_2_2_2_2_2_2_1,())),(1000005,g8.own (Ty.d0 true U8) (List.set (List.set (List.set [(0:Int),(0:Int),(0:Int)] (Int.toNat (↑0:Int)) (IntKind.wrap IntKind.u8 x0_1)) (Int.toNat (↑1:Int)) (IntKind.wrap IntKind.u8 x0_2_1)) (Int.toNat (↑2:Int)) (IntKind.wrap IntKind.u8 x0_2_2_1))),(1000030,g8.own Is (List.set (List.set [(0:Int),(0:Int)] (Int.toNat (↑0:Int)) x0_2_2_2_1) (Int.toNat (↑1:Int)) x0_2_2_2_2_1++n7 (0:Int) (↑6:Int) x0_2_2_2_2_2_1))]))))):=by kernel_rfl
def a8M (v31:Int) (v32:Int) (o1_1:Int) (o1_2_1:Int) (o1_2_2_1:Int) (o1_2_2_2_1:Int) (o1_2_2_2_2_1:Int) (o1_2_2_2_2_2_1:List Int) (o1_2_2_2_2_2_2_1:List UInt8) (oy005:List Int) (oy030:List Int):St:=St.mk [(1,AV.ptr 1 []),(5,AV.at_ 1000005 []),(30,AV.at_ 1000030 []),(31,AV.val e8 v31),(32,AV.val e8 v32)] [(1,g8.var (Ty.pair e8 (Ty.pair e8 (Ty.pair e8 (Ty.pair e8 (Ty.pair e8 (Ty.pair V2 (Ty.pair Ty.str Ty.unit))))))) (o1_1,o1_2_1,o1_2_2_1,o1_2_2_2_1,o1_2_2_2_2_1,o1_2_2_2_2_2_1,o1_2_2_2_2_2_2_1,())),(1000005,g8.own (Ty.d0 true U8) oy005),(1000030,g8.own Is oy030)]
theorem c3N (v31:Int) (v32:Int) (o1_1:Int) (o1_2_1:Int) (o1_2_2_1:Int) (o1_2_2_2_1:Int) (o1_2_2_2_2_1:Int) (o1_2_2_2_2_2_1:List Int) (o1_2_2_2_2_2_2_1:List UInt8) (oy005:List Int) (oy030:List Int):exec a99 1000 (.code (f9 (d9 Tryz.prog 60) 6).1::.inLoop (f9 (d9 Tryz.prog 60) 6).1::(f9 (d9 Tryz.prog 60) 6).2) (a8M v31 v32 o1_1 o1_2_1 o1_2_2_1 o1_2_2_2_1 o1_2_2_2_2_1 o1_2_2_2_2_2_1 o1_2_2_2_2_2_2_1 oy005 oy030) =
  cond (decide (v32<v31)) (.f6 ((0:Int)≤v32∧v32<(↑(List.length oy030):Int)) (.f6 (True) (.f6 (List.length oy005+List.length (R0 (List.getD oy030 (Int.toNat v32) (0:Int)))≤140737488355328∧(List.length oy005+List.length (R0 (List.getD oy030 (Int.toNat v32) (0:Int))))*Ty.wb U8≤140737488355328) (.f6 (q9 IntKind.i64 (v32+(1:Int))) (.ctL (f9 (d9 Tryz.prog 60) 6) (St.mk [(1,AV.ptr 1 []),(5,AV.at_ 1000005 []),(30,AV.at_ 1000030 []),(31,AV.val e8 v31),(32,AV.val e8 (v32+(1:Int)))] [(1,g8.var (Ty.pair e8 (Ty.pair e8 (Ty.pair e8 (Ty.pair e8 (Ty.pair e8 (Ty.pair V2 (Ty.pair Ty.str Ty.unit))))))) (o1_1,o1_2_1,o1_2_2_1,o1_2_2_2_1,o1_2_2_2_2_1,o1_2_2_2_2_2_1,o1_2_2_2_2_2_2_1,())),(1000005,g8.own (Ty.d0 true U8) (oy005++R0 (List.getD oy030 (Int.toNat v32) (0:Int)))),(1000030,g8.own Is oy030)])))))) (.f6 (List.length oy005+List.length (List.map (fun b=>(↑(UInt8.toNat b):Int)) o1_2_2_2_2_2_2_1)≤140737488355328∧(List.length oy005+List.length (List.map (fun b=>(↑(UInt8.toNat b):Int)) o1_2_2_2_2_2_2_1))*Ty.wb U8≤140737488355328) (.f6 (True) (.f6 (True) (.f6 (List.length (oy005++List.map (fun b=>(↑(UInt8.toNat b):Int)) o1_2_2_2_2_2_2_1)+List.length (a2F (Int.toNat (↑(a1d (List.map (fun n=>UInt8.ofNat (Int.toNat n)) (oy005++List.map (fun b=>(↑(UInt8.toNat b):Int)) o1_2_2_2_2_2_2_1))):Int)))≤140737488355328∧(List.length (oy005++List.map (fun b=>(↑(UInt8.toNat b):Int)) o1_2_2_2_2_2_2_1)+List.length (a2F (Int.toNat (↑(a1d (List.map (fun n=>UInt8.ofNat (Int.toNat n)) (oy005++List.map (fun b=>(↑(UInt8.toNat b):Int)) o1_2_2_2_2_2_2_1))):Int))))*Ty.wb U8≤140737488355328) (.ret ((List.map (fun n=>UInt8.ofNat (Int.toNat n)) (oy005++List.map (fun b=>(↑(UInt8.toNat b):Int)) o1_2_2_2_2_2_2_1++a2F (Int.toNat (↑(a1d (List.map (fun n=>UInt8.ofNat (Int.toNat n)) (oy005++List.map (fun b=>(↑(UInt8.toNat b):Int)) o1_2_2_2_2_2_2_1))):Int))),(0:Int),()))))))):=by kernel_rfl
theorem b08 (l:List Int):(l.flatMap R0).length=3*l.length:=by
  induction l with
  | nil=>rfl
  | cons x l ih=>rw [List.flatMap_cons,List.length_append,ih,R0]; simp; omega
theorem b56:b9a.Valid Tryz.prog 60:=by
  refine p7.o6 a8N rfl rfl Tryz.func60 (c:=d9 Tryz.prog 60) rfl rfl a8H rfl ?_
  rintro ⟨⟨(a:Int),(b:Int),(c:Int),(d:Int),(e:Int),(v:List Int),(t:List UInt8),⟨⟩⟩,⟨⟩⟩ - ⟨⟨-,-,-,-,-,⟨hv,-⟩,-⟩,-⟩
  have hv:v.length=6:=hv
  obtain ⟨n,hn⟩:∃ n:y4,n=(a,b,c,d,e,v,t,()):=⟨_,rfl⟩
  refine j5 (n:=1000) a8N a8H ?_
  refine g9 (c5K a b c d e v t) ?_
  have hc:n7 0 6 v=v:=b7e hv
  have h0:List.set (List.set [(0:Int),0] (Int.toNat ((0:Nat):Int)) d) (Int.toNat ((1:Nat):Int)) e++v=W2 n:=by rw [hn]; rfl
  have h0':∀ m:List Int,List.set (List.set [(0:Int),0] (Int.toNat 0) d) (Int.toNat 1) e++m=d::e::m:=fun m=>rfl
  rw [← hn]
  have e6:n7 0 6 v=v:=hc
  simp only [j8,Tree.holds,true_and,true_implies,decide_eq_true_eq,decide_eq_false_iff_not,Bool.not_eq_true',Bool.not_eq_false',Int.toNat_natCast,j9,List.length_set,List.length_cons,List.length_nil,hc,b7O,c59]
  refine ⟨fun h=>?_,fun h=>⟨by omega,fun _=>⟨by omega,fun _=>?_⟩⟩⟩
  · show (([],G0 n,()):List UInt8×Int×Unit)=Q5 n
    rw [Q5,if_pos h]
  have hok:=a5U (n:=n) (by omega)
  have ht:t.length≤200:=by have:=hok.text; rw [hn] at this; exact this
  have hnl:(W2 n).length=8:=by rw [hn]; show (d::e::v).length=8; simp [hv]
  suffices go:Go.Ex.Reach a99 Tryz.f60 (Q5 n) () (.code (f9 (d9 Tryz.prog 60) 6).1::.inLoop (f9 (d9 Tryz.prog 60) 6).1::(f9 (d9 Tryz.prog 60) 6).2) (a8M ((W2 n).length:Int) ((0:Nat):Int) a b c d e v t (a9u n++((W2 n).take 0).flatMap R0) (W2 n)) by
    subst hn
    exact go
  refine Reach.N3 a8N a8H (fun i:Nat=>a8M ((W2 n).length:Int) (i:Int) a b c d e v t (a9u n++((W2 n).take i).flatMap R0) (W2 n)) (fun i=>i≤(W2 n).length)
    (fun i=>(W2 n).length - i) 1000 (fun _=>⟨u3 rfl,u3 rfl⟩) ?_ 0 (Nat.zero_le _)
  · rintro i k1 - ih
    have k1:i≤(W2 n).length:=k1
    refine g9 (c3N ..) ?_
    have hl:(a9u n++((W2 n).take i).flatMap R0).length=3+3*i:=by
      rw [List.length_append,b08,List.length_take]
      show 3+_=_
      omega
    have hl3:∀ x,(R0 x).length=3:=fun _=>rfl
    simp only [j8,Tree.holds,true_and,true_implies,decide_eq_true_eq,decide_eq_false_iff_not,Bool.not_eq_true',Bool.not_eq_false',Int.toNat_natCast,j9,List.length_set,List.length_cons,List.length_nil,b7O,hl,hl3]
    refine ⟨fun c1=>⟨by omega,fun _=>⟨by omega,fun _=>⟨by omega,fun _=>?_⟩⟩⟩,fun c1=>?_⟩
    · have:=ih (i+1) (by show i+1≤(W2 n).length; omega) (by omega)
      rw [a2O (show i<(W2 n).length by omega) 0,List.flatMap_append,← List.append_assoc] at this
      simp only [List.flatMap_cons,List.flatMap_nil,List.append_nil] at this
      exact this
    · rw [List.take_of_length_le (by omega)] at hl ⊢
      have hb:a9u n++(W2 n).flatMap R0++List.map (fun b:UInt8=>(b.toNat:Int)) t=a5u n:=by rw [a5u,hn]
      have hbl:(a5u n).length=27+t.length:=by rw [← hb,List.length_append,hl,List.length_map]; omega
      have h4:∀ x,(a2F x).length=4:=fun _=>rfl
      rw [hb]
      simp only [j8,Tree.holds,true_and,true_implies,decide_eq_true_eq,decide_eq_false_iff_not,Bool.not_eq_true',Bool.not_eq_false',Int.toNat_natCast,j9,List.length_set,List.length_cons,List.length_nil,hbl,h4,List.length_map]
      refine ⟨by omega,fun _=>⟨by omega,fun _=>?_⟩⟩
      show ((a2e (a5u n++a2F (a1d (a2e (a5u n)))),0,()):List UInt8×Int×Unit)=Q5 n
      rw [Q5,if_neg h,a3U,X8,a2F,a5t]
      rfl
def a13 (s:List UInt8) (i:Nat):Int:=((s.getD i 0).toNat:Int)
def Y3 (s:List UInt8) (k:Nat):Int:=a13 s (3+3*k)+a13 s (4+3*k)*256+a13 s (5+3*k)*65536
def b9d:p7:={ ps:=[.v e8,.rd .str],rs:=[e8],pre:=fun x=>LE.le (α:=Int) 0 x.1∧LT.lt (α:=Int) (5+3*(show Int from x.1)) (List.length x.2.1),fn:=fun x=>(Y3 x.2.1 (Int.toNat x.1),()),out:=fun _=>() }
noncomputable def b90:Env:={ P:=Tryz.prog,tt:=tt,C0:=[],res:=[Go.ResultVar.tmp 3],rs:=[Ty.int IntKind.i64],ps:=[PK.v e8,PK.rd Ty.str],y6:=[],nt:=26 }
theorem b44:u7 b90:=x6 p9 trivial
theorem b4J:B0 b90 Tryz.f64:=⟨rfl,rfl⟩
theorem c5M (x0:Int) (x1:List UInt8):exec b90 1000 [.code (d9 Tryz.prog 64)] (s6 b9d.ps ((x0,x1,()))) =
  .f6 (q9 IntKind.i64 ((3:Int)*x0)) (.f6 (q9 IntKind.i64 ((3:Int)+(3:Int)*x0)) (.f6 ((0:Int)≤(3:Int)+(3:Int)*x0∧(3:Int)+(3:Int)*x0<(↑(List.length x1):Int)) (.f6 (q9 IntKind.i64 ((3:Int)+(3:Int)*x0+(1:Int))) (.f6 ((0:Int)≤(3:Int)+(3:Int)*x0+(1:Int)∧(3:Int)+(3:Int)*x0+(1:Int)<(↑(List.length x1):Int)) (.f6 ((0:Int)≤(8:Int)) (.f6 (q9 IntKind.i64 ((3:Int)+(3:Int)*x0+(2:Int))) (.f6 ((0:Int)≤(3:Int)+(3:Int)*x0+(2:Int)∧(3:Int)+(3:Int)*x0+(2:Int)<(↑(List.length x1):Int)) (.f6 ((0:Int)≤(16:Int)) (.ret ((bOr IntKind.i64 (bOr IntKind.i64 (IntKind.wrap IntKind.i64 (↑(UInt8.toNat (List.getD x1 (Int.toNat ((3:Int)+(3:Int)*x0)) (0:UInt8))):Int)) (IntKind.wrap IntKind.i64 (IntKind.wrap IntKind.i64 (↑(UInt8.toNat (List.getD x1 (Int.toNat ((3:Int)+(3:Int)*x0+(1:Int))) (0:UInt8))):Int)*(2:Int)^min (Int.toNat (8:Int)) (IntKind.bits IntKind.i64)))) (IntKind.wrap IntKind.i64 (IntKind.wrap IntKind.i64 (↑(UInt8.toNat (List.getD x1 (Int.toNat ((3:Int)+(3:Int)*x0+(2:Int))) (0:UInt8))):Int)*(2:Int)^min (Int.toNat (16:Int)) (IntKind.bits IntKind.i64))),()))))))))))):=by kernel_rfl
theorem c6l {x y:Nat} (hx:x<9223372036854775808) (hy:y<9223372036854775808):bOr .i64 (x:Int) (y:Int)=((x ||| y:Nat):Int):=by
  unfold bOr
  have e1:(BitVec.ofInt (IntKind.bits .i64) (x:Int) ||| BitVec.ofInt (IntKind.bits .i64) (y:Int)).toNat=x ||| y:=by
    show (BitVec.ofInt 64 (x:Int) ||| BitVec.ofInt 64 (y:Int)).toNat=x ||| y
    rw [BitVec.toNat_or,BitVec.toNat_ofInt,BitVec.toNat_ofInt]
    congr 1<;>omega
  rw [e1]
  have:=Nat.or_lt_two_pow (n:=63) hx hy
  exact K7 (j9.2 ⟨by omega,by omega⟩)
theorem c0S {x y k:Nat} (hx:x<2^k):x ||| (y*2^k)=x+y*2^k:=by
  rw [Nat.or_comm,← Nat.shiftLeft_eq,← Nat.shiftLeft_add_eq_or_of_lt hx,Nat.add_comm]
theorem b59:b9d.Valid Tryz.prog 64:=by
  refine p7.o6 b44 rfl rfl Tryz.func64 (c:=d9 Tryz.prog 64) rfl rfl b4J rfl ?_
  rintro ⟨(k:Int),(s:List UInt8),⟨⟩⟩ ⟨h0,h1⟩ ⟨-,hs,-⟩
  have h0:0≤k:=h0
  have h1:5+3*k<(s.length:Int):=h1
  have hs:s.length≤9223372036854775807:=hs
  obtain ⟨m,rfl⟩:=Int.eq_ofNat_of_zero_le h0
  refine j5 (n:=1000) b44 b4J ?_
  refine g9 (c5M (m:Int) s) ?_
  simp only [j8,Tree.holds,true_and,true_implies,decide_eq_true_eq,decide_eq_false_iff_not,Bool.not_eq_true',Bool.not_eq_false',Int.toNat_natCast,j9,List.length_set,List.length_cons,List.length_nil]
  refine ⟨by omega,fun _=>⟨by omega,fun _=>⟨by omega,fun _=>⟨by omega,fun _=>⟨by omega,fun _=>⟨Int.le.intro 8 rfl,fun _=>⟨by omega,fun _=>⟨by omega,fun _=>⟨Int.le.intro 16 rfl,fun _=>?_⟩⟩⟩⟩⟩⟩⟩⟩⟩
  have e1:Int.toNat (3+3*(m:Int))=3+3*m:=by omega
  have e2:Int.toNat (3+3*(m:Int)+1)=4+3*m:=by omega
  have e3:Int.toNat (3+3*(m:Int)+2)=5+3*m:=by omega
  rw [e1,e2,e3]
  show ((_,()):Int×Unit)=(Y3 s (Int.toNat (m:Int)),())
  rw [Int.toNat_natCast]
  have a1:=(s.getD (3+3*m) 0).toNat_lt
  have a2:=(s.getD (4+3*m) 0).toNat_lt
  have a3:=(s.getD (5+3*m) 0).toNat_lt
  unfold Y3 a13
  generalize (s.getD (3+3*m) 0).toNat=x at *
  generalize (s.getD (4+3*m) 0).toNat=y at *
  generalize (s.getD (5+3*m) 0).toNat=z at *
  have w:∀ q:Nat,q<16777216→IntKind.wrap .i64 (q:Int)=(q:Int):=fun q hq=>K7 (j9.2 ⟨by omega,by omega⟩)
  have p8:(2:Int)^min (Int.toNat 8) (IntKind.bits .i64)=256:=rfl
  have p16:(2:Int)^min (Int.toNat 16) (IntKind.bits .i64)=65536:=rfl
  rw [w x (by omega),w y (by omega),w z (by omega),p8,p16,show (y:Int)*256=((y*2^8:Nat):Int) by omega,show (z:Int)*65536=((z*2^16:Nat):Int) by omega,w _ (by omega),w _ (by omega),c6l (by omega) (by omega),c0S (k:=8) (by omega),c6l (by omega) (by omega),c0S (k:=16) (by omega)]
  congr 1
def X0:y4:=(0,0,0,0,0,[0,0,0,0,0,0],[],())
def parse (s:List UInt8):y4:=(a13 s 0,a13 s 1,a13 s 2,Y3 s 0,Y3 s 1,[Y3 s 2,Y3 s 3,Y3 s 4,Y3 s 5,Y3 s 6,Y3 s 7],s.drop 27,())
def s9 (s:List UInt8):y4×Int×Unit :=
  if 231<s.length then (X0,2,()) else if s.length<31 then (X0,3,()) else if le4 (a1d (s.take (s.length - 4)))≠s.drop (s.length - 4) then (X0,5,())
  else if G0 (parse (s.take (s.length - 4)))≠0 then (X0,G0 (parse (s.take (s.length - 4))),()) else (parse (s.take (s.length - 4)),0,())
def b87:p7:={ ps:=[.v .str],rs:=[b0R,e8],pre:=fun _=>True,fn:=fun x=>s9 x.1,out:=fun _=>() }
noncomputable def b2U:Env:={ P:=Tryz.prog,tt:=tt,C0:=[(63,b81),(62,b2P),(64,b9d),(65,a7n)],res:=[Go.ResultVar.cell 2 91,Go.ResultVar.tmp 3],rs:=[Ty.pair e8 (Ty.pair e8 (Ty.pair e8 (Ty.pair e8 (Ty.pair e8 (Ty.pair V2 (Ty.pair Ty.str Ty.unit)))))),Ty.int IntKind.i64],ps:=[PK.v Ty.str],y6:=[(11,[(2,none),(6,none),(7,none),(54,none)])],nt:=72 }
theorem a8L:u7 b2U:=x6 p9 ⟨a9C,a7S,b59,a5Q,trivial⟩
theorem a8G:B0 b2U Tryz.f46:=⟨rfl,rfl⟩
theorem c5I (x0:List UInt8):exec b2U 1000 [.code (d9 Tryz.prog 46)] (s6 b87.ps ((x0,()))) =
  cond (decide ((231:Int)<(↑(List.length x0):Int))) (.ret ((((0:Int),(0:Int),(0:Int),(0:Int),(0:Int),[(0:Int),(0:Int),(0:Int),(0:Int),(0:Int),(0:Int)],[],()),(2:Int),()))) (cond (decide ((↑(List.length x0):Int)<(31:Int))) (.ret ((((0:Int),(0:Int),(0:Int),(0:Int),(0:Int),[(0:Int),(0:Int),(0:Int),(0:Int),(0:Int),(0:Int)],[],()),(3:Int),()))) (.f6 (q9 IntKind.i64 ((↑(List.length x0):Int) - (4:Int))) (.f6 ((0:Int)≤(0:Int)∧(0:Int)≤(↑(List.length x0):Int) - (4:Int)∧(↑(List.length x0):Int) - (4:Int)≤(↑(List.length x0):Int)) (.f6 (q9 IntKind.i64 ((↑(List.length x0):Int) - (4:Int))) (.f6 ((0:Int)≤(↑(List.length x0):Int) - (4:Int)∧(↑(List.length x0):Int) - (4:Int)≤(↑(List.length x0):Int)∧(↑(List.length x0):Int)≤(↑(List.length x0):Int)) (.f6 (True) (.f6 (True) (cond (decide (List.map (fun n=>UInt8.ofNat (Int.toNat n)) (a2F (Int.toNat (↑(a1d (n7 (0:Int) ((↑(List.length x0):Int) - (4:Int)) x0)):Int)))≠n7 ((↑(List.length x0):Int) - (4:Int)) (↑(List.length x0):Int) x0)) (.ret ((((0:Int),(0:Int),(0:Int),(0:Int),(0:Int),[(0:Int),(0:Int),(0:Int),(0:Int),(0:Int),(0:Int)],[],()),(5:Int),()))) (.f6 ((0:Int)≤(0:Int)∧(0:Int)<(↑(List.length (n7 (0:Int) ((↑(List.length x0):Int) - (4:Int)) x0)):Int)) (.f6 ((0:Int)≤(1:Int)∧(1:Int)<(↑(List.length (n7 (0:Int) ((↑(List.length x0):Int) - (4:Int)) x0)):Int)) (.f6 ((0:Int)≤(2:Int)∧(2:Int)<(↑(List.length (n7 (0:Int) ((↑(List.length x0):Int) - (4:Int)) x0)):Int)) (.f6 ((0:Int)≤(0:Int)∧(5:Int)+(3:Int)*(0:Int)<(↑(List.length (n7 (0:Int) ((↑(List.length x0):Int) - (4:Int)) x0)):Int)) (.f6 ((0:Int)≤(1:Int)∧(5:Int)+(3:Int)*(1:Int)<(↑(List.length (n7 (0:Int) ((↑(List.length x0):Int) - (4:Int)) x0)):Int)) (.f6 ((0:Int)≤(27:Int)∧(27:Int)≤(↑(List.length (n7 (0:Int) ((↑(List.length x0):Int) - (4:Int)) x0)):Int)∧(↑(List.length (n7 (0:Int) ((↑(List.length x0):Int) - (4:Int)) x0)):Int)≤(↑(List.length (n7 (0:Int) ((↑(List.length x0):Int) - (4:Int)) x0)):Int)) (.ctL (f9 (d9 Tryz.prog 46) 11) (St.mk [(2,AV.ptr 2 []),(6,AV.B8 64 (AV.cons (AV.ptr 4 []) AV.nil)),(7,AV.ptr 7 []),(54,AV.val e8 (0:Int))] [(2,g8.var (Ty.pair e8 (Ty.pair e8 (Ty.pair e8 (Ty.pair e8 (Ty.pair e8 (Ty.pair V2 (Ty.pair Ty.str Ty.unit))))))) ((0:Int),(0:Int),(0:Int),(0:Int),(0:Int),[(0:Int),(0:Int),(0:Int),(0:Int),(0:Int),(0:Int)],[],())),(4,g8.var Ty.str (n7 (0:Int) ((↑(List.length x0):Int) - (4:Int)) x0)),(7,g8.var (Ty.pair e8 (Ty.pair e8 (Ty.pair e8 (Ty.pair e8 (Ty.pair e8 (Ty.pair V2 (Ty.pair Ty.str Ty.unit))))))) (IntKind.wrap IntKind.i64 (↑(UInt8.toNat (List.getD (n7 (0:Int) ((↑(List.length x0):Int) - (4:Int)) x0) (Int.toNat (0:Int)) (0:UInt8))):Int),IntKind.wrap IntKind.i64 (↑(UInt8.toNat (List.getD (n7 (0:Int) ((↑(List.length x0):Int) - (4:Int)) x0) (Int.toNat (1:Int)) (0:UInt8))):Int),IntKind.wrap IntKind.i64 (↑(UInt8.toNat (List.getD (n7 (0:Int) ((↑(List.length x0):Int) - (4:Int)) x0) (Int.toNat (2:Int)) (0:UInt8))):Int),Y3 (n7 (0:Int) ((↑(List.length x0):Int) - (4:Int)) x0) (Int.toNat (0:Int)),Y3 (n7 (0:Int) ((↑(List.length x0):Int) - (4:Int)) x0) (Int.toNat (1:Int)),[(0:Int),(0:Int),(0:Int),(0:Int),(0:Int),(0:Int)],n7 (27:Int) (↑(List.length (n7 (0:Int) ((↑(List.length x0):Int) - (4:Int)) x0)):Int) (n7 (0:Int) ((↑(List.length x0):Int) - (4:Int)) x0),()))])))))))))))))))):=by kernel_rfl
def b2b (v54:Int) (o2_1:Int) (o2_2_1:Int) (o2_2_2_1:Int) (o2_2_2_2_1:Int) (o2_2_2_2_2_1:Int) (o2_2_2_2_2_2_1:List Int) (o2_2_2_2_2_2_2_1:List UInt8) (o4:List UInt8) (o7_1:Int) (o7_2_1:Int) (o7_2_2_1:Int) (o7_2_2_2_1:Int) (o7_2_2_2_2_1:Int) (o7_2_2_2_2_2_1:List Int) (o7_2_2_2_2_2_2_1:List UInt8):St:=St.mk [(2,AV.ptr 2 []),(6,AV.B8 64 (AV.cons (AV.ptr 4 []) AV.nil)),(7,AV.ptr 7 []),(54,AV.val e8 v54)] [(2,g8.var (Ty.pair e8 (Ty.pair e8 (Ty.pair e8 (Ty.pair e8 (Ty.pair e8 (Ty.pair V2 (Ty.pair Ty.str Ty.unit))))))) (o2_1,o2_2_1,o2_2_2_1,o2_2_2_2_1,o2_2_2_2_2_1,o2_2_2_2_2_2_1,o2_2_2_2_2_2_2_1,())),(4,g8.var Ty.str o4),(7,g8.var (Ty.pair e8 (Ty.pair e8 (Ty.pair e8 (Ty.pair e8 (Ty.pair e8 (Ty.pair V2 (Ty.pair Ty.str Ty.unit))))))) (o7_1,o7_2_1,o7_2_2_1,o7_2_2_2_1,o7_2_2_2_2_1,o7_2_2_2_2_2_1,o7_2_2_2_2_2_2_1,()))]
theorem c1Z (v54:Int) (o2_1:Int) (o2_2_1:Int) (o2_2_2_1:Int) (o2_2_2_2_1:Int) (o2_2_2_2_2_1:Int) (o2_2_2_2_2_2_1:List Int) (o2_2_2_2_2_2_2_1:List UInt8) (o4:List UInt8) (o7_1:Int) (o7_2_1:Int) (o7_2_2_1:Int) (o7_2_2_2_1:Int) (o7_2_2_2_2_1:Int) (o7_2_2_2_2_2_1:List Int) (o7_2_2_2_2_2_2_1:List UInt8):exec b2U 1000 (.code (f9 (d9 Tryz.prog 46) 11).1::.inLoop (f9 (d9 Tryz.prog 46) 11).1::(f9 (d9 Tryz.prog 46) 11).2) (b2b v54 o2_1 o2_2_1 o2_2_2_1 o2_2_2_2_1 o2_2_2_2_2_1 o2_2_2_2_2_2_1 o2_2_2_2_2_2_2_1 o4 o7_1 o7_2_1 o7_2_2_1 o7_2_2_2_1 o7_2_2_2_2_1 o7_2_2_2_2_2_1 o7_2_2_2_2_2_2_1) =
  cond (decide (v54<(6:Int))) (.f6 (q9 IntKind.i64 ((2:Int)+v54)) (.f6 ((0:Int)≤(2:Int)+v54∧(5:Int)+(3:Int)*((2:Int)+v54)<(↑(List.length o4):Int)) (.f6 ((0:Int)≤v54∧v54<(↑6:Int)) (.f6 (q9 IntKind.i64 (v54+(1:Int))) (.ctL (f9 (d9 Tryz.prog 46) 11) (St.mk [(2,AV.ptr 2 []),(6,AV.B8 64 (AV.cons (AV.ptr 4 []) AV.nil)),(7,AV.ptr 7 []),(54,AV.val e8 (v54+(1:Int)))] [(2,g8.var (Ty.pair e8 (Ty.pair e8 (Ty.pair e8 (Ty.pair e8 (Ty.pair e8 (Ty.pair V2 (Ty.pair Ty.str Ty.unit))))))) (o2_1,o2_2_1,o2_2_2_1,o2_2_2_2_1,o2_2_2_2_2_1,o2_2_2_2_2_2_1,o2_2_2_2_2_2_2_1,())),(4,g8.var Ty.str o4),(7,g8.var (Ty.pair e8 (Ty.pair e8 (Ty.pair e8 (Ty.pair e8 (Ty.pair e8 (Ty.pair V2 (Ty.pair Ty.str Ty.unit))))))) (o7_1,o7_2_1,o7_2_2_1,o7_2_2_2_1,o7_2_2_2_2_1,List.set o7_2_2_2_2_2_1 (Int.toNat v54) (Y3 o4 (Int.toNat ((2:Int)+v54))),o7_2_2_2_2_2_2_1,()))])))))) (.f6 (True) (cond (decide (G0 (o7_1,o7_2_1,o7_2_2_1,o7_2_2_2_1,o7_2_2_2_2_1,o7_2_2_2_2_2_1,o7_2_2_2_2_2_2_1,())≠(0:Int))) (.ret ((((0:Int),(0:Int),(0:Int),(0:Int),(0:Int),[(0:Int),(0:Int),(0:Int),(0:Int),(0:Int),(0:Int)],[],()),G0 (o7_1,o7_2_1,o7_2_2_1,o7_2_2_2_1,o7_2_2_2_2_1,o7_2_2_2_2_2_1,o7_2_2_2_2_2_2_1,()),()))) (.ret (((o7_1,o7_2_1,o7_2_2_1,o7_2_2_2_1,o7_2_2_2_2_1,o7_2_2_2_2_2_1,o7_2_2_2_2_2_2_1,()),(0:Int),()))))):=by kernel_rfl
def atL (s:List UInt8) (i:Nat):List Int:=(List.range 6).map (fun j=>if j<i then Y3 s (2+j) else 0)
theorem b54:b87.Valid Tryz.prog 46:=by
  refine p7.o6 a8L rfl rfl Tryz.func46 (c:=d9 Tryz.prog 46) rfl rfl a8G rfl ?_
  rintro ⟨(s:List UInt8),⟨⟩⟩ - -
  refine j5 (n:=1000) a8L a8G ?_
  refine g9 (c5I s) ?_
  simp only [j8,Tree.holds,true_and,true_implies,decide_eq_true_eq,decide_eq_false_iff_not,Bool.not_eq_true',Bool.not_eq_false',Int.toNat_natCast,j9,List.length_set,List.length_cons,List.length_nil]
  refine ⟨fun h=>?_,fun h1=>⟨fun h=>?_,fun h2=>⟨by omega,fun _=>⟨by omega,fun _=>⟨by omega,fun _=>⟨by omega,fun _=>?_⟩⟩⟩⟩⟩⟩
  · show ((X0,2,()):y4×Int×Unit)=s9 s
    rw [s9,if_pos (by omega)]
  · show ((X0,3,()):y4×Int×Unit)=s9 s
    rw [s9,if_neg (by omega),if_pos (by omega)]
  obtain ⟨n,hn⟩:∃ n:Nat,(s.length:Int) - 4=n:=⟨s.length - 4,by omega⟩
  have hn4:s.length - 4=n:=by omega
  have b1:n7 0 ((s.length:Int) - 4) s=s.take n:=by rw [hn,n7]; simp
  have b2:n7 ((s.length:Int) - 4) (s.length:Int) s=s.drop n:=by rw [hn,n7,Int.toNat_natCast,List.take_of_length_le (by rw [List.length_drop]; omega)]
  have hbl:(s.take n).length=n:=by rw [List.length_take]; omega
  have b3:n7 27 (n:Int) (s.take n)=(s.take n).drop 27:=by rw [n7,List.take_of_length_le (by rw [List.length_drop,hbl]; show n - 27≤((n:Int) - 27).toNat; omega)]; rfl
  have b4:List.map (fun n:Int=>UInt8.ofNat n.toNat) (a2F (a1d (s.take n)))=le4 (a1d (s.take n)):=a5t _
  have hR:s9 s=if le4 (a1d (s.take n))≠s.drop n then (X0,5,()) else if G0 (parse (s.take n))≠0 then (X0,G0 (parse (s.take n)),()) else (parse (s.take n),0,()):=by
    rw [s9,if_neg (by omega),if_neg (by omega),hn4]
  generalize hbody:s.take n=body at *
  have w:∀ q:UInt8,IntKind.wrap .i64 (q.toNat:Int)=(q.toNat:Int):=fun q=>by have:=q.toNat_lt; exact K7 (j9.2 ⟨by omega,by omega⟩)
  simp only [j8,Tree.holds,true_and,true_implies,decide_eq_true_eq,decide_eq_false_iff_not,Bool.not_eq_true',Bool.not_eq_false',Int.toNat_natCast,j9,List.length_set,List.length_cons,List.length_nil,b1,b2,b4,hbl,b3,w]
  refine ⟨fun h=>?_,fun h=>⟨by omega,fun _=>⟨by omega,fun _=>⟨by omega,fun _=>⟨by omega,fun _=>⟨by omega,fun _=>⟨by omega,fun _=>?_⟩⟩⟩⟩⟩⟩⟩
  · show ((X0,5,()):y4×Int×Unit)=s9 s
    rw [hR,if_pos h]
  rw [if_neg h] at hR
  refine Reach.N3 a8L a8G (fun i:Nat=>b2b (i:Int) 0 0 0 0 0 [0,0,0,0,0,0] [] body (a13 body 0) (a13 body 1) (a13 body 2) (Y3 body 0) (Y3 body 1) (atL body i) (body.drop 27)) (fun i=>i≤6)
    (fun i=>6 - i) 1000 (fun _=>⟨u3 rfl,u3 rfl⟩) ?_ 0 (Nat.zero_le _)
  rintro i k1 - ih
  have k1:i≤6:=k1
  refine g9 (c1Z ..) ?_
  simp only [j8,Tree.holds,true_and,true_implies,decide_eq_true_eq,decide_eq_false_iff_not,Bool.not_eq_true',Bool.not_eq_false',Int.toNat_natCast,j9,List.length_set,List.length_cons,List.length_nil,hbl]
  refine ⟨fun c=>⟨by omega,fun _=>⟨by omega,fun _=>⟨by omega,fun _=>⟨by omega,fun _=>?_⟩⟩⟩⟩,fun c=>?_⟩
  · have hi:i<6:=by omega
    have:=ih (i+1) (by show i+1≤6; omega) (by omega)
    have e2:Int.toNat (2+(i:Int))=2+i:=by omega
    have:(atL body i).set i (Y3 body (2+i))=atL body (i+1):=by
      rw [atL,b2p _ _ hi,atL]
      refine List.map_congr_left (fun j hj=>?_)
      by_cases e:j=i
      · rw [if_pos e,if_pos (by omega),e]
      · rw [if_neg e]
        by_cases e2:j<i
        · rw [if_pos e2,if_pos (by omega)]
        · rw [if_neg e2,if_neg (by omega)]
    rw [e2,this]
    assumption
  · obtain rfl:i=6:=by omega
    have hp:(a13 body 0,a13 body 1,a13 body 2,Y3 body 0,Y3 body 1,atL body 6,body.drop 27,())=parse body:=rfl
    rw [hp]
    refine ⟨fun h=>?_,fun h=>?_⟩
    · show ((X0,G0 (parse body),()):y4×Int×Unit)=s9 s
      rw [hR,if_pos h]
    · show ((parse body,0,()):y4×Int×Unit)=s9 s
      rw [hR,if_neg h]
abbrev a0T:=Int×Int×Unit
def outside (m:Int):Bool:=decide (64≤m)
def half (p o:Int):Bool:=decide (a1W o<2*a1W (R6 .u8 p o))
def U0 (v:a0T):Int:=if v.1<0∨16777215<v.1∨v.2.1=0∨64≤v.2.1 then 1 else 0
def N8 (v:a0T) (g c:Int):a0T×Int×Unit :=
  if U0 v≠0 then ((0,0,()),U0 v,()) else if outside (bOr .u8 g c)=true then ((0,0,()),1,()) else if R6 .u8 g c≠0 then ((0,0,()),1,())
  else if v.1=16777215 then ((0,0,()),8,()) else if (!half (Q4 .u8 v.2.1 g) v.2.1)=true then ((0,0,()),11,()) else ((v.1+1,bOr .u8 (Q4 .u8 v.2.1 g) c,()),0,())
def a5p:p7:={ ps:=[.v U8],rs:=[.bool],pre:=fun _=>True,fn:=fun x=>(outside x.1,()),out:=fun _=>() }
def a4D:p7:={ ps:=[.v View],rs:=[e8],pre:=fun _=>True,fn:=fun x=>(U0 x.1,()),out:=fun _=>() }
def b9c:p7:={ ps:=[.v U8],rs:=[e8],pre:=fun _=>True,fn:=fun x=>(a1W x.1,()),out:=fun _=>() }
def b9n:p7:={ ps:=[.v U8,.v U8],rs:=[.bool],pre:=fun _=>True,fn:=fun x=>(half x.1 x.2.1,()),out:=fun _=>() }
def a6C:p7:={ ps:=[.v View,.v U8,.v U8],rs:=[View,e8],pre:=fun _=>True,fn:=fun x=>N8 x.1 x.2.1 x.2.2.1,out:=fun _=>() }
noncomputable def a8O:Env:={ P:=Tryz.prog,tt:=tt,C0:=[],res:=[Go.ResultVar.tmp 2],rs:=[Ty.bool],ps:=[PK.v U8],y6:=[],nt:=6 }
theorem a72:u7 a8O:=x6 p9 trivial
theorem a71:B0 a8O Tryz.f71:=⟨rfl,rfl⟩
theorem b9Y (x0:Int):exec a8O 1000 [.code (d9 Tryz.prog 71)] (s6 a5p.ps ((x0,()))) =
  .f6 ((0:Int)≤(6:Int)) (.ret ((decide (x0 / (2:Int)^min (Int.toNat (6:Int)) (IntKind.bits IntKind.u8)≠(0:Int)),()))):=by kernel_rfl
theorem a4E:a5p.Valid Tryz.prog 71:=by
  refine p7.o6 a72 rfl rfl Tryz.func71 (c:=d9 Tryz.prog 71) rfl rfl a71 rfl ?_
  rintro ⟨(x0:Int),⟨⟩⟩ - ⟨h0,-⟩
  refine j5 (n:=1000) a72 a71 ?_
  refine g9 (b9Y x0) ?_
  refine ⟨by decide,fun _=>?_⟩
  have h:0≤x0∧x0≤255:=h0
  show (decide (x0 / 2^6≠0),())=(outside x0,())
  unfold outside
  congr 1
  exact decide_eq_decide.2 (by omega)
noncomputable def b0W:Env:={ P:=Tryz.prog,tt:=tt,C0:=[(71,a5p)],res:=[Go.ResultVar.tmp 2],rs:=[Ty.int IntKind.i64],ps:=[PK.v View],y6:=[],nt:=21 }
theorem a98:u7 b0W:=x6 p9 ⟨a4E,trivial⟩
theorem a93:B0 b0W Tryz.f70:=⟨rfl,rfl⟩
theorem c1X (x0_1:Int) (x0_2_1:Int):exec b0W 1000 [.code (d9 Tryz.prog 70)] (s6 a4D.ps (((x0_1,x0_2_1,()),()))) =
  cond (decide (x0_1<(0:Int))) (.ret (((1:Int),()))) (cond (decide ((16777215:Int)<x0_1)) (.ret (((1:Int),()))) (cond (decide (x0_2_1=(0:Int))) (.ret (((1:Int),()))) (.f6 (True) (cond (outside x0_2_1) (.ret (((1:Int),()))) (.ret (((0:Int),()))))))):=by kernel_rfl
theorem a5R:a4D.Valid Tryz.prog 70:=by
  refine p7.o6 a98 rfl rfl Tryz.func70 (c:=d9 Tryz.prog 70) rfl rfl a93 rfl ?_
  rintro ⟨⟨(x0:Int),(x1:Int),⟨⟩⟩,⟨⟩⟩ - ⟨⟨h0,h1,-⟩,-⟩
  refine j5 (n:=1000) a98 a93 ?_
  refine g9 (c1X x0 x1) ?_
  have g0:-9223372036854775808≤x0∧x0≤9223372036854775807:=h0
  have g1:0≤x1∧x1≤255:=h1
  simp only [j8,Tree.holds,decide_eq_true_eq,decide_eq_false_iff_not]
  have key:∀ r:Int,r=U0 (x0,x1,())→((r,()):DL [Ty.int .i64])=a4D.fn ((x0,x1,()),()):=by rintro r rfl; rfl
  refine ⟨fun a=>key _ ?_,fun a=>⟨fun b=>key _ ?_,fun b=>⟨fun c=>key _ ?_,fun c=>⟨trivial,fun _=>⟨fun d=>key _ ?_,fun d=>key _ ?_⟩⟩⟩⟩⟩
  all_goals simp only [U0,outside,decide_eq_true_eq,decide_eq_false_iff_not] at *
  all_goals (first|rw [if_pos (by omega)]|rw [if_neg (by omega)])
noncomputable def b9Z:Env:={ P:=Tryz.prog,tt:=tt,C0:=[],res:=[Go.ResultVar.tmp 2],rs:=[Ty.int IntKind.i64],ps:=[PK.v U8],y6:=[],nt:=6 }
theorem b43:u7 b9Z:=x6 p9 trivial
theorem b4I:B0 b9Z Tryz.f88:=⟨rfl,rfl⟩
theorem c5L (x0:Int):exec b9Z 1000 [.code (d9 Tryz.prog 88)] (s6 b9c.ps ((x0,()))) =
  .f6 ((0:Int)≤x0∧x0<(↑(List.length (Array.toList (ByteArray.data (ByteArray.mk (List.toArray (List.append (List.append [(0:UInt8),(1:UInt8),(1:UInt8),(2:UInt8),(1:UInt8),(2:UInt8),(2:UInt8),(3:UInt8),(1:UInt8),(2:UInt8),(2:UInt8),(3:UInt8),(2:UInt8),(3:UInt8),(3:UInt8),(4:UInt8),(1:UInt8),(2:UInt8),(2:UInt8),(3:UInt8),(2:UInt8),(3:UInt8),(3:UInt8),(4:UInt8),(2:UInt8),(3:UInt8),(3:UInt8),(4:UInt8),(3:UInt8),(4:UInt8),(4:UInt8),(5:UInt8),(1:UInt8),(2:UInt8),(2:UInt8),(3:UInt8),(2:UInt8),(3:UInt8),(3:UInt8),(4:UInt8),(2:UInt8),(3:UInt8),(3:UInt8),(4:UInt8),(3:UInt8),(4:UInt8),(4:UInt8),(5:UInt8),(2:UInt8),(3:UInt8),(3:UInt8),(4:UInt8),(3:UInt8),(4:UInt8),(4:UInt8),(5:UInt8),(3:UInt8),(4:UInt8),(4:UInt8),(5:UInt8),(4:UInt8),(5:UInt8),(5:UInt8),(6:UInt8)] [(1:UInt8),(2:UInt8),(2:UInt8),(3:UInt8),(2:UInt8),(3:UInt8),(3:UInt8),(4:UInt8),(2:UInt8),(3:UInt8),(3:UInt8),(4:UInt8),(3:UInt8),(4:UInt8),(4:UInt8),(5:UInt8),(2:UInt8),(3:UInt8),(3:UInt8),(4:UInt8),(3:UInt8),(4:UInt8),(4:UInt8),(5:UInt8),(3:UInt8),(4:UInt8),(4:UInt8),(5:UInt8),(4:UInt8),(5:UInt8),(5:UInt8),(6:UInt8),(2:UInt8),(3:UInt8),(3:UInt8),(4:UInt8),(3:UInt8),(4:UInt8),(4:UInt8),(5:UInt8),(3:UInt8),(4:UInt8),(4:UInt8),(5:UInt8),(4:UInt8),(5:UInt8),(5:UInt8),(6:UInt8),(3:UInt8),(4:UInt8),(4:UInt8),(5:UInt8),(4:UInt8),(5:UInt8),(5:UInt8),(6:UInt8),(4:UInt8),(5:UInt8),(5:UInt8),(6:UInt8),(5:UInt8),(6:UInt8),(6:UInt8),(7:UInt8)]) (List.append [(1:UInt8),(2:UInt8),(2:UInt8),(3:UInt8),(2:UInt8),(3:UInt8),(3:UInt8),(4:UInt8),(2:UInt8),(3:UInt8),(3:UInt8),(4:UInt8),(3:UInt8),(4:UInt8),(4:UInt8),(5:UInt8),(2:UInt8),(3:UInt8),(3:UInt8),(4:UInt8),(3:UInt8),(4:UInt8),(4:UInt8),(5:UInt8),(3:UInt8),(4:UInt8),(4:UInt8),(5:UInt8),(4:UInt8),(5:UInt8),(5:UInt8),(6:UInt8),(2:UInt8),(3:UInt8),(3:UInt8),(4:UInt8),(3:UInt8),(4:UInt8),(4:UInt8),(5:UInt8),(3:UInt8),(4:UInt8),(4:UInt8),(5:UInt8),(4:UInt8),(5:UInt8),(5:UInt8),(6:UInt8),(3:UInt8),(4:UInt8),(4:UInt8),(5:UInt8),(4:UInt8),(5:UInt8),(5:UInt8),(6:UInt8),(4:UInt8),(5:UInt8),(5:UInt8),(6:UInt8),(5:UInt8),(6:UInt8),(6:UInt8),(7:UInt8)] [(2:UInt8),(3:UInt8),(3:UInt8),(4:UInt8),(3:UInt8),(4:UInt8),(4:UInt8),(5:UInt8),(3:UInt8),(4:UInt8),(4:UInt8),(5:UInt8),(4:UInt8),(5:UInt8),(5:UInt8),(6:UInt8),(3:UInt8),(4:UInt8),(4:UInt8),(5:UInt8),(4:UInt8),(5:UInt8),(5:UInt8),(6:UInt8),(4:UInt8),(5:UInt8),(5:UInt8),(6:UInt8),(5:UInt8),(6:UInt8),(6:UInt8),(7:UInt8),(3:UInt8),(4:UInt8),(4:UInt8),(5:UInt8),(4:UInt8),(5:UInt8),(5:UInt8),(6:UInt8),(4:UInt8),(5:UInt8),(5:UInt8),(6:UInt8),(5:UInt8),(6:UInt8),(6:UInt8),(7:UInt8),(4:UInt8),(5:UInt8),(5:UInt8),(6:UInt8),(5:UInt8),(6:UInt8),(6:UInt8),(7:UInt8),(5:UInt8),(6:UInt8),(6:UInt8),(7:UInt8),(6:UInt8),(7:UInt8),(7:UInt8),(8:UInt8)]))))))):Int)) (.ret ((IntKind.wrap IntKind.i64 (↑(UInt8.toNat (List.getD (Array.toList (ByteArray.data (ByteArray.mk (List.toArray (List.append (List.append [(0:UInt8),(1:UInt8),(1:UInt8),(2:UInt8),(1:UInt8),(2:UInt8),(2:UInt8),(3:UInt8),(1:UInt8),(2:UInt8),(2:UInt8),(3:UInt8),(2:UInt8),(3:UInt8),(3:UInt8),(4:UInt8),(1:UInt8),(2:UInt8),(2:UInt8),(3:UInt8),(2:UInt8),(3:UInt8),(3:UInt8),(4:UInt8),(2:UInt8),(3:UInt8),(3:UInt8),(4:UInt8),(3:UInt8),(4:UInt8),(4:UInt8),(5:UInt8),(1:UInt8),(2:UInt8),(2:UInt8),(3:UInt8),(2:UInt8),(3:UInt8),(3:UInt8),(4:UInt8),(2:UInt8),(3:UInt8),(3:UInt8),(4:UInt8),(3:UInt8),(4:UInt8),(4:UInt8),(5:UInt8),(2:UInt8),(3:UInt8),(3:UInt8),(4:UInt8),(3:UInt8),(4:UInt8),(4:UInt8),(5:UInt8),(3:UInt8),(4:UInt8),(4:UInt8),(5:UInt8),(4:UInt8),(5:UInt8),(5:UInt8),(6:UInt8)] [(1:UInt8),(2:UInt8),(2:UInt8),(3:UInt8),(2:UInt8),(3:UInt8),(3:UInt8),(4:UInt8),(2:UInt8),(3:UInt8),(3:UInt8),(4:UInt8),(3:UInt8),(4:UInt8),(4:UInt8),(5:UInt8),(2:UInt8),(3:UInt8),(3:UInt8),(4:UInt8),(3:UInt8),(4:UInt8),(4:UInt8),(5:UInt8),(3:UInt8),(4:UInt8),(4:UInt8),(5:UInt8),(4:UInt8),(5:UInt8),(5:UInt8),(6:UInt8),(2:UInt8),(3:UInt8),(3:UInt8),(4:UInt8),(3:UInt8),(4:UInt8),(4:UInt8),(5:UInt8),(3:UInt8),(4:UInt8),(4:UInt8),(5:UInt8),(4:UInt8),(5:UInt8),(5:UInt8),(6:UInt8),(3:UInt8),(4:UInt8),(4:UInt8),(5:UInt8),(4:UInt8),(5:UInt8),(5:UInt8),(6:UInt8),(4:UInt8),(5:UInt8),(5:UInt8),(6:UInt8),(5:UInt8),(6:UInt8),(6:UInt8),(7:UInt8)]) (List.append [(1:UInt8),(2:UInt8),(2:UInt8),(3:UInt8),(2:UInt8),(3:UInt8),(3:UInt8),(4:UInt8),(2:UInt8),(3:UInt8),(3:UInt8),(4:UInt8),(3:UInt8),(4:UInt8),(4:UInt8),(5:UInt8),(2:UInt8),(3:UInt8),(3:UInt8),(4:UInt8),(3:UInt8),(4:UInt8),(4:UInt8),(5:UInt8),(3:UInt8),(4:UInt8),(4:UInt8),(5:UInt8),(4:UInt8),(5:UInt8),(5:UInt8),(6:UInt8),(2:UInt8),(3:UInt8),(3:UInt8),(4:UInt8),(3:UInt8),(4:UInt8),(4:UInt8),(5:UInt8),(3:UInt8),(4:UInt8),(4:UInt8),(5:UInt8),(4:UInt8),(5:UInt8),(5:UInt8),(6:UInt8),(3:UInt8),(4:UInt8),(4:UInt8),(5:UInt8),(4:UInt8),(5:UInt8),(5:UInt8),(6:UInt8),(4:UInt8),(5:UInt8),(5:UInt8),(6:UInt8),(5:UInt8),(6:UInt8),(6:UInt8),(7:UInt8)] [(2:UInt8),(3:UInt8),(3:UInt8),(4:UInt8),(3:UInt8),(4:UInt8),(4:UInt8),(5:UInt8),(3:UInt8),(4:UInt8),(4:UInt8),(5:UInt8),(4:UInt8),(5:UInt8),(5:UInt8),(6:UInt8),(3:UInt8),(4:UInt8),(4:UInt8),(5:UInt8),(4:UInt8),(5:UInt8),(5:UInt8),(6:UInt8),(4:UInt8),(5:UInt8),(5:UInt8),(6:UInt8),(5:UInt8),(6:UInt8),(6:UInt8),(7:UInt8),(3:UInt8),(4:UInt8),(4:UInt8),(5:UInt8),(4:UInt8),(5:UInt8),(5:UInt8),(6:UInt8),(4:UInt8),(5:UInt8),(5:UInt8),(6:UInt8),(5:UInt8),(6:UInt8),(6:UInt8),(7:UInt8),(4:UInt8),(5:UInt8),(5:UInt8),(6:UInt8),(5:UInt8),(6:UInt8),(6:UInt8),(7:UInt8),(5:UInt8),(6:UInt8),(6:UInt8),(7:UInt8),(6:UInt8),(7:UInt8),(7:UInt8),(8:UInt8)])))))) (Int.toNat x0) (0:UInt8))):Int),()))):=by kernel_rfl
theorem b58:b9c.Valid Tryz.prog 88:=by
  refine p7.o6 b43 rfl rfl Tryz.func88 (c:=d9 Tryz.prog 88) rfl rfl b4I rfl ?_
  rintro ⟨(x0:Int),⟨⟩⟩ - ⟨h0,-⟩
  refine j5 (n:=1000) b43 b4I ?_
  refine g9 (c5L x0) ?_
  have g0:0≤x0∧x0≤255:=h0
  obtain ⟨n,rfl⟩:∃ n:Fin 256,x0=((n.val:Nat):Int):=⟨⟨x0.toNat,by omega⟩,by simp; omega⟩
  refine ⟨?_,fun _=>?_⟩
  · clear h0 g0; revert n; decide +kernel
  · show ((_,()):Int×Unit)=(a1W n,())
    clear h0 g0; revert n; decide +kernel
noncomputable def b96:Env:={ P:=Tryz.prog,tt:=tt,C0:=[(88,b9c)],res:=[Go.ResultVar.tmp 4],rs:=[Ty.bool],ps:=[PK.v U8,PK.v U8],y6:=[],nt:=13 }
theorem b5c:u7 b96:=x6 p9 ⟨b58,trivial⟩
theorem b4N:B0 b96 Tryz.f72:=⟨rfl,rfl⟩
theorem c5S (x0:Int) (x1:Int):exec b96 1000 [.code (d9 Tryz.prog 72)] (s6 b9n.ps ((x0,x1,()))) =
  .f6 (True) (.f6 (q9 IntKind.i64 ((2:Int)*a1W (R6 IntKind.u8 x0 x1))) (.f6 (True) (.ret ((decide (a1W x1<(2:Int)*a1W (R6 IntKind.u8 x0 x1)),()))))):=by kernel_rfl
theorem b6h:b9n.Valid Tryz.prog 72:=by
  refine p7.o6 b5c rfl rfl Tryz.func72 (c:=d9 Tryz.prog 72) rfl rfl b4N rfl ?_
  rintro ⟨(x0:Int),(x1:Int),⟨⟩⟩ - ⟨h0,h1,-⟩
  refine j5 (n:=1000) b5c b4N ?_
  refine g9 (c5S x0 x1) ?_
  have hb:∀ a b:Int,0≤a1W (R6 .u8 a b)∧a1W (R6 .u8 a b)≤8:=fun a b=>c40 _
  refine ⟨trivial,fun _=>⟨?_,fun _=>⟨trivial,fun _=>rfl⟩⟩⟩
  have:=hb x0 x1
  show -9223372036854775808≤_∧_≤9223372036854775807
  omega
theorem b7Q {v:a0T} (h:U0 v=0):0≤v.1∧v.1≤16777215∧v.2.1≠0∧v.2.1<64:=by
  unfold U0 at h
  split at h
  · cases h
  · omega
noncomputable def b45:Env:={ P:=Tryz.prog,tt:=tt,C0:=[(71,a5p),(70,a4D),(72,b9n)],res:=[Go.ResultVar.cell 6 57,Go.ResultVar.tmp 7],rs:=[Ty.pair e8 (Ty.pair U8 Ty.unit),Ty.int IntKind.i64],ps:=[PK.v View,PK.v U8,PK.v U8],y6:=[],nt:=52 }
theorem b2c:u7 b45:=x6 p9 ⟨a4E,a5R,b6h,trivial⟩
theorem b1O:B0 b45 Tryz.f53:=⟨rfl,rfl⟩
theorem c3P (x0_1:Int) (x0_2_1:Int) (x1:Int) (x2:Int):exec b45 1000 [.code (d9 Tryz.prog 53)] (s6 a6C.ps (((x0_1,x0_2_1,()),x1,x2,()))) =
  .f6 (True) (cond (decide (U0 (x0_1,x0_2_1,())≠(0:Int))) (.ret ((((0:Int),(0:Int),()),U0 (x0_1,x0_2_1,()),()))) (.f6 (True) (cond (outside (bOr IntKind.u8 x1 x2)) (.ret ((((0:Int),(0:Int),()),(1:Int),()))) (cond (decide (R6 IntKind.u8 x1 x2≠(0:Int))) (.ret ((((0:Int),(0:Int),()),(1:Int),()))) (cond (decide (x0_1=(16777215:Int))) (.ret ((((0:Int),(0:Int),()),(8:Int),()))) (.f6 (True) (cond (!half (Q4 IntKind.u8 x0_2_1 x1) x0_2_1) (.ret ((((0:Int),(0:Int),()),(11:Int),()))) (.f6 (q9 IntKind.i64 (x0_1+(1:Int))) (.ret (((x0_1+(1:Int),bOr IntKind.u8 (Q4 IntKind.u8 x0_2_1 x1) x2,()),(0:Int),()))))))))))):=by kernel_rfl
theorem a6B:a6C.Valid Tryz.prog 53:=by
  refine p7.o6 b2c rfl rfl Tryz.func53 (c:=d9 Tryz.prog 53) rfl rfl b1O rfl ?_
  rintro ⟨⟨(x0:Int),(x1:Int),⟨⟩⟩,(g:Int),(c:Int),⟨⟩⟩ - ⟨⟨h0,h1,-⟩,h2,h3,-⟩
  refine j5 (n:=1000) b2c b1O ?_
  refine g9 (c3P x0 x1 g c) ?_
  have g0:-9223372036854775808≤x0∧x0≤9223372036854775807:=h0
  have key:∀ r:a0T×Int×Unit,N8 (x0,x1,()) g c=r→((r:DL [View,.int .i64])=a6C.fn ((x0,x1,()),g,c,())):=by rintro r rfl; rfl
  simp only [j8,Tree.holds,decide_eq_true_eq,decide_eq_false_iff_not]
  refine ⟨trivial,fun _=>⟨fun a=>key _ ?_,fun a=>⟨trivial,fun _=>⟨fun b=>key _ ?_,fun b=>⟨fun d=>key _ ?_,fun d=>⟨fun e=>key _ ?_,fun e=>⟨trivial,fun _=>⟨fun f=>key _ ?_,fun f=>⟨⟨?_,?_⟩,fun _=>key _ ?_⟩⟩⟩⟩⟩⟩⟩⟩⟩
  · rw [N8,if_pos a]; rfl
  · rw [N8,if_neg a,if_pos b]; rfl
  · rw [N8,if_neg a,if_neg (by simpa using b),if_pos d]; rfl
  · rw [N8,if_neg a,if_neg (by simpa using b),if_neg d,if_pos e]; rfl
  · rw [N8,if_neg a,if_neg (by simpa using b),if_neg d,if_neg e,if_pos f]; rfl
  · show -9223372036854775808≤_; omega
  · have:=(b7Q (v:=(x0,x1,())) (by simpa using a)).2.1
    show x0+1≤9223372036854775807; simp only at this; omega
  · rw [N8,if_neg a,if_neg (by simpa using b),if_neg d,if_neg e,if_neg (by simpa using f)]; rfl
def N9 (f:Nat→Int):Nat→Int
  | 0=>0
  | k+1=>if N9 f k≠0 then N9 f k else f k
theorem a7H {f:Nat→Int} {k:Nat} (h0:N9 f k=0) (h1:f k≠0):∀ {n:Nat},k<n→N9 f n=f k
  | 0,h=>by omega
  | n+1,h=>by
    by_cases e:k=n
    · subst e; simp [N9,h0]
    · have:=a7H h0 h1 (n:=n) (by omega)
      simp [N9,this,h1]
theorem a7I {f:Nat→Int} {k:Nat} (h0:N9 f k=0) (h1:f k=0):N9 f (k+1)=0:=by simp [N9,h0,h1]
theorem a2b {f:Nat→Int}:∀ {n:Nat},N9 f n=0↔∀ k,k<n→f k=0
  | 0=>by simp [N9]
  | n+1=>by
    constructor
    · intro h k hk
      have h2:N9 f n=0:=by
        by_cases e:N9 f n=0
        · exact e
        · rw [N9,if_pos e] at h; exact absurd h e
      by_cases e:k=n
      · subst e; simpa [N9,h2] using h
      · exact a2b.1 h2 k (by omega)
    · intro h
      exact a7I (a2b.2 (fun k hk=>h k (by omega))) (h n (by omega))
abbrev u4:=Int×List UInt8×Unit
abbrev a0U:=Int×List (List UInt8)×Unit
abbrev ToD:=Int×List u4×Unit
def b39:p7:={ ps:=[.v e8,.v e8,.v e8],rs:=[.bool],pre:=fun _=>True,fn:=fun x=>(V6 x.1 x.2.1 x.2.2.1,()),out:=fun _=>() }
noncomputable def c3S:Env:={ P:=Tryz.prog,tt:=tt,C0:=[],res:=[Go.ResultVar.tmp 6],rs:=[Ty.bool],ps:=[PK.v e8,PK.v e8,PK.v e8],y6:=[],nt:=15 }
theorem b7F:u7 c3S:=x6 p9 trivial
theorem b7w:B0 c3S Tryz.f75:=⟨rfl,rfl⟩
theorem c6X (x0:Int) (x1:Int) (x2:Int):exec c3S 1000 [.code (d9 Tryz.prog 75)] (s6 b39.ps ((x0,x1,x2,()))) =
  cond (decide (x1≤x0)) (.ret ((decide (x0≤x2),()))) (.ret ((false,()))):=by kernel_rfl
theorem a5q:b39.Valid Tryz.prog 75:=by
  refine p7.o6 b7F rfl rfl Tryz.func75 (c:=d9 Tryz.prog 75) rfl rfl b7w rfl ?_
  rintro ⟨(a:Int),(b:Int),(c:Int),⟨⟩⟩ - -
  refine j5 (n:=1000) b7F b7w ?_
  refine g9 (c6X a b c) ?_
  simp only [j8,Tree.holds,true_and,true_implies,decide_eq_true_eq,decide_eq_false_iff_not,Bool.not_eq_true',Bool.not_eq_false',Int.toNat_natCast,j9,List.length_set,List.length_cons,List.length_nil]
  repeat' first|exact trivial|(refine And.intro ?_ ?_)|(intro _)
  all_goals (show ((_,()):Bool×Unit)=(V6 a b c,()); simp [V6, *])
def D5 (s:List UInt8):Bool:=decide ((200:Int)<s.length)
def a4F:p7:={ ps:=[.v .str],rs:=[.bool],pre:=fun _=>True,fn:=fun x=>(D5 x.1,()),out:=fun _=>() }
noncomputable def b47:Env:={ P:=Tryz.prog,tt:=tt,C0:=[],res:=[Go.ResultVar.tmp 2],rs:=[Ty.bool],ps:=[PK.v Ty.str],y6:=[],nt:=6 }
theorem b2d:u7 b47:=x6 p9 trivial
theorem b1P:B0 b47 Tryz.f59:=⟨rfl,rfl⟩
theorem c3R (x0:List UInt8):exec b47 1000 [.code (d9 Tryz.prog 59)] (s6 a4F.ps ((x0,()))) =
  .ret ((decide ((200:Int)<(↑(List.length x0):Int)),())):=by kernel_rfl
theorem a1F:a4F.Valid Tryz.prog 59:=by
  refine p7.o6 b2d rfl rfl Tryz.func59 (c:=d9 Tryz.prog 59) rfl rfl b1P rfl ?_
  rintro ⟨(s:List UInt8),⟨⟩⟩ - -
  refine j5 (n:=1000) b2d b1P ?_
  refine g9 (c3R s) ?_
  rfl
def b9l:p7:={ ps:=[.v (.d0 false .str),.B8 59 []],rs:=[e8],pre:=fun x=>True,fn:=fun x=>(idxOf (D5) x.1,()),out:=fun _=>() }
noncomputable def b2V:Env:={ P:=Tryz.prog,tt:=tt,C0:=[(59,a4F)],res:=[Go.ResultVar.tmp 4],rs:=[Ty.int IntKind.i64],ps:=[PK.v (Ty.d0 false Ty.str),PK.B8 59 []],y6:=[(2,[(0,none),(1,none),(7,none),(8,none)])],nt:=19 }
theorem a8P:u7 b2V:=x6 p9 ⟨a1F,trivial⟩
theorem a8I:B0 b2V Tryz.f94:=⟨rfl,rfl⟩
theorem c5Q (x0:List (List UInt8)):exec b2V 1000 [.code (d9 Tryz.prog 94)] (s6 b9l.ps ((x0,(),()))) =
  .ctL (f9 (d9 Tryz.prog 94) 2) (St.mk [(0,AV.val (Ty.d0 false Ty.str) x0),(1,AV.B8 59 AV.nil),(7,AV.val e8 (↑(List.length x0):Int)),(8,AV.val e8 (0:Int))] []):=by kernel_rfl
def b5a (v0:List (List UInt8)) (v7:Int) (v8:Int):St:=St.mk [(0,AV.val (Ty.d0 false Ty.str) v0),(1,AV.B8 59 AV.nil),(7,AV.val e8 v7),(8,AV.val e8 v8)] []
theorem c3V (v0:List (List UInt8)) (v7:Int) (v8:Int):exec b2V 1000 (.code (f9 (d9 Tryz.prog 94) 2).1::.inLoop (f9 (d9 Tryz.prog 94) 2).1::(f9 (d9 Tryz.prog 94) 2).2) (b5a v0 v7 v8) =
  cond (decide (v8<v7)) (.f6 ((0:Int)≤v8∧v8<(↑(List.length v0):Int)) (.f6 (True) (cond (D5 (List.getD v0 (Int.toNat v8) [])) (.ret ((v8,()))) (.f6 (q9 IntKind.i64 (v8+(1:Int))) (.ctL (f9 (d9 Tryz.prog 94) 2) (St.mk [(0,AV.val (Ty.d0 false Ty.str) v0),(1,AV.B8 59 AV.nil),(7,AV.val e8 v7),(8,AV.val e8 (v8+(1:Int)))] [])))))) (.ret (((-1:Int),()))):=by kernel_rfl
theorem b6f:b9l.Valid Tryz.prog 94:=by
  refine p7.o6 a8P rfl rfl Tryz.func94 (c:=d9 Tryz.prog 94) rfl rfl a8I rfl ?_
  rintro ⟨(l:List (List UInt8)),⟨⟩,⟨⟩⟩ - ⟨⟨hl,-⟩,-⟩
  have hl:l.length≤9223372036854775807:=hl
  refine j5 (n:=1000) a8P a8I ?_
  refine g9 (c5Q l ) ?_
  refine Reach.N3 a8P a8I (fun i:Nat=>b5a l  (l.length:Int) (i:Int)) (fun i=>i≤l.length∧idxOf (D5) l=S5 (D5) (l.drop i) i)
    (fun i=>l.length - i) 1000 (fun _=>⟨u3 rfl,u3 rfl⟩) ?_ 0 ⟨by omega,rfl⟩
  rintro i ⟨k1,k2⟩ - ih
  refine g9 (c3V ..) ?_
  simp only [j8,Tree.holds,true_and,true_implies,decide_eq_true_eq,decide_eq_false_iff_not,Bool.not_eq_true',Bool.not_eq_false',Int.toNat_natCast,j9,List.length_set,List.length_cons,List.length_nil]
  refine ⟨fun h=>?_,fun h=>?_⟩
  · rw [a6r (show i<l.length by omega) [],S5] at k2
    refine ⟨by omega,fun _=>⟨fun c=>?_,fun c=>⟨by omega,fun _=>ih (i+1) ⟨by omega,?_⟩ (by omega)⟩⟩⟩
    · show (((i:Int),()):Int×Unit)=(idxOf (D5) l,())
      rw [k2,if_pos (show (D5) (l.getD i [])=true from c)]
    · rw [k2,if_neg (show ¬ (D5) (l.getD i [])=true from fun h9=>Bool.noConfusion (Eq.trans (Eq.symm h9) c))]
  · rw [List.drop_eq_nil_of_le (by omega)] at k2
    show (((-1:Int),()):Int×Unit)=(idxOf (D5) l,())
    rw [k2]; rfl
def b4g:p7:={ ps:=[.v (.d0 false .str),.B8 59 []],rs:=[.bool],pre:=fun x=>True,fn:=fun x=>(List.any (α:=List UInt8) x.1 (D5),()),out:=fun _=>() }
noncomputable def b5v:Env:={ P:=Tryz.prog,tt:=tt,C0:=[(94,b9l)],res:=[Go.ResultVar.tmp 4],rs:=[Ty.bool],ps:=[PK.v (Ty.d0 false Ty.str),PK.B8 59 []],y6:=[],nt:=9 }
theorem b2l:u7 b5v:=x6 p9 ⟨b6f,trivial⟩
theorem b1X:B0 b5v Tryz.f76:=⟨rfl,rfl⟩
theorem c4a (x0:List (List UInt8)):exec b5v 1000 [.code (d9 Tryz.prog 76)] (s6 b4g.ps ((x0,(),()))) =
  .f6 (True) (.ret ((decide ((0:Int)≤idxOf D5 x0),()))):=by kernel_rfl
theorem b4f:b4g.Valid Tryz.prog 76:=by
  refine p7.o6 b2l rfl rfl Tryz.func76 (c:=d9 Tryz.prog 76) rfl rfl b1X rfl ?_
  rintro ⟨(l:List (List UInt8)),⟨⟩,⟨⟩⟩ - -
  refine j5 (n:=1000) b2l b1X ?_
  refine g9 (c4a l ) ?_
  refine ⟨trivial,fun _=>?_⟩
  show ((decide (0≤idxOf (D5) l),()):Bool×Unit)=(l.any (D5),())
  rw [b66]
theorem c68:Ty.wb .str=16:=rfl
def b83:p7:={ ps:=[.v (.d0 false .str)],rs:=[.d0 true .str],pre:=fun x=>List.length (α:=List UInt8) x.1≤1048576,fn:=fun x=>x,out:=fun _=>() }
noncomputable def c3L:Env:={ P:=Tryz.prog,tt:=tt,C0:=[],res:=[Go.ResultVar.tmp 2],rs:=[Ty.d0 true Ty.str],ps:=[PK.v (Ty.d0 false Ty.str)],y6:=[],nt:=8 }
theorem b7C:u7 c3L:=x6 p9 trivial
theorem b7s:B0 c3L Tryz.f32:=⟨rfl,rfl⟩
theorem c6U (x0:List (List UInt8)):exec c3L 1000 [.code (d9 Tryz.prog 32)] (s6 b83.ps ((x0,()))) =
  .both (x0=[]) (.ret (([],()))) (.f6 ((0:Nat)+List.length x0≤140737488355328∧((0:Nat)+List.length x0)*Ty.wb Ty.str≤140737488355328) (.ret (([]++x0,())))):=by kernel_rfl
theorem a9E:b83.Valid Tryz.prog 32:=by
  refine p7.o6 b7C rfl rfl Tryz.func32 (c:=d9 Tryz.prog 32) rfl rfl b7s rfl ?_
  rintro ⟨(l:List (List UInt8)),⟨⟩⟩ hp -
  have hp:l.length≤1048576:=hp
  refine j5 (n:=1000) b7C b7s ?_
  refine g9 (c6U l) ?_
  simp only [j8,Tree.holds,true_and,true_implies,decide_eq_true_eq,decide_eq_false_iff_not,Bool.not_eq_true',Bool.not_eq_false',Int.toNat_natCast,j9,List.length_set,List.length_cons,List.length_nil,c68]
  refine ⟨fun h=>?_,by omega,fun _=>rfl⟩
  show (([],()):List (List UInt8)×Unit)=(l,())
  rw [show l=[] from h]
def f00:a0U:=(0,[],())
def I7 (s:a0U):Int:=if V6 s.1 0 16777215=false then 1 else if (16:Int)<s.2.1.length then 1 else if s.2.1.any D5=true then 2 else 0
def a9M:p7:={ ps:=[.v V4],rs:=[e8],pre:=fun _=>True,fn:=fun x=>(I7 x.1,()),out:=fun _=>() }
noncomputable def b5r:Env:={ P:=Tryz.prog,tt:=tt,C0:=[(75,b39),(76,b4g)],res:=[Go.ResultVar.tmp 2],rs:=[Ty.int IntKind.i64],ps:=[PK.v V4],y6:=[],nt:=18 }
theorem b2j:u7 b5r:=x6 p9 ⟨a5q,b4f,trivial⟩
theorem b1V:B0 b5r Tryz.f58:=⟨rfl,rfl⟩
theorem c38 (x0_1:Int) (x0_2_1:List (List UInt8)):exec b5r 1000 [.code (d9 Tryz.prog 58)] (s6 a9M.ps (((x0_1,x0_2_1,()),()))) =
  .f6 (True) (cond (!V6 x0_1 (0:Int) (16777215:Int)) (.ret (((1:Int),()))) (cond (decide ((16:Int)<(↑(List.length x0_2_1):Int))) (.ret (((1:Int),()))) (.f6 (True) (cond (List.any x0_2_1 D5) (.ret (((2:Int),()))) (.ret (((0:Int),()))))))):=by kernel_rfl
theorem lnf {b:Bool} (h:b=true):¬ b=false:=by rw [h]; simp
theorem a6E:a9M.Valid Tryz.prog 58:=by
  refine p7.o6 b2j rfl rfl Tryz.func58 (c:=d9 Tryz.prog 58) rfl rfl b1V rfl ?_
  rintro ⟨⟨(b:Int),(l:List (List UInt8)),⟨⟩⟩,⟨⟩⟩ - -
  refine j5 (n:=1000) b2j b1V ?_
  refine g9 (c38 b l) ?_
  have key:∀ {x:Int},I7 (b,l,())=x→((x,()):Int×Unit)=(I7 (b,l,()),()):=by rintro x rfl; rfl
  have hd:I7 (b,l,())=if V6 b 0 16777215=false then 1 else if (16:Int)<l.length then 1 else if l.any D5=true then 2 else 0:=rfl
  simp only [j8,Tree.holds,true_and,true_implies,decide_eq_true_eq,decide_eq_false_iff_not,Bool.not_eq_true',Bool.not_eq_false',Int.toNat_natCast,j9,List.length_set,List.length_cons,List.length_nil]
  refine ⟨fun a=>key (by rw [hd,if_pos a]),fun a=>⟨fun c=>key (by rw [hd,if_neg (lnf a),if_pos c]),fun c=>⟨fun d=>key (by rw [hd,if_neg (lnf a),if_neg c,if_pos d]),fun d=>key (by rw [hd,if_neg (lnf a),if_neg c,if_neg (by rw [d]; simp)])⟩⟩⟩
theorem a1c {s:a0U} (h:I7 s=0):(0≤s.1∧s.1≤16777215)∧s.2.1.length≤16∧s.2.1.any D5=false:=by
  unfold I7 at h
  split at h
  · cases h
  rename_i c1
  split at h
  · cases h
  rename_i c2
  split at h
  · cases h
  rename_i c3
  exact ⟨Y5.1 (Bool.not_eq_false _▸c1),by omega,by simpa using c3⟩
def M5 (s:a0U) (x:List UInt8):a0U×Int×Unit :=
  if I7 s≠0 then (f00,I7 s,()) else if D5 x=true then (f00,2,()) else if (s.2.1.length:Int)=16∨16777215≤s.1+s.2.1.length then (f00,8,()) else ((s.1,s.2.1++[x],()),0,())
def b9g:p7:={ ps:=[.v V4,.v .str],rs:=[c4G,e8],pre:=fun _=>True,fn:=fun x=>M5 x.1 x.2.1,out:=fun _=>() }
noncomputable def b93:Env:={ P:=Tryz.prog,tt:=tt,C0:=[(58,a9M),(59,a4F),(32,b83)],res:=[Go.ResultVar.cell 4 78,Go.ResultVar.tmp 5],rs:=[Ty.pair e8 (Ty.pair (Ty.d0 true Ty.str) Ty.unit),Ty.int IntKind.i64],ps:=[PK.v V4,PK.v Ty.str],y6:=[],nt:=41 }
theorem b46:u7 b93:=x6 p9 ⟨a6E,a1F,a9E,trivial⟩
theorem b4K:B0 b93 Tryz.f42:=⟨rfl,rfl⟩
theorem c5N (x0_1:Int) (x0_2_1:List (List UInt8)) (x1:List UInt8):exec b93 1000 [.code (d9 Tryz.prog 42)] (s6 b9g.ps (((x0_1,x0_2_1,()),x1,()))) =
  .f6 (True) (cond (decide (I7 (x0_1,x0_2_1,())≠(0:Int))) (.ret ((((0:Int),[],()),I7 (x0_1,x0_2_1,()),()))) (.f6 (True) (cond (D5 x1) (.ret ((((0:Int),[],()),(2:Int),()))) (cond (decide ((↑(List.length x0_2_1):Int)=(16:Int))) (.ret ((((0:Int),[],()),(8:Int),()))) (.f6 (q9 IntKind.i64 (x0_1+(↑(List.length x0_2_1):Int))) (cond (decide ((16777215:Int)≤x0_1+(↑(List.length x0_2_1):Int))) (.ret ((((0:Int),[],()),(8:Int),()))) (.f6 (List.length x0_2_1≤1048576) (.f6 (List.length x0_2_1+List.length (List.set [[]] (Int.toNat (↑0:Int)) x1)≤140737488355328∧(List.length x0_2_1+List.length (List.set [[]] (Int.toNat (↑0:Int)) x1))*Ty.wb Ty.str≤140737488355328) (.ret (((x0_1,x0_2_1++List.set [[]] (Int.toNat (↑0:Int)) x1,()),(0:Int),()))))))))))):=by kernel_rfl
theorem b6b:b9g.Valid Tryz.prog 42:=by
  refine p7.o6 b46 rfl rfl Tryz.func42 (c:=d9 Tryz.prog 42) rfl rfl b4K rfl ?_
  rintro ⟨⟨(b:Int),(l:List (List UInt8)),⟨⟩⟩,(x:List UInt8),⟨⟩⟩ - -
  refine j5 (n:=1000) b46 b4K ?_
  refine g9 (c5N b l x) ?_
  have key:∀ {y:a0U×Int×Unit},M5 (b,l,()) x=y→y=M5 (b,l,()) x:=fun h=>h.symm
  have hd:M5 (b,l,()) x=if I7 (b,l,())≠0 then (f00,I7 (b,l,()),()) else if D5 x=true then (f00,2,()) else if (l.length:Int)=16∨16777215≤b+l.length then (f00,8,()) else ((b,l++[x],()),0,()):=rfl
  have hw:Ty.wb .str=16:=rfl
  simp only [j8,Tree.holds,true_and,true_implies,decide_eq_true_eq,decide_eq_false_iff_not,Bool.not_eq_true',Bool.not_eq_false',Int.toNat_natCast,j9,List.length_set,List.length_cons,List.length_nil,hw]
  refine ⟨fun a=>key (by rw [hd,if_pos a]<;>rfl),fun a=>?_⟩
  have hok:=a1c (Decidable.not_not.1 a)
  simp only at hok
  rw [if_neg a] at hd
  refine ⟨fun c=>key (by rw [hd,if_pos c]<;>rfl),fun c=>?_⟩
  rw [if_neg (by rw [c]; simp)] at hd
  refine ⟨fun d=>key (by rw [hd,if_pos (.inl d)]<;>rfl),fun d=>⟨by omega,fun _=>⟨fun e=>key (by rw [hd,if_pos (.inr e)]<;>rfl),fun e=>⟨by omega,fun _=>⟨⟨by omega,by omega⟩,fun _=>key ?_⟩⟩⟩⟩⟩
  rw [hd,if_neg (by rintro (h|h); exact d h; exact e h)]; rfl
def ahd (b x:Int):Int:=if x - b<0 then 0 else x - b
def N1 (s:a0U) (x:Int):a0U×Int×Unit :=
  if I7 s≠0 then (f00,I7 s,()) else if s.1+s.2.1.length<x then (f00,1,()) else ((s.1+ahd s.1 x,s.2.1.drop (ahd s.1 x).toNat,()),0,())
def b0H:p7:={ ps:=[.v V4,.v e8],rs:=[c4G,e8],pre:=fun x=>LE.le (α:=Int) 0 x.2.1,fn:=fun x=>N1 x.1 x.2.1,out:=fun _=>() }
noncomputable def b0Z:Env:={ P:=Tryz.prog,tt:=tt,C0:=[(58,a9M),(32,b83)],res:=[Go.ResultVar.cell 4 78,Go.ResultVar.tmp 5],rs:=[Ty.pair e8 (Ty.pair (Ty.d0 true Ty.str) Ty.unit),Ty.int IntKind.i64],ps:=[PK.v V4,PK.v e8],y6:=[],nt:=38 }
theorem b0d:u7 b0Z:=x6 p9 ⟨a6E,a9E,trivial⟩
theorem a95:B0 b0Z Tryz.f86:=⟨rfl,rfl⟩
theorem c2b (x0_1:Int) (x0_2_1:List (List UInt8)) (x1:Int):exec b0Z 1000 [.code (d9 Tryz.prog 86)] (s6 b0H.ps (((x0_1,x0_2_1,()),x1,()))) =
  .f6 (True) (cond (decide (I7 (x0_1,x0_2_1,())≠(0:Int))) (.ret ((((0:Int),[],()),I7 (x0_1,x0_2_1,()),()))) (.f6 (q9 IntKind.i64 (x0_1+(↑(List.length x0_2_1):Int))) (cond (decide (x0_1+(↑(List.length x0_2_1):Int)<x1)) (.ret ((((0:Int),[],()),(1:Int),()))) (.f6 (q9 IntKind.i64 (x1 - x0_1)) (.f6 (q9 IntKind.i64 (x0_1+if x1 - x0_1<(0:Int) then (0:Int) else x1 - x0_1)) (.f6 (((0:Int)≤if x1 - x0_1<(0:Int) then (0:Int) else x1 - x0_1)∧(if x1 - x0_1<(0:Int) then (0:Int) else x1 - x0_1)≤(↑(List.length x0_2_1):Int)∧(↑(List.length x0_2_1):Int)≤(↑(List.length x0_2_1):Int)) (.f6 (List.length (n7 (if x1 - x0_1<(0:Int) then (0:Int) else x1 - x0_1) (↑(List.length x0_2_1):Int) x0_2_1)≤1048576) (.ret (((x0_1+if x1 - x0_1<(0:Int) then (0:Int) else x1 - x0_1,n7 (if x1 - x0_1<(0:Int) then (0:Int) else x1 - x0_1) (↑(List.length x0_2_1):Int) x0_2_1,()),(0:Int),())))))))))):=by kernel_rfl
theorem b2C:b0H.Valid Tryz.prog 86:=by
  refine p7.o6 b0d rfl rfl Tryz.func86 (c:=d9 Tryz.prog 86) rfl rfl a95 rfl ?_
  rintro ⟨⟨(b:Int),(l:List (List UInt8)),⟨⟩⟩,(x:Int),⟨⟩⟩ (h0:0≤x) -
  refine j5 (n:=1000) b0d a95 ?_
  refine g9 (c2b b l x) ?_
  have key:∀ {y:a0U×Int×Unit},N1 (b,l,()) x=y→y=N1 (b,l,()) x:=fun h=>h.symm
  have hd:N1 (b,l,()) x=if I7 (b,l,())≠0 then (f00,I7 (b,l,()),()) else if b+l.length<x then (f00,1,()) else ((b+ahd b x,l.drop (ahd b x).toNat,()),0,()):=rfl
  have ha:(if x - b<0 then 0 else x - b)=ahd b x:=rfl
  have ha2:0≤ahd b x∧(x≤b+l.length→ahd b x≤l.length)∧(ahd b x=0∨ahd b x=x - b):=by rw [ahd]; split<;>omega
  have hcut:0≤ahd b x→n7 (ahd b x) (l.length:Int) l=l.drop (ahd b x).toNat:=fun h=>by
    rw [n7,List.take_of_length_le (by rw [List.length_drop]; omega)]
  rw [ha]
  generalize ahd b x=n at *
  rw [hcut ha2.1]
  simp only [j8,Tree.holds,true_and,true_implies,decide_eq_true_eq,decide_eq_false_iff_not,Bool.not_eq_true',Bool.not_eq_false',Int.toNat_natCast,j9,List.length_set,List.length_cons,List.length_nil]
  refine ⟨fun a=>key (by rw [hd,if_pos a]<;>rfl),fun a=>?_⟩
  have hok:=a1c (Decidable.not_not.1 a)
  simp only at hok
  rw [if_neg a] at hd
  refine ⟨by omega,fun _=>⟨fun c=>key (by rw [hd,if_pos c]<;>rfl),fun c=>?_⟩⟩
  rw [if_neg c] at hd
  refine ⟨by omega,fun _=>⟨by omega,fun _=>⟨by omega,fun _=>⟨?_,fun _=>key (by rw [hd]<;>rfl)⟩⟩⟩⟩
  rw [List.length_drop]; omega
def a89 (b most:Int) (l:List (List UInt8)):Nat→List u4
  | 0=>[]
  | i+1=>a89 b most l i++(if (i:Int)<most then [(b+i,l.getD i [],())] else [])
def c01 (s:a0U) (most:Int):List u4×Int×Unit:=if I7 s≠0 then ([],I7 s,()) else (a89 s.1 most s.2.1 s.2.1.length,0,())
def X5:u4:=(0,[],())
def t00:ToD:=(0,[],())
def b0O (r:Int) (l:List u4):Nat→Int
  | 0=>r
  | i+1=>(l.getD i X5).1
def a1D (r:Int) (l:List u4) (i:Nat):Int:=if (l.getD i X5).1≤b0O r l i then 4 else if r+16≤(l.getD i X5).1 then 4 else if D5 (l.getD i X5).2.1=true then 4 else 0
def toE (s:ToD):Int:=if V6 s.1 0 16777215=false then 1 else if (16:Int)<s.2.1.length then 2 else N9 (a1D s.1 s.2.1) s.2.1.length
def c3j:p7:={ ps:=[.v ToT],rs:=[e8],pre:=fun _=>True,fn:=fun x=>(toE x.1,()),out:=fun _=>() }
noncomputable def b9V:Env:={ P:=Tryz.prog,tt:=tt,C0:=[(75,b39),(59,a4F)],res:=[Go.ResultVar.tmp 2],rs:=[Ty.int IntKind.i64],ps:=[PK.v ToT],y6:=[(7,[(1,none),(3,none),(19,none),(20,none),(21,none)])],nt:=45 }
theorem b0X:u7 b9V:=x6 p9 ⟨a5q,a1F,trivial⟩
theorem b0S:B0 b9V Tryz.f96:=⟨rfl,rfl⟩
theorem c6S (x0_1:Int) (x0_2_1:List (Int×List UInt8×Unit)):exec b9V 1000 [.code (d9 Tryz.prog 96)] (s6 c3j.ps (((x0_1,x0_2_1,()),()))) =
  .f6 (True) (cond (!V6 x0_1 (0:Int) (16777215:Int)) (.ret (((1:Int),()))) (cond (decide ((16:Int)<(↑(List.length x0_2_1):Int))) (.ret (((2:Int),()))) (.ctL (f9 (d9 Tryz.prog 96) 7) (St.mk [(1,AV.ptr 1 []),(3,AV.val e8 x0_1),(19,AV.val N5 x0_2_1),(20,AV.val e8 (↑(List.length x0_2_1):Int)),(21,AV.val e8 (0:Int))] [(1,g8.var ToT (x0_1,x0_2_1,()))])))):=by kernel_rfl
def b7A (v3:Int) (v19:List (Int×List UInt8×Unit)) (v20:Int) (v21:Int) (o1_1:Int) (o1_2_1:List (Int×List UInt8×Unit)):St:=St.mk [(1,AV.ptr 1 []),(3,AV.val e8 v3),(19,AV.val N5 v19),(20,AV.val e8 v20),(21,AV.val e8 v21)] [(1,g8.var ToT (o1_1,o1_2_1,()))]
theorem c5F (v3:Int) (v19:List (Int×List UInt8×Unit)) (v20:Int) (v21:Int) (o1_1:Int) (o1_2_1:List (Int×List UInt8×Unit)):exec b9V 1000 (.code (f9 (d9 Tryz.prog 96) 7).1::.inLoop (f9 (d9 Tryz.prog 96) 7).1::(f9 (d9 Tryz.prog 96) 7).2) (b7A v3 v19 v20 v21 o1_1 o1_2_1) =
  cond (decide (v21<v20)) (.f6 ((0:Int)≤v21∧v21<(↑(List.length v19):Int)) (cond (decide (Prod.fst (List.getD v19 (Int.toNat v21) ((0:Int),[],()))≤v3)) (.ret (((4:Int),()))) (.f6 (q9 IntKind.i64 (o1_1+(16:Int))) (cond (decide (o1_1+(16:Int)≤Prod.fst (List.getD v19 (Int.toNat v21) ((0:Int),[],())))) (.ret (((4:Int),()))) (.f6 (True) (cond (D5 (Prod.fst (Prod.snd (List.getD v19 (Int.toNat v21) ((0:Int),[],()))))) (.ret (((4:Int),()))) (.f6 (q9 IntKind.i64 (v21+(1:Int))) (.ctL (f9 (d9 Tryz.prog 96) 7) (St.mk [(1,AV.ptr 1 []),(3,AV.val e8 (Prod.fst (List.getD v19 (Int.toNat v21) ((0:Int),[],())))),(19,AV.val N5 v19),(20,AV.val e8 v20),(21,AV.val e8 (v21+(1:Int)))] [(1,g8.var ToT (o1_1,o1_2_1,()))]))))))))) (.ret (((0:Int),()))):=by kernel_rfl
theorem b8Y:c3j.Valid Tryz.prog 96:=by
  refine p7.o6 b0X rfl rfl Tryz.func96 (c:=d9 Tryz.prog 96) rfl rfl b0S rfl ?_
  rintro ⟨⟨(r:Int),(l:List u4),⟨⟩⟩,⟨⟩⟩ - -
  refine j5 (n:=1000) b0X b0S ?_
  refine g9 (c6S r l) ?_
  have key:∀ {x:Int},toE (r,l,())=x→((x,()):Int×Unit)=(toE (r,l,()),()):=by rintro x rfl; rfl
  have hd:toE (r,l,())=if V6 r 0 16777215=false then 1 else if (16:Int)<l.length then 2 else N9 (a1D r l) l.length:=rfl
  simp only [j8,Tree.holds,true_and,true_implies,decide_eq_true_eq,decide_eq_false_iff_not,Bool.not_eq_true',Bool.not_eq_false',Int.toNat_natCast,j9,List.length_set,List.length_cons,List.length_nil]
  refine ⟨fun a=>key (by rw [hd,if_pos a]),fun a=>?_⟩
  have hr:=Y5.1 a
  rw [if_neg (lnf a)] at hd
  refine ⟨fun a=>key (by rw [hd,if_pos a]),fun a=>?_⟩
  rw [if_neg a] at hd
  refine Reach.N3 b0X b0S (fun i:Nat=>b7A (b0O r l i) l (l.length:Int) (i:Int) r l) (fun i=>i≤l.length∧N9 (a1D r l) i=0) (fun i=>l.length - i) 1000 (fun _=>⟨u3 rfl,u3 rfl⟩) ?_ 0 ⟨by omega,rfl⟩
  rintro i ⟨k1,k2⟩ - ih
  have k1:i≤l.length:=k1
  refine g9 (c5F ..) ?_
  simp only [j8,Tree.holds,true_and,true_implies,decide_eq_true_eq,decide_eq_false_iff_not,Bool.not_eq_true',Bool.not_eq_false',Int.toNat_natCast,j9,List.length_set,List.length_cons,List.length_nil]
  have hE:a1D r l i=if (l.getD i (0,[],())).1≤b0O r l i then 4 else if r+16≤(l.getD i (0,[],())).1 then 4 else if D5 (l.getD i (0,[],())).2.1=true then 4 else 0:=rfl
  have hB:b0O r l (i+1)=(l.getD i (0,[],())).1:=rfl
  have stop:a1D r l i=4→i<l.length→toE (r,l,())=4:=fun h9 hi=>by rw [hd,a7H k2 (by rw [h9]; decide) hi,h9]
  have next:=fun (h:a1D r l i=0) (hi:i<l.length)=>ih (i+1) ⟨by omega,a7I k2 h⟩ (by omega)
  rw [hB] at next
  generalize l.getD i (0,[],())=w at *
  obtain ⟨q,x,u⟩:=w
  simp only at hE next ⊢
  refine ⟨fun c=>⟨by omega,fun _=>⟨fun c1=>key (stop (by rw [hE,if_pos c1]) (by omega)),fun c1=>⟨by omega,fun _=>⟨fun c2=>key (stop (by rw [hE,if_neg c1,if_pos c2]) (by omega)),fun c2=>⟨fun c3=>key (stop (by rw [hE,if_neg c1,if_neg c2,if_pos c3]) (by omega)),fun c3=>⟨by omega,fun _=>next (by rw [hE,if_neg c1,if_neg c2,if_neg (by rw [c3]; simp)]) (by omega)⟩⟩⟩⟩⟩⟩,fun c=>key (by rw [hd,show l.length=i by omega,k2])⟩
def c2N (p:u4) (n:Int):Int:=p.1 - n
def b9i:p7:={ ps:=[.v u5,.v e8],rs:=[e8],pre:=fun x=>(LE.le (α:=Int) (-100000000) x.1.1∧LE.le (α:=Int) x.1.1 100000000)∧(LE.le (α:=Int) (-100000000) x.2.1∧LE.le (α:=Int) x.2.1 100000000),fn:=fun x=>(c2N x.1 x.2.1,()),out:=fun _=>() }
noncomputable def b94:Env:={ P:=Tryz.prog,tt:=tt,C0:=[],res:=[Go.ResultVar.tmp 4],rs:=[Ty.int IntKind.i64],ps:=[PK.v u5,PK.v e8],y6:=[],nt:=9 }
theorem b48:u7 b94:=x6 p9 trivial
theorem b4L:B0 b94 Tryz.f99:=⟨rfl,rfl⟩
theorem c5O (x0_1:Int) (x0_2_1:List UInt8) (x1:Int):exec b94 1000 [.code (d9 Tryz.prog 99)] (s6 b9i.ps (((x0_1,x0_2_1,()),x1,()))) =
  .f6 (q9 IntKind.i64 (x0_1 - x1)) (.ret ((x0_1 - x1,()))):=by kernel_rfl
theorem b6d:b9i.Valid Tryz.prog 99:=by
  refine p7.o6 b48 rfl rfl Tryz.func99 (c:=d9 Tryz.prog 99) rfl rfl b4L rfl ?_
  rintro ⟨⟨(q:Int),(s:List UInt8),⟨⟩⟩,(n:Int),⟨⟩⟩ ⟨⟨(h1:-100000000≤q),(h2:q≤100000000)⟩,(h3:-100000000≤n),(h4:n≤100000000)⟩ -
  refine j5 (n:=1000) b48 b4L ?_
  refine g9 (c5O q s n) ?_
  simp only [j8,Tree.holds,true_and,true_implies,decide_eq_true_eq,decide_eq_false_iff_not,Bool.not_eq_true',Bool.not_eq_false',Int.toNat_natCast,j9,List.length_set,List.length_cons,List.length_nil]
  exact ⟨by omega,fun _=>rfl⟩
def atF (n:Int) (l:List u4):Nat:=(l.takeWhile fun p=>decide (p.1<n)).length
theorem c1G {n:Int}:∀ {l:List u4} {i:Nat},i≤l.length→(∀ k,k<i→(l.getD k X5).1<n)→(i<l.length→n≤(l.getD i X5).1)→atF n l=i
  | [],i,hi,_,_=>by simp at hi; subst hi; rfl
  | p::l,0,_,_,h=>by
    have:=h (by simp)
    rw [atF,List.takeWhile_cons,if_neg]
    · rfl
    · rw [decide_eq_true_eq]; show ¬ p.1<n; exact Int.not_lt.2 this
  | p::l,i+1,hi,h1,h2=>by
    have h0:p.1<n:=h1 0 (by omega)
    have:=c1G (l:=l) (i:=i) (by simpa using hi) (fun k hk=>h1 (k+1) (by omega)) (fun hk=>h2 (by simpa using hk))
    rw [atF,List.takeWhile_cons,if_pos (decide_eq_true h0),List.length_cons]
    rw [atF] at this; omega
def sorted (l:List u4):Prop:=(∀ i j,i<j→j<l.length→(l.getD i X5).1<(l.getD j X5).1)∧(∀ i,i<l.length→-100000000≤(l.getD i X5).1∧(l.getD i X5).1≤100000000)
def W3 (n:Int) (l:List u4):Bool:=decide (atF n l<l.length) && decide ((l.getD (atF n l) X5).1 - n=0)
def c3u:p7:={ ps:=[.v (.d0 false u5),.v e8,.B8 99 []],rs:=[e8,.bool],pre:=fun x=>(List.length (α:=u4) x.1≤1000∧sorted x.1)∧(LE.le (α:=Int) (-100000000) x.2.1∧LE.le (α:=Int) x.2.1 100000000),fn:=fun x=>((atF x.2.1 x.1:Int),W3 x.2.1 x.1,()),out:=fun _=>() }
noncomputable def c0m:Env:={ P:=Tryz.prog,tt:=tt,C0:=[(99,b9i)],res:=[Go.ResultVar.tmp 6,Go.ResultVar.tmp 7],rs:=[Ty.int IntKind.i64,Ty.bool],ps:=[PK.v N5,PK.v e8,PK.B8 99 []],y6:=[(3,[(0,none),(1,none),(2,none),(8,none),(9,none),(10,none)])],nt:=49 }
theorem b01:u7 c0m:=x6 p9 ⟨b6d,trivial⟩
theorem b0T:B0 c0m Tryz.f98:=⟨rfl,rfl⟩
theorem c62 (x0:List (Int×List UInt8×Unit)) (x1:Int):exec c0m 1000 [.code (d9 Tryz.prog 98)] (s6 c3u.ps ((x0,x1,(),()))) =
  .ctL (f9 (d9 Tryz.prog 98) 3) (St.mk [(0,AV.val N5 x0),(1,AV.val e8 x1),(2,AV.B8 99 AV.nil),(8,AV.val e8 (↑(List.length x0):Int)),(9,AV.val e8 (0:Int)),(10,AV.val e8 (↑(List.length x0):Int))] []):=by kernel_rfl
def b7J (v0:List (Int×List UInt8×Unit)) (v1:Int) (v8:Int) (v9:Int) (v10:Int):St:=St.mk [(0,AV.val N5 v0),(1,AV.val e8 v1),(2,AV.B8 99 AV.nil),(8,AV.val e8 v8),(9,AV.val e8 v9),(10,AV.val e8 v10)] []
theorem c53 (v0:List (Int×List UInt8×Unit)) (v1:Int) (v8:Int) (v9:Int) (v10:Int):exec c0m 1000 (.code (f9 (d9 Tryz.prog 98) 3).1::.inLoop (f9 (d9 Tryz.prog 98) 3).1::(f9 (d9 Tryz.prog 98) 3).2) (b7J v0 v1 v8 v9 v10) =
  cond (decide (v9<v10)) (.f6 (q9 IntKind.i64 (v9+v10)) (.f6 ((0:Int)≤(1:Int)) (.f6 ((0:Int)≤IntKind.wrap IntKind.i64 (IntKind.wrap IntKind.u64 (v9+v10) / (2:Int)^min (Int.toNat (1:Int)) (IntKind.bits IntKind.u64))∧IntKind.wrap IntKind.i64 (IntKind.wrap IntKind.u64 (v9+v10) / (2:Int)^min (Int.toNat (1:Int)) (IntKind.bits IntKind.u64))<(↑(List.length v0):Int)) (.f6 (((-100000000:Int)≤Prod.fst (List.getD v0 (Int.toNat (IntKind.wrap IntKind.i64 (IntKind.wrap IntKind.u64 (v9+v10) / (2:Int)^min (Int.toNat (1:Int)) (IntKind.bits IntKind.u64)))) ((0:Int),[],()))∧Prod.fst (List.getD v0 (Int.toNat (IntKind.wrap IntKind.i64 (IntKind.wrap IntKind.u64 (v9+v10) / (2:Int)^min (Int.toNat (1:Int)) (IntKind.bits IntKind.u64)))) ((0:Int),[],()))≤(100000000:Int))∧(-100000000:Int)≤v1∧v1≤(100000000:Int)) (cond (decide (c2N (List.getD v0 (Int.toNat (IntKind.wrap IntKind.i64 (IntKind.wrap IntKind.u64 (v9+v10) / (2:Int)^min (Int.toNat (1:Int)) (IntKind.bits IntKind.u64)))) ((0:Int),[],())) v1<(0:Int))) (.f6 (q9 IntKind.i64 (IntKind.wrap IntKind.i64 (IntKind.wrap IntKind.u64 (v9+v10) / (2:Int)^min (Int.toNat (1:Int)) (IntKind.bits IntKind.u64))+(1:Int))) (.ctL (f9 (d9 Tryz.prog 98) 3) (St.mk [(0,AV.val N5 v0),(1,AV.val e8 v1),(2,AV.B8 99 AV.nil),(8,AV.val e8 v8),(9,AV.val e8 (IntKind.wrap IntKind.i64 (IntKind.wrap IntKind.u64 (v9+v10) / (2:Int)^min (Int.toNat (1:Int)) (IntKind.bits IntKind.u64))+(1:Int))),(10,AV.val e8 v10)] []))) (.ctL (f9 (d9 Tryz.prog 98) 3) (St.mk [(0,AV.val N5 v0),(1,AV.val e8 v1),(2,AV.B8 99 AV.nil),(8,AV.val e8 v8),(9,AV.val e8 v9),(10,AV.val e8 (IntKind.wrap IntKind.i64 (IntKind.wrap IntKind.u64 (v9+v10) / (2:Int)^min (Int.toNat (1:Int)) (IntKind.bits IntKind.u64))))] []))))))) (cond (decide (v9<v8)) (.f6 ((0:Int)≤v9∧v9<(↑(List.length v0):Int)) (.f6 (((-100000000:Int)≤Prod.fst (List.getD v0 (Int.toNat v9) ((0:Int),[],()))∧Prod.fst (List.getD v0 (Int.toNat v9) ((0:Int),[],()))≤(100000000:Int))∧(-100000000:Int)≤v1∧v1≤(100000000:Int)) (.ret ((v9,decide (c2N (List.getD v0 (Int.toNat v9) ((0:Int),[],())) v1=(0:Int)),()))))) (.ret ((v9,false,())))):=by kernel_rfl
theorem b9u:c3u.Valid Tryz.prog 98:=by
  refine p7.o6 b01 rfl rfl Tryz.func98 (c:=d9 Tryz.prog 98) rfl rfl b0T rfl ?_
  rintro ⟨(l:List u4),(n:Int),⟨⟩,⟨⟩⟩ ⟨⟨(h0:l.length≤1000),(hs:sorted l)⟩,(h1:-100000000≤n),(h2:n≤100000000)⟩ -
  refine j5 (n:=1000) b01 b0T ?_
  refine g9 (c62 l n) ?_
  refine Reach.N3 b01 b0T (fun s:Nat×Nat=>b7J l n (l.length:Int) (s.1:Int) (s.2:Int)) (fun s=>s.1≤s.2∧s.2≤l.length∧(∀ k,k<s.1→(l.getD k X5).1<n)∧(∀ k,s.2≤k→k<l.length→n≤(l.getD k X5).1)) (fun s=>s.2 - s.1) 1000 (fun _=>⟨u3 rfl,u3 rfl⟩) ?_ (0,l.length) ⟨Nat.zero_le _,Nat.le_refl _,fun k hk=>by omega,fun k hk hk2=>by omega⟩
  rintro ⟨i,j⟩ ⟨k1,k2,k3,k4⟩ - ih
  have k1:i≤j:=k1
  have k2:j≤l.length:=k2
  have k3:∀ k,k<i→(l.getD k X5).1<n:=k3
  have k4:∀ k,j≤k→k<l.length→n≤(l.getD k X5).1:=k4
  refine g9 (c53 ..) ?_
  have hh:IntKind.wrap .i64 (IntKind.wrap .u64 ((i:Int)+(j:Int)) / 2^min (Int.toNat 1) (IntKind.bits .u64))=(((i+j) / 2:Nat):Int):=by
    rw [K7 (k:=.u64) (by show (0:Int)≤_∧_≤(18446744073709551615:Int); omega)]
    rw [show (2:Int)^min (Int.toNat 1) (IntKind.bits .u64)=2 from rfl]
    rw [K7 (k:=.i64) (by show (-9223372036854775808:Int)≤_∧_≤(9223372036854775807:Int); omega)]
    omega
  rw [show ((i,j):Nat×Nat).1=i from rfl,show ((i,j):Nat×Nat).2=j from rfl,hh]
  simp only [j8,Tree.holds,true_and,true_implies,decide_eq_true_eq,decide_eq_false_iff_not,Bool.not_eq_true',Bool.not_eq_false',Int.toNat_natCast,j9,List.length_set,List.length_cons,List.length_nil]
  refine ⟨fun c=>⟨by omega,fun _=>⟨by omega,fun _=>?_⟩⟩,fun c=>?_⟩
  · have hm:(i+j) / 2<l.length:=by omega
    have hrg:=hs.2 _ hm
    have e0:l.getD ((i+j) / 2) (0,[],())=l.getD ((i+j) / 2) X5:=rfl
    rw [e0]
    refine ⟨⟨by omega,by omega⟩,fun _=>⟨⟨hrg,h1,h2⟩,fun _=>⟨fun d=>⟨by omega,fun _=>?_⟩,fun d=>?_⟩⟩⟩
    · have d:(l.getD ((i+j) / 2) X5).1 - n<0:=d
      exact ih ((i+j) / 2+1,j) ⟨by show (i+j) / 2+1≤j; omega,k2,fun k hk=>(by
        have hk:k<(i+j) / 2+1:=hk
        by_cases e:k=(i+j) / 2
        · subst e; omega
        · have:=hs.1 k ((i+j) / 2) (by omega) hm; omega),k4⟩ (by show j - ((i+j) / 2+1)<j - i; omega)
    · have d:¬ (l.getD ((i+j) / 2) X5).1 - n<0:=d
      exact ih (i,(i+j) / 2) ⟨by show i≤(i+j) / 2; omega,by show (i+j) / 2≤l.length; omega,k3,fun k hk hk2=>(by
        have hk:(i+j) / 2≤k:=hk
        by_cases e:k=(i+j) / 2
        · subst e; omega
        · have:=hs.1 ((i+j) / 2) k (by omega) hk2; omega)⟩ (by show (i+j) / 2 - i<j - i; omega)
  · have e:j=i:=by omega
    subst e
    have hat:atF n l=j:=c1G k2 k3 (fun h=>k4 j (Nat.le_refl _) h)
    have key:∀ {x:Bool},W3 n l=x→(((j:Int),x,()):Int×Bool×Unit)=((atF n l:Int),W3 n l,()):=by rintro x rfl; rw [hat]
    have hk:W3 n l=(decide (j<l.length) && decide ((l.getD j X5).1 - n=0)):=by rw [W3,hat]
    refine ⟨fun d=>⟨by omega,fun _=>⟨⟨hs.2 j (by omega),h1,h2⟩,fun _=>key ?_⟩⟩,fun d=>key ?_⟩
    · rw [hk,decide_eq_true (show j<l.length by omega),Bool.true_and]; rfl
    · rw [hk,decide_eq_false (show ¬ j<l.length by omega)]; rfl
end Go.Proofs.YtijlnmgondibnaaGreatDoor
namespace Go.Proofs.YtijlnmgondibnaaGreatDoor
open Go.Ex
def C8:List u4→Int→Int×List u4×List (List UInt8)
  | [],n=>(n,[],[])
  | p::l,n=>if p.1=n then ((C8 l (n+1)).1,(C8 l (n+1)).2.1,p.2.1::(C8 l (n+1)).2.2) else (n,p::l,[])
def a57 (b:Int):List u4→Prop
  | []=>True
  | p::l=>b<p.1∧a57 p.1 l
theorem a8c {b:Int}:∀ {l:List u4} {p:u4},a57 b l→p∈l→b<p.1
  | q::l,p,⟨h1,h2⟩,hp=>by
    rcases List.mem_cons.1 hp with rfl|hp
    · exact h1
    · have:=a8c h2 hp; omega
theorem b6S:∀ {l:List u4} {n:Int},a57 (n - 1) l→a57 (C8 l n).1 (C8 l n).2.1∧(C8 l n).1=n+(C8 l n).2.2.length∧(C8 l n).2.1.length+(C8 l n).2.2.length=l.length∧(∀ p∈(C8 l n).2.1,p∈l)
  | [],n,_=>⟨trivial,by simp [C8],by simp [C8],by simp [C8]⟩
  | p::l,n,⟨h1,h2⟩=>by
    rw [C8]
    by_cases e:p.1=n
    · rw [if_pos e]
      obtain ⟨a1,a2,a3,a4⟩:=b6S (l:=l) (n:=n+1) (by rw [show n+1 - 1=p.1 by omega]; exact h2)
      refine ⟨a1,?_,?_,fun q hq=>List.mem_cons_of_mem _ (a4 q hq)⟩
      · show (C8 l (n+1)).1=n+((p.2.1::(C8 l (n+1)).2.2).length:Int)
        rw [List.length_cons]; omega
      · show (C8 l (n+1)).2.1.length+(p.2.1::(C8 l (n+1)).2.2).length=(p::l).length
        rw [List.length_cons,List.length_cons]; omega
    · rw [if_neg e]
      exact ⟨⟨by show n<p.1; omega,h2⟩,by simp,by simp,fun q hq=>hq⟩
theorem b3h {c:Int}:∀ {l:List u4} {b:Int},a57 b l→(∀ p∈l,p.1<c)→l≠[]→(l.length:Int)+b<c
  | [p],b,⟨h1,_⟩,h,_=>by have:=h p List.mem_cons_self; show ((1:Nat):Int)+b<c; omega
  | p::x::l,b,⟨h1,h2⟩,h,_=>by
    have:=b3h (l:=x::l) h2 (fun y hy=>h y (List.mem_cons_of_mem _ hy)) (by simp)
    rw [List.length_cons]; omega
def a36 (p:u4) (l:List u4):List u4:=l.take (atF p.1 l)++p::l.drop (atF p.1 l)
theorem c2S {p y:u4} {l:List u4}:y∈a36 p l↔y=p∨y∈l:=by
  have h:y∈l↔y∈l.take (atF p.1 l)∨y∈l.drop (atF p.1 l):=by rw [← List.mem_append,List.take_append_drop]
  rw [a36,List.mem_append,List.mem_cons,h]
  constructor
  · rintro (a|a|a)
    · exact .inr (.inl a)
    · exact .inl a
    · exact .inr (.inr a)
  · rintro (a|a|a)
    · exact .inr (.inl a)
    · exact .inl a
    · exact .inr (.inr a)
theorem c2T {p:u4} {l:List u4}:(a36 p l).length=l.length+1:=by
  rw [a36,List.length_append,List.length_cons,List.length_take,List.length_drop]; omega
theorem a3c:∀ {l:List u4} {b:Int},a57 b l↔∀ i,i<l.length→b0O b l i<(l.getD i X5).1
  | [],b=>⟨fun _ i hi=>absurd hi (Nat.not_lt_zero _),fun _=>trivial⟩
  | p::l,b=>by
    constructor
    · rintro ⟨h1,h2⟩ i hi
      match i,hi with
      | 0,_=>exact h1
      | 1,hi=>exact (a3c.1 h2) 0 (by simpa using hi)
      | i+2,hi=>exact (a3c.1 h2) (i+1) (by rw [List.length_cons] at hi; omega)
    · intro h
      refine ⟨h 0 (by simp),a3c.2 fun i hi=>?_⟩
      match i,hi with
      | 0,hi=>exact h 1 (by simpa using hi)
      | i+1,hi=>exact h (i+2) (by rw [List.length_cons]; omega)
structure b4A (r:Int) (l:List u4):Prop where
  rg:0≤r∧r≤16777215
  len:l.length≤16
  up:a57 r l
  b:∀ p∈l,p.1<r+16∧D5 p.2.1=false
theorem b0g {r:Int} {l:List u4} {u:Unit}:toE (r,l,u)=0↔b4A r l:=by
  have hd:toE (r,l,u)=if V6 r 0 16777215=false then 1 else if (16:Int)<l.length then 2 else N9 (a1D r l) l.length:=rfl
  rw [hd]
  constructor
  · intro h
    split at h
    · cases h
    rename_i c1
    split at h
    · cases h
    rename_i c2
    have h:=a2b.1 h
    have hE:∀ i,i<l.length→b0O r l i<(l.getD i X5).1∧(l.getD i X5).1<r+16∧D5 (l.getD i X5).2.1=false:=fun i hi=>by
      have:=h i hi
      unfold a1D at this
      split at this
      · cases this
      split at this
      · cases this
      split at this
      · cases this
      rename_i d1 d2 d3
      exact ⟨by omega,by omega,by simpa using d3⟩
    refine ⟨Y5.1 (Bool.not_eq_false _▸c1),by omega,a3c.2 fun i hi=>(hE i hi).1,fun p hp=>?_⟩
    obtain ⟨i,hi,rfl⟩:=List.getElem_of_mem hp
    have:=hE i hi
    rw [List.getD_eq_getElem?_getD,List.getElem?_eq_getElem hi] at this
    exact this.2
  · intro h
    rw [if_neg (by rw [Y5.2 h.rg]; simp),if_neg (by have:=h.len; omega)]
    refine a2b.2 fun i hi=>?_
    have h1:=a3c.1 h.up i hi
    obtain ⟨h2,h3⟩:=h.b (l.getD i X5) (a5h hi)
    rw [a1D,if_neg (by omega),if_neg (by omega),if_neg (by rw [h3]; simp)]
theorem b5H {l:List u4}:∀ {b:Int},a57 b l→∀ i j,i<j→j<l.length→(l.getD i X5).1<(l.getD j X5).1:=by
  induction l with
  | nil=>intro b _ i j _ h; exact absurd h (Nat.not_lt_zero _)
  | cons p l ih =>
    rintro b ⟨h1,h2⟩ i j hij hj
    match i,j,hij,hj with
    | 0,j+1,_,hj=>exact a8c h2 (a5h (by simpa using hj))
    | i+1,j+1,hij,hj=>exact ih h2 i j (by omega) (by simpa using hj)
end Go.Proofs.YtijlnmgondibnaaGreatDoor
namespace Go.Proofs.YtijlnmgondibnaaGreatDoor
open Go.Ex
def C3 (s:ToD) (p:u4):ToD×List (List UInt8)×Int×Unit :=
  if toE s≠0 then (t00,[],toE s,()) else if V6 p.1 0 16777214=false then (t00,[],1,()) else if D5 p.2.1=true then (t00,[],2,()) else
  if p.1<s.1∨s.1+16≤p.1∨W3 p.1 s.2.1=true then (s,[],0,()) else if s.1<p.1 then ((s.1,a36 p s.2.1,()),[],0,()) else
  (((C8 s.2.1 (s.1+1)).1,(C8 s.2.1 (s.1+1)).2.1,()),p.2.1::(C8 s.2.1 (s.1+1)).2.2,0,())
theorem c2K {r:Int} {l:List u4} {p:u4} (h:b4A r l) (h1:0≤p.1∧p.1≤16777214) (h2:D5 p.2.1=false):C3 (r,l,()) p =
    if p.1<r∨r+16≤p.1∨W3 p.1 l=true then ((r,l,()),[],0,()) else if r<p.1 then ((r,a36 p l,()),[],0,()) else
    (((C8 l (r+1)).1,(C8 l (r+1)).2.1,()),p.2.1::(C8 l (r+1)).2.2,0,()):=by
  rw [C3,if_neg (by simp [b0g.2 h]),if_neg (by rw [Y5.2 h1]; simp),if_neg (by rw [h2]; simp)]
theorem c00 {s:ToD} {p:u4} (h:(C3 s p).2.2.1≠0):(C3 s p).2.1=[]:=by
  by_cases c1:toE s≠0
  · rw [C3,if_pos c1]
  by_cases c2:V6 p.1 0 16777214=false
  · rw [C3,if_neg c1,if_pos c2]
  by_cases c3:D5 p.2.1=true
  · rw [C3,if_neg c1,if_neg c2,if_pos c3]
  by_cases c4:p.1<s.1∨s.1+16≤p.1∨W3 p.1 s.2.1=true
  · rw [C3,if_neg c1,if_neg c2,if_neg c3,if_pos c4]
  by_cases c5:s.1<p.1
  · rw [C3,if_neg c1,if_neg c2,if_neg c3,if_neg c4,if_pos c5]
  · rw [C3,if_neg c1,if_neg c2,if_neg c3,if_neg c4,if_neg c5] at h; exact absurd rfl h
end Go.Proofs.YtijlnmgondibnaaGreatDoor
set_option linter.unusedVariables false
set_option linter.unusedSimpArgs false
namespace Go.Proofs.YtijlnmgondibnaaGreatDoor
open Go Go.Shelf Go.RowKit Go.Lib
theorem b2Y {P:Program} (w:World) {o:Oper} {a:Act} {K:Act→World→Prop} {Q:Exit→Act→World→Prop} (d s:Operand) (t t':TypeId)
    (ho:o.op=.call { callee:=.builtin .copy,args:=#[d,s],argTypes:=#[t,t'] }) (v u:Value) (hd:a.eval d=v) (hs:a.eval s=u) {v':Value} {w':World}
    (hr:(Builtin.copy_ #[t,t'] o.type #[v,u]).run P w=.ok v' w') (h:K (a.put o.dst v') w'):o.wp P a w K Q:=by
  unfold Oper.wp execOp
  simp only [ho,resolve,invoke,builtin,Sem.run_bind,Sem.run_pure,Result.andThen_ok,List.map_toArray,List.map_cons,List.map_nil,hd,hs,hr]
  exact h
theorem a29 {P:Program} (w:World) {ops:Array Oper} {rest:List Oper} {o:Oper} {a:Act} {Q:Exit→Act→World→Prop} (hgd:o.guard=none) (d s:Operand) (t t':TypeId)
    (ho:o.op=.call { callee:=.builtin .copy,args:=#[d,s],argTypes:=#[t,t'] }) (v u:Value) (hd:a.eval d=v) (hs:a.eval s=u) {v':Value} {w':World}
    (hr:(Builtin.copy_ #[t,t'] o.type #[v,u]).run P w=.ok v' w') (h:wpList P ops Q rest (a.put o.dst v') w'):wpList P ops Q (o::rest) a w :=
  wpList_plain hgd fun _ hK=>b2Y w d s t t' ho v u hd hs hr (hK _ _ h)
theorem a4o {P:Program} {ops:Array Oper} {o:Oper} {a:Act} {w:World} {K:Act→World→Prop} {Q:Exit→Act→World→Prop} {E:Prop}
    (hg:o.guard=none) (d x:Operand) (dT sT:TypeId) (hop:o.op=Op.call { callee:=Callee.builtin Builtin.copy,args:=#[d,x],argTypes:=#[dT,sT] })
    (v u:Value) (hd:a.eval d=v) (hx:a.eval x=u) {v':Value} {w':World} (hr:(Builtin.copy_ #[dT,sT] o.type #[v,u]).run P w=.ok v' w') (hK:K (a.put o.dst v') w') :
    if Region.wanted o (yielded ops a.tmps)=true then Oper.wp P o a w K Q else E:=by
  have hw:Region.wanted o (yielded ops a.tmps)=true:=by simp [Region.wanted,hg]
  rw [if_pos hw]
  unfold Oper.wp
  simp [execOp,hop,resolve,invoke,builtin,hd,hx,hr,Result.andThen]
  exact hK
theorem a0u (b:Nat) (vs:List Value) (o:Nat) (w:World) (h:∀ j,j<vs.length→(w.cell? ⟨b,o+j,none⟩).isSome=true) (k:Nat) (hk:(w.cell? ⟨b,k,none⟩).isSome=true):((w.setCells b o vs).cell? ⟨b,k,none⟩).isSome=true:=by
  by_cases hin:o≤k∧k<o+vs.length
  · have:=World.cell?_setCells_in b vs o w h (k - o) (by omega)
    rw [show o+(k - o)=k by omega] at this
    rw [this]; rfl
  · rw [World.cell?_setCells_out b vs o w ⟨b,k,none⟩ (fun _ _=>by show k<o∨o+vs.length≤k; omega)]
    exact hk
theorem a2P {P:Program} (w:World) (dT sT ty elem:TypeId) (k b o dLen dCap:Nat) (a:Addr) (sLen sCap:Nat) (cs:List Value)
    (hu:P.underlying dT=some (.slice elem)) (hs:(P.info? elem).map (·.size)=some k) (hn:cs.length=Nat.min sLen dLen*k)
    (hsrc:∀ j v,cs[j]?=some v→w.cell? (a.add j)=some v) (hc:∀ j,j<cs.length→(w.cell? ⟨b,o+j,none⟩).isSome=true) (hf:∀ j,j<cs.length→w.frozen? ⟨b,o+j,none⟩=false) (h1:∀ v∈cs,v.oneCell'=true) :
    (Builtin.copy_ #[dT,sT] ty #[.slice (some ⟨b,o,none⟩) dLen dCap,.slice (some a) sLen sCap]).run P w=.ok (goInt (Nat.min sLen dLen)) (w.setCells b o cs):=by
  have hl:=run_loadCells_list (P:=P) w a cs hsrc
  have hst:=run_storeCells_cells (P:=P) b o cs 0 w (by simpa using hc) (by simpa using hf) h1
  cases hq:P.info? elem with
  | none=>simp [hq] at hs
  | some i =>
    have hi:i.size=k:=by simpa [hq] using hs
    rw [hn] at hl
    simp [Builtin.copy_,run_underlying hu,Builtin.lenOf,Builtin.firstCells,sizeOf,typeInfo,hq,hi,hl,hst]
set_option maxHeartbeats 4000000 in
set_option maxRecDepth 100000 in
/-- there is room: in place -/
theorem c1c (b off n c i vb voff vc:Nat) (cs vs:List Value) (w:World) (hi:i<n) (hroom:n+1≤c) (hc63:c≤9223372036854775807) (hvb:vb≠b)
    (hcl:cs.length=n*2) (hvl:vs.length=2)
    (hcs:∀ j v,cs[j]?=some v→w.cell? ⟨b,off+j,none⟩=some v) (hsp:∀ j,j<(n+1)*2→(w.cell? ⟨b,off+j,none⟩).isSome=true) (hfz:∀ j,j<(n+1)*2→w.frozen? ⟨b,off+j,none⟩=false)
    (hvs:∀ j v,vs[j]?=some v→w.cell? ⟨vb,voff+j,none⟩=some v) (h1c:∀ v∈cs,v.oneCell'=true) (h1v:∀ v∈vs,v.oneCell'=true)
    (tA tB:TypeId) (kA kB:Nat) (hsa:w.shape? vb=some (tA,kA)) (hsb:w.shape? b=some (tB,kB)) (hkB:kB≠0) (hfa:w.frozen? ⟨vb,voff,none⟩=false) (hfe:w.frozen? ⟨vb,kA,none⟩=false) :
    Calls Tryz.prog 100 #[.slice (some ⟨b,off,none⟩) n c,.int .i64 i,.slice (some ⟨vb,voff,none⟩) 1 vc] w fun e w' =>
      e=.returned (.slice (some ⟨b,off,none⟩) (n+1) c)∧w'=(w.drew.setCells b (off+(i+1)*2) (cs.drop (i*2))).setCells b (off+i*2) vs:=by
  have hz2:¬ ((i:Int)=(n:Int)):=by omega
  have hsz:(Tryz.prog.info? 104).map (·.size)=some 2:=by kernel_rfl
  have hov:∀ lb cb,(callFunc 111 #[.slice (some ⟨vb,voff,none⟩) 1 vc,.slice (some ⟨b,off+(i+1)*2,none⟩) lb cb]).run Tryz.prog w=.ok (.value (.bool false)) w:=fun lb cb=>by
    rw [run_callFunc_extern Tryz.func111 (by kernel_rfl) (by kernel_rfl) (by kernel_rfl) (e:=Extern.SlicesOverlaps.overlaps #[81,81] #[4]) (by kernel_rfl),
      Lib.run_overlaps_apart w 81 4 104 Tryz.underlying81 2 Tryz.sizeOf104 ⟨vb,voff,none⟩ ⟨b,off+(i+1)*2,none⟩ 1 vc lb cb hvb tA tB kA kB hsa hsb hkB hfa hfe]
    rfl
  have hdl:(cs.drop (i*2)).length=(n - i)*2:=by rw [List.length_drop,hcl]; omega
  have hw1:IntKind.i64.wrap ((i:Int)+(1:Int))=(i:Int)+(1:Int):=by rw [IntKind.wrap_i64]; omega
  have hb1:(0:Int)≤(i:Int)+(1:Int):=by omega
  have hin:i≤n:=by omega
  have htn:((i:Int)+(1:Int)).toNat=i+1:=by omega
  have hb2:¬ (c=i+1):=by omega
  have hb3:(i:Int)≤(n:Int)+(1:Int):=by omega
  have hb4:¬ (c=i):=by omega
  have hcp1:∀ ty dc sc,(Builtin.copy_ #[81,81] ty #[.slice (some ⟨b,off+(i+1)*2,none⟩) (n - i) dc,.slice (some ⟨b,off+i*2,none⟩) (n+1 - i) sc]).run Tryz.prog w.drew=.ok (goInt (Nat.min (n+1 - i) (n - i))) (w.drew.setCells b (off+(i+1)*2) (cs.drop (i*2))):=fun ty dc sc =>
    a2P w.drew _ _ ty 104 2 b (off+(i+1)*2) (n - i) dc ⟨b,off+i*2,none⟩ (n+1 - i) sc (cs.drop (i*2)) Tryz.underlying81 hsz (by rw [hdl]; simp only [Nat.min_def]; split<;>omega)
      (fun j v hj=>by rw [Addr.add_lit,Nat.add_assoc]; exact hcs (i*2+j) v (by rwa [List.getElem?_drop] at hj))
      (fun j hj=>by rw [Nat.add_assoc]; exact hsp _ (by omega)) (fun j hj=>by rw [Nat.add_assoc]; exact hfz _ (by omega)) (fun v hv=>h1c v (List.mem_of_mem_drop hv))
  obtain ⟨W1,hW1⟩:∃ W1,W1=w.drew.setCells b (off+(i+1)*2) (cs.drop (i*2)):=⟨_,rfl⟩
  have hsp1:∀ k,k<(n+1)*2→(W1.cell? ⟨b,off+k,none⟩).isSome=true:=fun k hk=>by
    rw [hW1]
    exact a0u b _ _ _ (fun j hj=>by rw [Nat.add_assoc]; exact hsp _ (by omega)) _ (hsp k hk)
  have hcp2:∀ (W:World),(∀ x,W.cell? x=W1.cell? x)→(∀ x,W.frozen? x=W1.frozen? x)→∀ ty dc,(Builtin.copy_ #[81,81] ty #[.slice (some ⟨b,off+i*2,none⟩) (n+1 - i) dc,.slice (some ⟨vb,voff,none⟩) 1 vc]).run Tryz.prog W=.ok (goInt (Nat.min 1 (n+1 - i))) (W.setCells b (off+i*2) vs):=fun W hWc hWf ty dc =>
    a2P W _ _ ty 104 2 b (off+i*2) (n+1 - i) dc ⟨vb,voff,none⟩ 1 vc vs Tryz.underlying81 hsz (by rw [hvl]; simp only [Nat.min_def]; split<;>omega)
      (fun j v hj=>by
        rw [Addr.add_lit,hWc,hW1,World.cell?_setCells_out b _ _ _ _ (fun h _=>absurd h hvb)]
        exact hvs j v hj)
      (fun j hj=>by rw [hWc,Nat.add_assoc]; exact hsp1 _ (by omega)) (fun j hj=>by rw [hWf,hW1,World.frozen?_setCells,Nat.add_assoc]; exact hfz _ (by omega)) h1v
  rw [← hW1] at hcp1
  have mixed:Tryz.prog.follows .mixedOrders=true:=by kernel_rfl
  go_enter Tryz.func100,Tryz.ntmps100
  go_wp2_with (simp only [hov])
  go_region_law_o (refine a4o rfl _ _ 81 81 rfl _ _ (by simp [Act.eval,Act.put]) (by simp [Act.eval,Act.put]) (hcp1 _ _ _) ?_)
  go_wp2_with (at_builtin; refine a29 _ rfl _ _ 81 81 rfl _ _ rfl rfl (hcp2 _ (fun _=>rfl) (fun _=>rfl) _ _) ?_)
  go_ret
  first|exact ⟨rfl,rfl⟩|exact ⟨rfl,by rw [hW1]⟩
end Go.Proofs.YtijlnmgondibnaaGreatDoor
namespace Go.Proofs.YtijlnmgondibnaaGreatDoor
open Go Go.Shelf Go.RowKit Go.Lib
set_option linter.unusedVariables false
set_option linter.unusedSimpArgs false
theorem b03 {z:Array Value} {k m:Nat} (h:z.size=k):(Builtin.zeroCells z m).size=m*k:=by
  simp [Builtin.zeroCells,h]
set_option maxHeartbeats 4000000 in
set_option maxRecDepth 100000 in
theorem c2R (b off n c i vb voff vc:Nat) (cs vs:List Value) (w:World) (hi:i<n) (hnc:n≤c) (hroom:c<n+1) (hbig:(n+1)*24≤140737488355328)
    (hcl:cs.length=n*2) (hvl:vs.length=2)
    (hcs:∀ j v,cs[j]?=some v→w.cell? ⟨b,off+j,none⟩=some v)
    (hvs:∀ j v,vs[j]?=some v→w.cell? ⟨vb,voff+j,none⟩=some v) (h1c:∀ v∈cs,v.oneCell'=true) (h1v:∀ v∈vs,v.oneCell'=true) :
    Calls Tryz.prog 100 #[.slice (some ⟨b,off,none⟩) n c,.int .i64 i,.slice (some ⟨vb,voff,none⟩) 1 vc] w fun e w' =>
      ∃ G Z,n+1≤G∧G≤maxLen∧Z.size=(G - i)*2∧e=.returned (.slice (some ⟨w.heap.size,0,none⟩) (n+1) G) ∧
      w'=(((w.alloc (.cells ((cs.take (i*2)).toArray++Z) 104)).drew.setCells w.heap.size (i*2) vs).drew).setCells w.heap.size ((i+1)*2) (cs.drop (i*2)):=by
  have hsz:(Tryz.prog.info? 104).map (·.size)=some 2:=by kernel_rfl
  have hal:(Tryz.prog.info? 104).map (fun i=>(i.size,i.bytes,i.zero.map (fun z=>z.cells.size)))=some (2,24,some 2):=by kernel_rfl
  have mixed:Tryz.prog.follows .mixedOrders=true:=by kernel_rfl
  obtain ⟨i0,hi0,hzs,hzb,z,hz0,hzc⟩:∃ i0,Tryz.prog.info? 104=some i0∧i0.size=2∧i0.bytes=24∧∃ z,i0.zero=some z∧z.cells.size=2:=by
    cases h:Tryz.prog.info? 104 with
    | none=>rw [h] at hal; cases hal
    | some i0 =>
      rw [h] at hal
      simp only [Option.map_some,Option.some.injEq,Prod.mk.injEq,Option.map_eq_some_iff] at hal
      obtain ⟨h1,h2,z,h3,h4⟩:=hal
      exact ⟨i0,rfl,h1,h2,z,h3,h4⟩
  have hz2:¬ ((i:Int)=(n:Int)):=by omega
  have hz3:(c:Int)<(n:Int)+(1:Int):=by omega
  have hbw:b<w.heap.size:=block_lt_of_cell (hcs 0 _ (List.getElem?_eq_getElem (by omega)))
  have hvw:vb<w.heap.size:=block_lt_of_cell (hvs 0 _ (List.getElem?_eq_getElem (by omega)))
  have hkk:(n:Int)+(1:Int) - (i:Int)=((n+1 - i:Nat):Int):=by omega
  have hik:i+(n+1 - i)=n+1:=by omega
  have htl:(cs.take (i*2)).length=i*2:=by rw [List.length_take,hcl]; omega
  have hold:(Builtin.firstCells i0.size i (.slice (some ⟨b,off,none⟩) i c)).run Tryz.prog w.drew=.ok (cs.take (i*2)).toArray w.drew:=by
    rw [hzs]
    exact run_firstCells_some w.drew 2 i ⟨b,off,none⟩ i c (cs.take (i*2)) htl (fun j v hj=>by
      rw [Addr.add_lit]
      rw [List.getElem?_take] at hj
      split at hj
      · exact hcs j v hj
      · cases hj)
  obtain ⟨G,hG⟩:∃ G,G=grownCap w (n+1) c 104:=⟨_,rfl⟩
  have hGn:n+1≤G:=by rw [hG]; exact grownCap_ge w _ _ _
  have hGm:G≤maxLen:=by
    rw [hG]; exact grownCap_le_maxLen w (n+1) c 104 (by unfold maxLen; omega)
  have hG63:G≤9223372036854775807:=hGm
  obtain ⟨Z,hZ⟩:∃ Z:Array Value,Z=Builtin.zeroCells z.cells (n+1 - i)++Builtin.zeroCells z.cells (G - (n+1)):=⟨_,rfl⟩
  have hZs:Z.size=(G - i)*2:=by rw [hZ,Array.size_append,b03 hzc,b03 hzc]; omega
  have hrz:∀ ty,(Builtin.append_ #[81,3] ty #[.slice (some ⟨b,off,none⟩) i c,.int .i64 ((n:Int)+(1:Int) - (i:Int))]).run Tryz.prog w =
      .ok (.slice (some ⟨w.heap.size,0,none⟩) (n+1) G) (w.drew.alloc (.cells ((cs.take (i*2)).toArray++Z) 104)):=fun ty=>by
    have h:=Lib.run_append_grow_zeros w 81 3 ty 104 i0 z .i64 .i64 Tryz.underlying81 Tryz.underlying3 hi0 hz0 (some ⟨b,off,none⟩) i c (cs.take (i*2)) hold (n+1 - i) (by omega) (by omega) (by omega) (by omega) (by rw [hzb]; omega) (by rw [hzb,hik]; exact growslice_fits hroom hbig)
    rw [hik,← hG,Array.append_assoc,← hZ] at h
    rw [hkk]
    exact h
  obtain ⟨ROW,hROW⟩:∃ ROW:Array Value,ROW=(cs.take (i*2)).toArray++Z:=⟨_,rfl⟩
  rw [← hROW] at hrz
  have hRl:(n+1)*2≤ROW.size:=by
    rw [hROW,Array.size_append,hZs,List.size_toArray,htl]
    omega
  obtain ⟨W1,hW1⟩:∃ W1,W1=w.drew.alloc (.cells ROW 104):=⟨_,rfl⟩
  rw [← hW1] at hrz
  have hN:∀ j,j<(n+1)*2→(W1.cell? ⟨w.heap.size,j,none⟩).isSome=true:=fun j hj=>by
    rw [hW1,World.cell?_alloc_at (w:=w.drew) ROW _ w.heap.size j rfl,Array.getElem?_eq_getElem (by omega)]; rfl
  have hNf:∀ j,W1.frozen? ⟨w.heap.size,j,none⟩=false:=fun j=>by rw [hW1]; exact World.frozen?_alloc_at (w:=w.drew) ROW _ w.heap.size j rfl
  have hOb:∀ j v,w.cell? ⟨b,j,none⟩=some v→W1.cell? ⟨b,j,none⟩=some v:=fun j v h=>by rw [hW1,World.cell?_alloc_past (w:=w.drew) _ b j hbw]; exact h
  have hOv:∀ j v,w.cell? ⟨vb,j,none⟩=some v→W1.cell? ⟨vb,j,none⟩=some v:=fun j v h=>by rw [hW1,World.cell?_alloc_past (w:=w.drew) _ vb j hvw]; exact h
  have hcpA:∀ (W:World),(∀ x,W.cell? x=W1.cell? x)→(∀ x,W.frozen? x=W1.frozen? x)→∀ ty dc,(Builtin.copy_ #[81,81] ty #[.slice (some ⟨w.heap.size,i*2,none⟩) (n+1 - i) dc,.slice (some ⟨vb,voff,none⟩) 1 vc]).run Tryz.prog W=.ok (goInt (Nat.min 1 (n+1 - i))) (W.setCells w.heap.size (i*2) vs):=fun W hWc hWf ty dc =>
    a2P W _ _ ty 104 2 w.heap.size (i*2) (n+1 - i) dc ⟨vb,voff,none⟩ 1 vc vs Tryz.underlying81 hsz (by rw [hvl]; simp only [Nat.min_def]; split<;>omega)
      (fun j v hj=>by rw [Addr.add_lit,hWc]; exact hOv _ v (hvs j v hj))
      (fun j hj=>by rw [hWc]; exact hN _ (by omega)) (fun j hj=>by rw [hWf]; exact hNf _) h1v
  have hGi:¬ (G=i):=by omega
  have hGim:¬ (G=i+1):=by omega
  have hci:¬ (c=i):=by omega
  have hbN:b≠w.heap.size:=by omega
  have hdl:(cs.drop (i*2)).length=(n - i)*2:=by rw [List.length_drop,hcl]; omega
  have hcpB:∀ (W:World),(∀ x,W.cell? x=(W1.setCells w.heap.size (i*2) vs).cell? x)→(∀ x,W.frozen? x=(W1.setCells w.heap.size (i*2) vs).frozen? x)→∀ ty dc sc,(Builtin.copy_ #[81,81] ty #[.slice (some ⟨w.heap.size,(i+1)*2,none⟩) (n - i) dc,.slice (some ⟨b,off+i*2,none⟩) (n - i) sc]).run Tryz.prog W=.ok (goInt (Nat.min (n - i) (n - i))) (W.setCells w.heap.size ((i+1)*2) (cs.drop (i*2))):=fun W hWc hWf ty dc sc =>
    a2P W _ _ ty 104 2 w.heap.size ((i+1)*2) (n - i) dc ⟨b,off+i*2,none⟩ (n - i) sc (cs.drop (i*2)) Tryz.underlying81 hsz (by rw [hdl]; simp only [Nat.min_def]; split<;>omega)
      (fun j v hj=>by
        rw [Addr.add_lit,hWc,World.cell?_setCells_out _ _ _ _ _ (fun h _=>absurd h hbN),Nat.add_assoc]
        exact hOb _ v (hcs (i*2+j) v (by rwa [List.getElem?_drop] at hj)))
      (fun j hj=>by rw [hWc]; exact a0u _ _ _ _ (fun t ht=>hN _ (by omega)) _ (hN _ (by omega)))
      (fun j hj=>by rw [hWf,World.frozen?_setCells]; exact hNf _) (fun v hv=>h1c v (List.mem_of_mem_drop hv))
  subst hW1
  have hE1:∀ x,((w.alloc (.cells ROW 104)).drew).cell? x=(w.drew.alloc (.cells ROW 104)).cell? x:=fun x=>rfl
  have hE2:∀ x,((w.alloc (.cells ROW 104)).drew).frozen? x=(w.drew.alloc (.cells ROW 104)).frozen? x:=fun x=>rfl
  have hF1:∀ x,(((w.alloc (.cells ROW 104)).drew.setCells w.heap.size (i*2) vs).drew).cell? x=((w.drew.alloc (.cells ROW 104)).setCells w.heap.size (i*2) vs).cell? x:=fun x=>rfl
  have hF2:∀ x,(((w.alloc (.cells ROW 104)).drew.setCells w.heap.size (i*2) vs).drew).frozen? x=((w.drew.alloc (.cells ROW 104)).setCells w.heap.size (i*2) vs).frozen? x:=fun x=>rfl
  have hw1:IntKind.i64.wrap ((i:Int)+(1:Int))=(i:Int)+(1:Int):=by rw [IntKind.wrap_i64]; omega
  have hb1:(0:Int)≤(i:Int)+(1:Int):=by omega
  have hin:i≤n:=by omega
  have htn:((i:Int)+(1:Int)).toNat=i+1:=by omega
  have hb3:(i:Int)≤(n:Int):=by omega
  suffices hfin:Calls Tryz.prog 100 #[.slice (some ⟨b,off,none⟩) n c,.int .i64 i,.slice (some ⟨vb,voff,none⟩) 1 vc] w fun e w'=>e=.returned (.slice (some ⟨w.heap.size,0,none⟩) (n+1) G) ∧
      w'=(((w.alloc (.cells ROW 104)).drew.setCells w.heap.size (i*2) vs).drew).setCells w.heap.size ((i+1)*2) (cs.drop (i*2)) by
    refine hfin.mono ?_
    rintro e w' ⟨rfl,rfl⟩
    exact ⟨G,Z,hGn,hGm,hZs,rfl,by rw [← hROW]⟩
  clear hkk hik hold hRl hal hsz hi0 hz0 hzs hzb hzc hG hZ hROW hZs
  go_enter Tryz.func100,Tryz.ntmps100
  go_wp2_with (first
    | (at_builtin; refine Lib.wpList_append_run _ rfl _ _ _ _ rfl _ _ rfl rfl _ _ (hrz _) ?_)
    | (at_builtin; refine a29 _ rfl _ _ 81 81 rfl _ _ rfl rfl (hcpA _ hE1 hE2 _ _) ?_))
  go_region_law_o (refine a4o rfl _ _ 81 81 rfl (.slice (some ⟨w.heap.size,(i+1)*2,none⟩) (n - i) (G - (i+1))) (.slice (some ⟨b,off+i*2,none⟩) (n - i) (c - i)) (by simp [Act.eval,Act.put]) (by simp [Act.eval,Act.put]) (hcpB _ hF1 hF2 3 (G - (i+1)) (c - i)) ?_)
  go_wp2
  go_ret
  exact ⟨rfl,rfl⟩
end Go.Proofs.YtijlnmgondibnaaGreatDoor
namespace Go.Proofs.YtijlnmgondibnaaGreatDoor
open Go.Ex
set_option maxRecDepth 100000
abbrev B9:=Int×List UInt8×Unit
def a8p (l:List B9) (i:Int) (m:List B9):List B9:=l.take i.toNat++m++l.drop i.toNat
theorem a0i (b:Nat):∀ (vs:List Value) (o:Nat) (w:World),(w.setCells b o vs).heap.size=w.heap.size∧(w.setCells b o vs).os=w.os∧(w.setCells b o vs).output=w.output∧(w.setCells b o vs).tape=w.tape∧(w.setCells b o vs).drawn=w.drawn ∧
    (∀ c,c≠b→(w.setCells b o vs).heap[c]?=w.heap[c]?)∧∀ arr T fz,w.heap[b]?=some (.cells arr T fz)→∃ arr',(w.setCells b o vs).heap[b]?=some (.cells arr' T fz)∧arr'.size=arr.size
  | [],_,_=>⟨rfl,rfl,rfl,rfl,rfl,fun _ _=>rfl,fun arr _ _ h=>⟨arr,h,rfl⟩⟩
  | v::r,o,w=>by
    obtain ⟨h1,h2,h3,h4,h5,h6,h7⟩:=a0i b r (o+1) (w.setCell ⟨b,o,none⟩ v)
    have e1:(w.setCell ⟨b,o,none⟩ v).heap.size=w.heap.size:=by simp [World.setCell]
    have e2:∀ c,c≠b→(w.setCell ⟨b,o,none⟩ v).heap[c]?=w.heap[c]?:=fun c hc=>by
      simp only [World.setCell,Array.getElem?_modify,if_neg (Ne.symm hc)]
    refine ⟨h1.trans e1,h2,h3,h4,h5,fun c hc=>(h6 c hc).trans (e2 c hc),fun arr T fz h=>?_⟩
    have:(w.setCell ⟨b,o,none⟩ v).heap[b]?=some (.cells (arr.setIfInBounds o v) T fz):=by
      simp [World.setCell,Array.getElem?_modify,h]
    obtain ⟨arr',g1,g2⟩:=h7 _ T fz this
    exact ⟨arr',g1,by rw [g2,Array.size_setIfInBounds]⟩
theorem a9O {w:World} {b off:Nat} {arr:Array Value} {T:TypeId} {fz:Nat×Nat} (h:w.heap[b]?=some (.cells arr T fz)) {F:List Value} {n:Nat} (hn:F.length=n) (hc:∀ j,j<n→w.cell? ⟨b,off+j,none⟩=F[j]?):d8 w.heap b off n=F:=by
  have hcell:∀ k,w.cell? ⟨b,k,none⟩=arr[k]?:=fun k=>by simp [World.cell?,h]
  simp only [d8,s5,h]
  apply List.ext_getElem?
  intro j
  rw [List.getElem?_take,List.getElem?_drop]
  by_cases hj:j<n
  · rw [if_pos hj,← hc j hj,hcell,Array.getElem?_toList]
  · rw [if_neg hj,List.getElem?_eq_none (by omega)]
theorem a9P {α:Type} (A B C:List α) (j:Nat):(A++B++C)[j]?=if j<A.length then A[j]? else if j<A.length+B.length then B[j - A.length]? else C[j - (A.length+B.length)]?:=by
  rw [List.getElem?_append,List.getElem?_append,List.length_append]
  split<;>split<;>first|rfl|omega|(split<;>first|rfl|omega)
theorem b6U {w:World} {S:Nat→Prop} {t:Ty} (ht:t.shared=true) {L:List Nat} {cs:List Value} {l:List t.den} (h:f7 w.heap S (.d0 true t) L cs l) (hl:0<l.length) :
    ∃ b off cap,L=[b]∧cs=[.slice (some ⟨b,off,none⟩) l.length cap]∧l.length≤cap∧a7v true cap∧i7 (f7 w.heap S t) t.size [] (d8 w.heap b off (l.length*t.size)) l∧Q8 t.isB w.heap b (off+cap*t.size):=by
  rcases h with ⟨_,_,rfl⟩|⟨b,off,cap,O',h1,h2,h3,h4,h5,h6,h7⟩
  · simp at hl
  have hO:O'=[]:=i7.J5 (fun _ _ _ hr=>f7.J5 ht hr) h5
  subst hO
  exact ⟨b,off,cap,h6,h1,h2,h3,h5,h7⟩
def a7p:p7:={ ps:=[.own (.d0 true u5),.v e8,.own (.d0 true u5)],rs:=[.d0 true u5],pre:=fun x=>(LE.le (α:=Int) 0 x.2.1∧LT.lt (α:=Int) x.2.1 (List.length (α:=B9) x.1))∧List.length (α:=B9) x.1≤1000∧List.length (α:=B9) x.2.2.1=1,fn:=fun x=>(a8p x.1 x.2.1 x.2.2.1,()),out:=fun _=>() }
theorem b6T {w w':World} {L:List Nat} (h1:w'.os=w.os) (h2:w'.tape=w.tape) (h3:w.drawn≤w'.drawn) (h4:w'.output=w.output) (h5:w.heap.size≤w'.heap.size) (h6:∀ c,c<w.heap.size→c∉L→w'.heap[c]?=w.heap[c]?):y8 L w w':=⟨h1,⟨h2,h3⟩,h4,h5,h6⟩
theorem a7Q:a7p.Valid Tryz.prog 100:=by
  refine ⟨⟨_,Tryz.func100,by kernel_rfl,by kernel_rfl⟩,?_,fun h=>by cases h⟩
  rintro w S vs ⟨(l:List B9),(i0:Int),(m:List B9),⟨⟩⟩ L hS - ⟨⟨(p0:0≤i0),(p1:i0<(l.length:Int))⟩,(p2:l.length≤1000),(p3:m.length=1)⟩ hks - hnd hL
  obtain ⟨v1,us,L1,L2,rfl,rfl,⟨cs1,rfl,r1⟩,v2,us,L3,L4,rfl,rfl,⟨rfl,cs2,rfl,r2⟩,v3,us,L5,L6,rfl,rfl,⟨cs3,rfl,r3⟩,rfl,rfl⟩:=hks
  obtain ⟨i,rfl⟩:∃ i:Nat,i0=i:=⟨i0.toNat,by omega⟩
  have r1:f7 w.heap S (.d0 true u5) L1 cs1 l:=r1
  have r3:f7 w.heap S (.d0 true u5) L5 cs3 m:=r3
  obtain ⟨b,off,cap,rfl,rfl,c2,c3,c4,c5⟩:=b6U rfl r1 (by omega)
  obtain ⟨vb,voff,vc,rfl,rfl,d2,d3,d4,d5⟩:=b6U rfl r3 (by omega)
  obtain ⟨-,rfl,-⟩:=r2
  have hsz:Ty.size u5=2:=rfl
  have c4:i7 (f7 w.heap S u5) 2 [] (d8 w.heap b off (l.length*2)) l:=c4
  have c5:Q8 false w.heap b (off+cap*2):=c5
  have d5:Q8 false w.heap vb (voff+vc*2):=d5
  have d4:i7 (f7 w.heap S u5) 2 [] (d8 w.heap vb voff (1*2)) m:=by rw [← p3]; exact d4
  have hvb:vb≠b:=by
    rintro rfl
    simp at hnd
  have hbS:=hL b (by simp)
  have hvS:=hL vb (by simp)
  obtain ⟨arr,T,⟨fz,e1,ef⟩,en⟩:=c5
  obtain rfl:fz=(0,0):=ef.elim id (fun h=>by cases h.1)
  obtain ⟨varr,vT,⟨vfz,g1,gf⟩,gn⟩:=d5
  obtain rfl:vfz=(0,0):=gf.elim id (fun h=>by cases h.1)
  rw [p3]
  have hcap:cap≤maxLen:=c3.1
  have hcl:(d8 w.heap b off (l.length*2)).length=l.length*2:=i7.length (fun _ _ _ h=>h.length) c4
  have hvl:(d8 w.heap vb voff (1*2)).length=2:=by have:=i7.length (fun _ _ _ h=>h.length) d4; rw [p3] at this; exact this
  have hpl:=i7.plain (fun _ _ _ hr=>hr.plain) c4
  have hpv:=i7.plain (fun _ _ _ hr=>hr.plain) d4
  have hcell:∀ k,w.cell? ⟨b,k,none⟩=arr[k]?:=fun k=>by simp [World.cell?,e1]
  have hfro:∀ k,w.frozen? ⟨b,k,none⟩=false:=fun k=>by simp [World.frozen?,e1]
  have hfrv:∀ k,w.frozen? ⟨vb,k,none⟩=false:=fun k=>by simp [World.frozen?,g1]
  have hcs:∀ j v,(d8 w.heap b off (l.length*2))[j]?=some v→w.cell? ⟨b,off+j,none⟩=some v:=fun j v h=>J8 h
  have hvs:∀ j v,(d8 w.heap vb voff (1*2))[j]?=some v→w.cell? ⟨vb,voff+j,none⟩=some v:=fun j v h=>J8 h
  have hfn:a7p.fn (l,(i:Int),m,())=(l.take i++m++l.drop i,()):=rfl
  have hil:i<l.length:=by omega
  -- the parts
  obtain ⟨q1,q2⟩:i7 (f7 w.heap S u5) 2 [] ((d8 w.heap b off (l.length*2)).take (i*2)) (l.take i)∧i7 (f7 w.heap S u5) 2 [] ((d8 w.heap b off (l.length*2)).drop (i*2)) (l.drop i):=by
    obtain ⟨P1,P2,P3,e,k1,k2,k3⟩:=i7.split (d:=((0:Int),([]:List UInt8),())) hil c4
    have e:=e.symm
    simp only [List.append_eq_nil_iff] at e
    obtain ⟨rfl,rfl,rfl⟩:=e
    refine ⟨k1,?_⟩
    have h9:l.drop i=l.getD i (0,[],())::l.drop (i+1):=by
      rw [List.drop_eq_getElem_cons hil,List.getD_eq_getElem?_getD,List.getElem?_eq_getElem hil]; rfl
    rw [h9]
    refine ⟨[],[],rfl,k2,?_⟩
    rw [List.drop_drop,show i*2+2=(i+1)*2 by omega]
    exact k3
  have hrow:i7 (f7 w.heap S u5) 2 [] ((d8 w.heap b off (l.length*2)).take (i*2)++d8 w.heap vb voff (1*2)++(d8 w.heap b off (l.length*2)).drop (i*2)) (l.take i++m++l.drop i):=by
    have h1:=i7.append (fun _ _ _ h=>h.length) q1 d4
    exact i7.append (fun _ _ _ h=>h.length) h1 q2
  have hlen:(l.take i++m++l.drop i).length=l.length+1:=by simp only [List.length_append,List.length_take,List.length_drop]; omega
  have htl:((d8 w.heap b off (l.length*2)).take (i*2)).length=i*2:=by rw [List.length_take,hcl]; omega
  have hdl:((d8 w.heap b off (l.length*2)).drop (i*2)).length=(l.length - i)*2:=by rw [List.length_drop,hcl]; omega
  -- what is left to say where the row lies in block c of the new world
  have fin:∀ {w':World} {c o G:Nat} {arr':Array Value} {T':TypeId},y8 [b,vb] w w'→(c=b∨w.heap.size≤c)→l.length+1≤G→G≤maxLen→w'.heap[c]?=some (.cells arr' T' (0,0))→o+G*2≤arr'.size →
      d8 w'.heap c o ((l.length+1)*2)=(d8 w.heap b off (l.length*2)).take (i*2)++d8 w.heap vb voff (1*2)++(d8 w.heap b off (l.length*2)).drop (i*2) →
      a2Z w S a7p.rs a7p.ps [j7 (.d0 true u5) [.slice (some ⟨b,off,none⟩) l.length cap],j7 e8 [.int .i64 i],j7 (.d0 true u5) [.slice (some ⟨vb,voff,none⟩) 1 vc]] [b,vb] (a7p.fn (l,(i:Int),m,())) (a7p.out (l,(i:Int),m,())) (.returned (.slice (some ⟨c,o,none⟩) (l.length+1) G)) w':=by
    intro w' c o G arr' T' hp hc hG hGm ha hs hcl'
    have hsh:∀ {cs:List Value} {l':List B9},i7 (f7 w.heap S u5) 2 [] cs l'→i7 (f7 w'.heap S u5) 2 [] cs l':=fun hr=>i7.mono (L:=[]) (fun _ h=>h) (fun O cs x hO hr=>hr.r7 (fun d hd=>by
      rcases hd with hd|hd
      · exact absurd (hO d hd) (by simp)
      · refine hp.frame d (hS d hd) (fun hm=>?_)
        rcases List.mem_cons.1 hm with rfl|hm
        · exact hbS.1 hd
        · rw [List.mem_singleton] at hm; subst hm; exact hvS.1 hd) (fun _ h=>h)) hr
    refine ⟨[.slice (some ⟨c,o,none⟩) (l.length+1) G],[c],[],S,rfl,hp,fun _ h=>h,fun _ h=>.inl h,⟨_,[],[c],[],[.slice (some ⟨c,o,none⟩) (l.length+1) G],rfl,rfl,rfl,?_,rfl,rfl⟩,⟨_,_,rfl,_,_,rfl,_,_,rfl,rfl,rfl⟩,by simp,?_⟩
    · rw [hfn]
      refine .inr ⟨c,o,G,[],by rw [hlen],by rw [hlen]; exact hG,⟨hGm,fun _=>by omega⟩,?_,?_,rfl,arr',T',⟨(0,0),ha,.inl rfl⟩,hs⟩
      · rw [hlen,hsz]; simp only [s5,ha,Array.length_toList]; omega
      · rw [hlen,hsz,hcl']; exact hsh hrow
    · intro d hd
      simp only [List.append_nil,List.mem_singleton] at hd
      subst hd
      refine ⟨fun h=>?_,?_,?_⟩
      · rcases hc with rfl|hc
        · exact hbS.1 h
        · have:=hS d h; omega
      · rcases hc with rfl|hc
        · right; simp
        · left; exact hc
      · exact (Array.getElem?_eq_some_iff.1 ha).1
  by_cases hroom:l.length+1≤cap
  · have hm2:(l.length+1)*2≤cap*2:=Nat.mul_le_mul_right _ hroom
    refine (c1c b off l.length cap i vb voff vc (d8 w.heap b off (l.length*2)) (d8 w.heap vb voff (1*2)) w hil hroom hcap hvb hcl hvl hcs
      (fun j hj=>by rw [hcell,Array.getElem?_eq_getElem (by omega)]; rfl) (fun j _=>hfro _) hvs (fun v hv=>(hpl v hv).1) (fun v hv=>(hpv v hv).1)
      vT T varr.size arr.size (by simp [World.shape?,g1]) (by simp [World.shape?,e1]) (by omega) (hfrv _) (hfrv _)).mono ?_
    rintro e w' ⟨rfl,rfl⟩
    obtain ⟨A1,A2,A3,A4,A5,A6,A7⟩:=a0i b ((d8 w.heap b off (l.length*2)).drop (i*2)) (off+(i+1)*2) w.drew
    obtain ⟨B1,B2,B3,B4,B5,B6,B7⟩:=a0i b (d8 w.heap vb voff (1*2)) (off+i*2) (w.drew.setCells b (off+(i+1)*2) ((d8 w.heap b off (l.length*2)).drop (i*2)))
    obtain ⟨arr1,x1,x2⟩:=A7 arr T (0,0) e1
    obtain ⟨arr2,y1,y2⟩:=B7 arr1 T (0,0) x1
    have hsome:∀ k,off+k<off+cap*2→(w.drew.cell? ⟨b,off+k,none⟩).isSome=true:=fun k hk=>by
      show (w.cell? ⟨b,off+k,none⟩).isSome=true
      rw [hcell,Array.getElem?_eq_getElem (by omega)]; rfl
    have hsome1:∀ k,off+k<off+cap*2→((w.drew.setCells b (off+(i+1)*2) ((d8 w.heap b off (l.length*2)).drop (i*2))).cell? ⟨b,off+k,none⟩).isSome=true:=fun k hk =>
      a0u b _ _ _ (fun j hj=>by rw [hdl] at hj; rw [Nat.add_assoc]; exact hsome _ (by omega)) _ (hsome k hk)
    refine fin (T':=T) (arr':=arr2) ?_ (.inl rfl) hroom hcap y1 (by rw [y2,x2]; exact en) ?_
    · refine b6T (B2.trans A2) (B4.trans A4) (by rw [B5,A5]; exact Nat.le_succ _) (B3.trans A3) (by rw [B1,A1]; exact Nat.le_refl _) (fun c hc hn=>?_)
      have hcb:c≠b:=fun e=>hn (by simp [e])
      exact (B6 c hcb).trans (A6 c hcb)
    · refine a9O y1 (by rw [List.length_append,List.length_append,htl,hvl,hdl]; omega) (fun j hj=>?_)
      rw [a9P,htl,hvl]
      by_cases k1:j<i*2
      · rw [if_pos k1,World.cell?_setCells_out b _ _ _ _ (fun _ _=>.inl (by show off+j<_; omega)),World.cell?_setCells_out b _ _ _ _ (fun _ _=>.inl (by show off+j<_; omega)),List.getElem?_take,if_pos k1]
        have hj2:j<(d8 w.heap b off (l.length*2)).length:=by omega
        rw [List.getElem?_eq_getElem hj2]
        exact hcs j _ (List.getElem?_eq_getElem hj2)
      · rw [if_neg k1]
        by_cases k2:j<i*2+2
        · rw [if_pos k2]
          have:=World.cell?_setCells_in b (d8 w.heap vb voff (1*2)) (off+i*2) (w.drew.setCells b (off+(i+1)*2) ((d8 w.heap b off (l.length*2)).drop (i*2))) (fun j hj=>by rw [Nat.add_assoc]; exact hsome1 _ (by omega)) (j - i*2) (by omega)
          rw [show off+i*2+(j - i*2)=off+j by omega] at this
          rw [this,List.getElem?_eq_getElem]
        · rw [if_neg k2,World.cell?_setCells_out b _ _ _ _ (fun _ _=>.inr (by show _≤off+j; rw [hvl]; omega))]
          have:=World.cell?_setCells_in b ((d8 w.heap b off (l.length*2)).drop (i*2)) (off+(i+1)*2) w.drew (fun j hj=>by rw [hdl] at hj; rw [Nat.add_assoc]; exact hsome _ (by omega)) (j - (i*2+2)) (by omega)
          rw [show off+(i+1)*2+(j - (i*2+2))=off+j by omega] at this
          rw [this,List.getElem?_eq_getElem]
  · refine (c2R b off l.length cap i vb voff vc (d8 w.heap b off (l.length*2)) (d8 w.heap vb voff (1*2)) w hil c2 (by omega) (by omega) hcl hvl hcs hvs (fun v hv=>(hpl v hv).1) (fun v hv=>(hpv v hv).1)).mono ?_
    rintro e w' ⟨G,Z,z1,z2,z3,rfl,rfl⟩
    generalize hrowA:((d8 w.heap b off (l.length*2)).take (i*2)).toArray++Z=ROW
    have hRs:ROW.size=G*2:=by rw [← hrowA,Array.size_append,List.size_toArray,htl,z3]; omega
    generalize hN:w.heap.size=N
    have n1:((w.alloc (.cells ROW 104)).drew).heap[N]?=some (.cells ROW 104 (0,0)):=by
      show (w.heap.push _)[N]?=_
      rw [← hN]; simp
    have n2:∀ c,c<N→((w.alloc (.cells ROW 104)).drew).heap[c]?=w.heap[c]?:=fun c hc=>by
      show (w.heap.push _)[c]?=_
      rw [Array.getElem?_push,if_neg (by omega)]
    have n3:((w.alloc (.cells ROW 104)).drew).heap.size=N+1:=by show (w.heap.push _).size=_; rw [Array.size_push,hN]
    obtain ⟨A1,A2,A3,A4,A5,A6,A7⟩:=a0i N (d8 w.heap vb voff (1*2)) (i*2) ((w.alloc (.cells ROW 104)).drew)
    generalize hW1:((w.alloc (.cells ROW 104)).drew).setCells N (i*2) (d8 w.heap vb voff (1*2))=W1 at *
    obtain ⟨B1,B2,B3,B4,B5,B6,B7⟩:=a0i N ((d8 w.heap b off (l.length*2)).drop (i*2)) ((i+1)*2) W1.drew
    obtain ⟨arr1,x1,x2⟩:=A7 ROW 104 (0,0) n1
    obtain ⟨arr2,y1,y2⟩:=B7 arr1 104 (0,0) x1
    have hcN:∀ k,((w.alloc (.cells ROW 104)).drew).cell? ⟨N,k,none⟩=ROW[k]?:=fun k=>by simp only [World.cell?,n1]; rfl
    have hsome:∀ k,k<G*2→(((w.alloc (.cells ROW 104)).drew).cell? ⟨N,k,none⟩).isSome=true:=fun k hk=>by
      rw [hcN,Array.getElem?_eq_getElem (by omega)]; rfl
    have hsome1:∀ k,k<G*2→(W1.drew.cell? ⟨N,k,none⟩).isSome=true:=fun k hk=>by
      show (W1.cell? ⟨N,k,none⟩).isSome=true
      rw [← hW1]
      exact a0u N _ _ _ (fun j hj=>hsome _ (by omega)) _ (hsome k hk)
    refine fin (c:=N) (o:=0) (G:=G) (T':=104) (arr':=arr2) ?_ (.inr (by omega)) z1 z2 y1 (by rw [y2,x2,hRs]; omega) ?_
    · refine b6T (B2.trans A2) (B4.trans A4) (by rw [B5]; show _≤W1.drawn+1; rw [A5]; show w.drawn≤w.drawn+1+1; omega) (B3.trans A3) (by rw [B1]; show _≤W1.heap.size; rw [A1,n3]; omega) (fun c hc hn=>?_)
      have hcb:c≠N:=by omega
      exact (B6 c hcb).trans ((A6 c hcb).trans (n2 c (by omega)))
    · refine a9O y1 (by rw [List.length_append,List.length_append,htl,hvl,hdl]; omega) (fun j hj=>?_)
      rw [a9P,htl,hvl,Nat.zero_add]
      by_cases k1:j<i*2
      · rw [if_pos k1,World.cell?_setCells_out N _ _ _ _ (fun _ _=>.inl (by show j<_; omega))]
        show W1.cell? ⟨N,j,none⟩=_
        rw [← hW1,World.cell?_setCells_out N _ _ _ _ (fun _ _=>.inl (by show j<_; omega)),hcN,← hrowA]
        rw [Array.getElem?_append,if_pos (by rw [List.size_toArray,htl]; exact k1),List.getElem?_toArray]
      · rw [if_neg k1]
        by_cases k2:j<i*2+2
        · rw [if_pos k2,World.cell?_setCells_out N _ _ _ _ (fun _ _=>.inl (by show j<_; omega))]
          show W1.cell? ⟨N,j,none⟩=_
          have:=World.cell?_setCells_in N (d8 w.heap vb voff (1*2)) (i*2) ((w.alloc (.cells ROW 104)).drew) (fun j hj=>hsome _ (by omega)) (j - i*2) (by omega)
          rw [hW1,show i*2+(j - i*2)=j by omega] at this
          rw [this,List.getElem?_eq_getElem]
        · rw [if_neg k2]
          have:=World.cell?_setCells_in N ((d8 w.heap b off (l.length*2)).drop (i*2)) ((i+1)*2) W1.drew (fun j hj=>by rw [hdl] at hj; exact hsome1 _ (by omega)) (j - (i*2+2)) (by omega)
          rw [show (i+1)*2+(j - (i*2+2))=j by omega] at this
          rw [this,List.getElem?_eq_getElem]
def c4B:p7:={ ps:=[.own (.d0 true u5),.v e8,.own (.d0 true u5)],rs:=[.d0 true u5],pre:=fun x=>x.2.1=(List.length (α:=B9) x.1:Int)∧List.length (α:=B9) x.1≤1000∧List.length (α:=B9) x.2.2.1=1,fn:=fun x=>(a8p x.1 x.2.1 x.2.2.1,()),out:=fun _=>() }
noncomputable def b95:Env:={ P:=Tryz.prog,tt:=tt,C0:=[],res:=[Go.ResultVar.tmp 6],rs:=[Ty.d0 true u5],ps:=[PK.own (Ty.d0 true u5),PK.v e8,PK.own (Ty.d0 true u5)],y6:=[],nt:=95 }
theorem b49:u7 b95:=x6 p9 trivial
theorem b4M:B0 b95 Tryz.f100:=⟨rfl,rfl⟩
theorem c5P (x0:List (Int×List UInt8×Unit)) (x1:Int) (x2:List (Int×List UInt8×Unit)):exec b95 1000 [.code (d9 Tryz.prog 100)] (s6 c4B.ps ((x0,x1,x2,()))) =
  .f6 ((0:Int)≤x1∧x1≤(↑(List.length x0):Int)∧(↑(List.length x0):Int)≤(↑(List.length x0):Int)) (cond (decide ((↑(List.length x2):Int)=(0:Int))) (.ret ((x0,()))) (cond (decide (x1=(↑(List.length x0):Int))) (.f6 (List.length x0+List.length x2≤140737488355328∧(List.length x0+List.length x2)*Ty.wb u5≤140737488355328) (.ret ((x0++x2,())))) (.f6 (q9 IntKind.i64 ((↑(List.length x0):Int)+(↑(List.length x2):Int))) (.stuck "cap")))):=by kernel_rfl
theorem b6e:c4B.Valid Tryz.prog 100:=by
  refine p7.o6 b49 rfl rfl Tryz.func100 (c:=d9 Tryz.prog 100) rfl rfl b4M rfl ?_
  rintro ⟨(l:List B9),(i:Int),(m:List B9),⟨⟩⟩ ⟨(p1:i=(l.length:Int)),(p2:l.length≤1000),(p3:m.length=1)⟩ -
  subst p1
  refine j5 (n:=1000) b49 b4M ?_
  refine g9 (c5P l (l.length:Int) m) ?_
  have w24:Ty.wb u5=24:=rfl
  simp only [j8,Tree.holds,true_and,true_implies,decide_eq_true_eq,decide_eq_false_iff_not,Bool.not_eq_true',Bool.not_eq_false',Int.toNat_natCast,j9,List.length_set,List.length_cons,List.length_nil,w24]
  refine ⟨by omega,fun _=>⟨fun h=>absurd h (by omega),fun _=>⟨⟨⟨by omega,by omega⟩,fun _=>?_⟩,fun h=>absurd trivial h⟩⟩⟩
  show ((l++m,()):List B9×Unit)=(a8p l (l.length:Int) m,())
  unfold a8p
  rw [Int.toNat_natCast,List.take_length,List.drop_length,List.append_nil]
def c6y:p7:={ ps:=[.own (.d0 true u5),.v e8,.own (.d0 true u5)],rs:=[.d0 true u5],pre:=fun x=>(LE.le (α:=Int) 0 x.2.1∧LE.le (α:=Int) x.2.1 (List.length (α:=B9) x.1))∧List.length (α:=B9) x.1≤1000∧List.length (α:=B9) x.2.2.1=1,fn:=fun x=>(a8p x.1 x.2.1 x.2.2.1,()),out:=fun _=>() }
theorem b9j:c6y.Valid Tryz.prog 100:=by
  refine ⟨a7Q.ent,?_,fun h=>by cases h⟩
  rintro w S vs ⟨(l:List B9),(i:Int),(m:List B9),⟨⟩⟩ L hS hgl ⟨⟨(p0:0≤i),(p1:i≤(l.length:Int))⟩,(p2:l.length≤1000),(p3:m.length=1)⟩ hks hlk hnd hL
  by_cases h:i<(l.length:Int)
  · exact a7Q.run w S vs (l,i,m,()) L hS hgl ⟨⟨p0,h⟩,p2,p3⟩ hks hlk hnd hL
  · exact b6e.run w S vs (l,i,m,()) L hS hgl ⟨by show i=(l.length:Int); omega,p2,p3⟩ hks hlk hnd hL
theorem c58:Ty.wb u5=24:=rfl
def b89:p7:={ ps:=[.v (.d0 false u5)],rs:=[.d0 true u5],pre:=fun x=>List.length (α:=u4) x.1≤1048576,fn:=fun x=>x,out:=fun _=>() }
noncomputable def b9X:Env:={ P:=Tryz.prog,tt:=tt,C0:=[],res:=[Go.ResultVar.tmp 2],rs:=[Ty.d0 true u5],ps:=[PK.v N5],y6:=[],nt:=8 }
theorem b42:u7 b9X:=x6 p9 trivial
theorem b4H:B0 b9X Tryz.f97:=⟨rfl,rfl⟩
theorem c5J (x0:List (Int×List UInt8×Unit)):exec b9X 1000 [.code (d9 Tryz.prog 97)] (s6 b89.ps ((x0,()))) =
  .both (x0=[]) (.ret (([],()))) (.f6 ((0:Nat)+List.length x0≤140737488355328∧((0:Nat)+List.length x0)*Ty.wb u5≤140737488355328) (.ret (([]++x0,())))):=by kernel_rfl
theorem b55:b89.Valid Tryz.prog 97:=by
  refine p7.o6 b42 rfl rfl Tryz.func97 (c:=d9 Tryz.prog 97) rfl rfl b4H rfl ?_
  rintro ⟨(l:List (u4)),⟨⟩⟩ hp -
  have hp:l.length≤1048576:=hp
  refine j5 (n:=1000) b42 b4H ?_
  refine g9 (c5J l) ?_
  simp only [j8,Tree.holds,true_and,true_implies,decide_eq_true_eq,decide_eq_false_iff_not,Bool.not_eq_true',Bool.not_eq_false',Int.toNat_natCast,j9,List.length_set,List.length_cons,List.length_nil,c58]
  refine ⟨fun h=>?_,by omega,fun _=>rfl⟩
  show (([],()):List (u4)×Unit)=(l,())
  rw [show l=[] from h]
def b38:p7:={ ps:=[.v ToT,.v u5],rs:=[ToO,.d0 true .str,e8],pre:=fun _=>True,fn:=fun x=>C3 x.1 x.2.1,out:=fun _=>() }
noncomputable def b0c:Env:={ P:=Tryz.prog,tt:=tt,C0:=[(96,c3j),(75,b39),(59,a4F),(97,b89),(98,c3u),(100,c6y)],res:=[Go.ResultVar.cell 4 83,Go.ResultVar.tmp 5,Go.ResultVar.tmp 6],rs:=[Ty.pair e8 (Ty.pair (Ty.d0 true u5) Ty.unit),Ty.d0 true Ty.str,Ty.int IntKind.i64],ps:=[PK.v ToT,PK.v u5],y6:=[(17,[(4,none),(8,none),(11,some (Ty.d0 true Ty.str))])],nt:=116 }
theorem a6Y:u7 b0c:=x6 p9 ⟨b8Y,a5q,a1F,b55,b9u,b9j,trivial⟩
theorem a6V:B0 b0c Tryz.f83:=⟨rfl,rfl⟩
theorem c3Q (x0_1:Int) (x0_2_1:List (Int×List UInt8×Unit)) (x1_1:Int) (x1_2_1:List UInt8):exec b0c 1000 [.code (d9 Tryz.prog 83)] (s6 b38.ps (((x0_1,x0_2_1,()),(x1_1,x1_2_1,()),()))) =
  .f6 (True) (cond (decide (toE (x0_1,x0_2_1,())≠(0:Int))) (.ret ((((0:Int),[],()),[],toE (x0_1,x0_2_1,()),()))) (.f6 (True) (cond (!V6 x1_1 (0:Int) (16777214:Int)) (.ret ((((0:Int),[],()),[],(1:Int),()))) (.f6 (True) (cond (D5 x1_2_1) (.ret ((((0:Int),[],()),[],(2:Int),()))) (.f6 (List.length x0_2_1≤1048576) (.f6 ((List.length x0_2_1≤1000∧sorted x0_2_1)∧(-100000000:Int)≤x1_1∧x1_1≤(100000000:Int)) (cond (decide (x1_1<x0_1)) (.ret (((x0_1,x0_2_1,()),[],(0:Int),()))) (.f6 (q9 IntKind.i64 (x0_1+(16:Int))) (cond (decide (x0_1+(16:Int)≤x1_1)) (.ret (((x0_1,x0_2_1,()),[],(0:Int),()))) (cond (W3 x1_1 x0_2_1) (.ret (((x0_1,x0_2_1,()),[],(0:Int),()))) (cond (decide (x0_1<x1_1)) (.f6 (((0:Int)≤(↑(atF x1_1 x0_2_1):Int)∧(↑(atF x1_1 x0_2_1):Int)≤(↑(List.length x0_2_1):Int))∧List.length x0_2_1≤1000∧List.length (List.set [((0:Int),[],())] (Int.toNat (↑0:Int)) (x1_1,x1_2_1,()))=1) (.ret (((x0_1,a8p x0_2_1 (↑(atF x1_1 x0_2_1):Int) (List.set [((0:Int),[],())] (Int.toNat (↑0:Int)) (x1_1,x1_2_1,())),()),[],(0:Int),())))) (.f6 (q9 IntKind.i64 (x0_1+(1:Int))) (.ctL (f9 (d9 Tryz.prog 83) 17) (St.mk [(4,AV.ptr 4 []),(8,AV.ptr 8 []),(11,AV.at_ 1000011 [])] [(4,g8.var ToO ((0:Int),[],())),(8,g8.var ToO (x0_1+(1:Int),x0_2_1,())),(1000011,g8.own (Ty.d0 true Ty.str) (List.set [[]] (Int.toNat (↑0:Int)) x1_2_1))]))))))))))))))):=by kernel_rfl
def b0b (o4_1:Int) (o4_2_1:List (Int×List UInt8×Unit)) (o8_1:Int) (o8_2_1:List (Int×List UInt8×Unit)) (oy011:List (List UInt8)):St:=St.mk [(4,AV.ptr 4 []),(8,AV.ptr 8 []),(11,AV.at_ 1000011 [])] [(4,g8.var ToO (o4_1,o4_2_1,())),(8,g8.var ToO (o8_1,o8_2_1,())),(1000011,g8.own (Ty.d0 true Ty.str) oy011)]
theorem b91 (o4_1:Int) (o4_2_1:List (Int×List UInt8×Unit)) (o8_1:Int) (o8_2_1:List (Int×List UInt8×Unit)) (oy011:List (List UInt8)):exec b0c 1000 (.code (f9 (d9 Tryz.prog 83) 17).1::.inLoop (f9 (d9 Tryz.prog 83) 17).1::(f9 (d9 Tryz.prog 83) 17).2) (b0b o4_1 o4_2_1 o8_1 o8_2_1 oy011) =
  cond (decide ((0:Int)<(↑(List.length o8_2_1):Int))) (.f6 ((0:Int)≤(0:Int)∧(0:Int)<(↑(List.length o8_2_1):Int)) (cond (decide (Prod.fst (List.getD o8_2_1 (Int.toNat (0:Int)) ((0:Int),[],()))=o8_1)) (.f6 ((0:Int)≤(0:Int)∧(0:Int)<(↑(List.length o8_2_1):Int)) (.f6 (List.length oy011+List.length (List.set [[]] (Int.toNat (↑0:Int)) (Prod.fst (Prod.snd (List.getD o8_2_1 (Int.toNat (0:Int)) ((0:Int),[],())))))≤140737488355328∧(List.length oy011+List.length (List.set [[]] (Int.toNat (↑0:Int)) (Prod.fst (Prod.snd (List.getD o8_2_1 (Int.toNat (0:Int)) ((0:Int),[],()))))))*Ty.wb Ty.str≤140737488355328) (.f6 ((0:Int)≤(1:Int)∧(1:Int)≤(↑(List.length o8_2_1):Int)∧(↑(List.length o8_2_1):Int)≤(↑(List.length o8_2_1):Int)) (.f6 ([]++[Step.l7 1]=[]++[Step.l7 1]∧True) (.f6 (q9 IntKind.i64 (o8_1+(1:Int))) (.ctL (f9 (d9 Tryz.prog 83) 17) (St.mk [(4,AV.ptr 4 []),(8,AV.ptr 8 []),(11,AV.at_ 1000011 [])] [(4,g8.var ToO (o4_1,o4_2_1,())),(8,g8.var ToO (o8_1+(1:Int),n7 (1:Int) (↑(List.length o8_2_1):Int) o8_2_1,())),(1000011,g8.own (Ty.d0 true Ty.str) (oy011++List.set [[]] (Int.toNat (↑0:Int)) (Prod.fst (Prod.snd (List.getD o8_2_1 (Int.toNat (0:Int)) ((0:Int),[],()))))))]))))))) (.f6 (List.length o8_2_1≤1048576) (.ret (((o8_1,o8_2_1,()),oy011,(0:Int),())))))) (.f6 (List.length o8_2_1≤1048576) (.ret (((o8_1,o8_2_1,()),oy011,(0:Int),())))):=by kernel_rfl
theorem c6E {n:Int} {l:List u4}:atF n l≤l.length:=by
  rw [atF]; exact (List.takeWhile_sublist _).length_le
theorem b4A.sorted {r:Int} {l:List u4} (h:b4A r l):sorted l:=⟨b5H h.up,fun i hi=>by
  have h1:=a8c h.up (a5h (d:=X5) hi)
  have h2:=(h.b _ (a5h (d:=X5) hi)).1
  have:=h.rg
  omega⟩
theorem b37:b38.Valid Tryz.prog 83:=by
  refine p7.o6 a6Y rfl rfl Tryz.func83 (c:=d9 Tryz.prog 83) rfl rfl a6V rfl ?_
  rintro ⟨⟨(r:Int),(l:List u4),⟨⟩⟩,⟨(q:Int),(x:List UInt8),⟨⟩⟩,⟨⟩⟩ - -
  refine j5 (n:=1000) a6Y a6V ?_
  refine g9 (c3Q r l q x) ?_
  have key:∀ {y:ToD×List (List UInt8)×Int×Unit},C3 (r,l,()) (q,x,())=y→y=C3 (r,l,()) (q,x,()):=fun h=>h.symm
  have hd:C3 (r,l,()) (q,x,())=if toE (r,l,())≠0 then (t00,[],toE (r,l,()),()) else if V6 q 0 16777214=false then (t00,[],1,()) else if D5 x=true then (t00,[],2,()) else
    if q<r∨r+16≤q∨W3 q l=true then ((r,l,()),[],0,()) else if r<q then ((r,a36 (q,x,()) l,()),[],0,()) else
    (((C8 l (r+1)).1,(C8 l (r+1)).2.1,()),x::(C8 l (r+1)).2.2,0,()):=rfl
  have hw:Ty.wb .str=16:=rfl
  simp only [j8,Tree.holds,true_and,true_implies,decide_eq_true_eq,decide_eq_false_iff_not,Bool.not_eq_true',Bool.not_eq_false',Int.toNat_natCast,j9,List.length_set,List.length_cons,List.length_nil,hw]
  refine ⟨fun a=>key (by rw [hd,if_pos a]<;>rfl),fun a=>?_⟩
  have hok:=b0g.1 (Decidable.not_not.1 a)
  have hrg:=hok.rg
  have hlen:=hok.len
  rw [if_neg a] at hd
  refine ⟨fun c=>key (by rw [hd,if_pos c]<;>rfl),fun c=>?_⟩
  have hq:=Y5.1 c
  rw [if_neg (lnf c)] at hd
  refine ⟨fun d=>key (by rw [hd,if_pos d]<;>rfl),fun d=>⟨by omega,fun _=>⟨⟨⟨by omega,hok.sorted⟩,by omega,by omega⟩,fun _=>?_⟩⟩⟩
  rw [if_neg (by rw [d]; simp)] at hd
  refine ⟨fun e=>key (by rw [hd,if_pos (.inl e)]<;>rfl),fun e=>⟨by omega,fun _=>⟨fun f=>key (by rw [hd,if_pos (.inr (.inl f))]<;>rfl),fun f=>⟨fun g=>key (by rw [hd,if_pos (.inr (.inr g))]<;>rfl),fun g=>?_⟩⟩⟩⟩
  rw [if_neg (by rintro (h|h|h); exact e h; exact f h; rw [g] at h; cases h)] at hd
  have hat:=c6E (n:=q) (l:=l)
  refine ⟨fun k=>⟨⟨⟨by omega,by omega⟩,by omega,trivial⟩,fun _=>key (by rw [hd,if_pos k]; simp [a8p,a36]; rfl)⟩,fun k=>⟨by omega,fun _=>?_⟩⟩
  rw [if_neg k] at hd
  refine Reach.N3 a6Y a6V (fun s:Int×List u4×List (List UInt8)=>b0b 0 [] s.1 s.2.1 s.2.2) (fun s=>((C8 s.2.1 s.1).1=(C8 l (r+1)).1∧(C8 s.2.1 s.1).2.1=(C8 l (r+1)).2.1∧s.2.2++(C8 s.2.1 s.1).2.2=x::(C8 l (r+1)).2.2)∧s.2.1.length≤16∧s.2.2.length+s.2.1.length≤17∧0≤s.1∧s.1+s.2.1.length≤20000000)
    (fun s=>s.2.1.length) 1000 (fun _=>⟨u3 rfl,u3 rfl⟩) ?_ (r+1,l,[x]) ⟨⟨rfl,rfl,rfl⟩,hlen,by show 1+l.length≤17; omega,by show 0≤r+1; omega,by show r+1+(l.length:Int)≤20000000; omega⟩
  rintro ⟨n,m,ts⟩ ⟨⟨k1,k2,k3⟩,k4,k5,k6,k7⟩ - ih
  have k1:(C8 m n).1=(C8 l (r+1)).1:=k1
  have k2:(C8 m n).2.1=(C8 l (r+1)).2.1:=k2
  have k3:ts++(C8 m n).2.2=x::(C8 l (r+1)).2.2:=k3
  have k4:m.length≤16:=k4
  have k5:ts.length+m.length≤17:=k5
  have k6:0≤n:=k6
  have k7:n+(m.length:Int)≤20000000:=k7
  rw [← k1,← k2,← k3] at hd
  refine g9 (b91 ..) ?_
  rw [show ((n,m,ts):Int×List u4×List (List UInt8)).1=n from rfl,show ((n,m,ts):Int×List u4×List (List UInt8)).2.1=m from rfl,show ((n,m,ts):Int×List u4×List (List UInt8)).2.2=ts from rfl]
  cases m with
  | nil =>
    simp only [j8,Tree.holds,true_and,true_implies,decide_eq_true_eq,decide_eq_false_iff_not,Bool.not_eq_true',Bool.not_eq_false',Int.toNat_natCast,j9,List.length_set,List.length_cons,List.length_nil,hw]
    refine ⟨fun c2=>absurd c2 (by simp),fun _=>⟨by omega,fun _=>key ?_⟩⟩
    rw [hd,C8,List.append_nil]; rfl
  | cons p m =>
    have g0:List.getD (p::m) (Int.toNat 0) (0,[],())=p:=rfl
    have hcut:n7 1 ((p::m).length:Int) (p::m)=m:=by
      rw [n7,List.take_of_length_le (by simp)]; rfl
    simp only [List.length_cons] at k4 k5 k7
    have hpop:C8 (p::m) n=if p.1=n then ((C8 m (n+1)).1,(C8 m (n+1)).2.1,p.2.1::(C8 m (n+1)).2.2) else (n,p::m,[]):=rfl
    simp only [j8,Tree.holds,true_and,true_implies,decide_eq_true_eq,decide_eq_false_iff_not,Bool.not_eq_true',Bool.not_eq_false',Int.toNat_natCast,j9,List.length_set,List.length_cons,List.length_nil,hw,g0,hcut]
    refine ⟨fun c2=>⟨by omega,fun _=>⟨fun c3=>?_,fun c3=>⟨by omega,fun _=>key ?_⟩⟩⟩,fun c2=>absurd (by omega) c2⟩
    · rw [if_pos c3] at hpop
      rw [hpop] at k1 k2 k3
      have next:=ih (n+1,m,ts++[p.2.1]) ⟨⟨k1,k2,by rw [List.append_assoc]; exact k3⟩,by show m.length≤16; omega,by show (ts++[p.2.1]).length+m.length≤17; rw [List.length_append,List.length_singleton]; omega,by show 0≤n+1; omega,by show n+1+(m.length:Int)≤20000000; omega⟩ (by show m.length<(p::m).length; simp)
      have hcut2:n7 1 ((m.length+1:Nat):Int) (p::m)=m:=hcut
      rw [hcut2]
      exact ⟨by omega,fun _=>⟨⟨by omega,by omega⟩,fun _=>⟨by omega,fun _=>⟨by omega,fun _=>next⟩⟩⟩⟩
    · rw [if_neg c3] at hpop
      rw [hd,hpop,List.append_nil]; rfl
attribute [local irreducible] Go.Ex.exec
abbrev FrD:=Int×List (List UInt8)×Unit
abbrev o8:=Bool×List B9×FrD×ToD×ToD×Unit
abbrev f8:=a0T×List o8×List (List UInt8)×List (List UInt8)×Unit
def i8:o8:=(false,[],(0,[],()),(0,[],()),(0,[],()),())
def b0I:p7:={ ps:=[.v e8,.v e8,.v e8],rs:=[.bool],pre:=fun _=>True,fn:=fun x=>(G6 x.1 x.2.1 x.2.2.1,()),out:=fun _=>() }
noncomputable def c3T:Env:={ P:=Tryz.prog,tt:=tt,C0:=[],res:=[Go.ResultVar.tmp 6],rs:=[Ty.bool],ps:=[PK.v e8,PK.v e8,PK.v e8],y6:=[],nt:=15 }
theorem b7G:u7 c3T:=x6 p9 trivial
theorem b7x:B0 c3T Tryz.f40:=⟨rfl,rfl⟩
theorem c6Y (x0:Int) (x1:Int) (x2:Int):exec c3T 1000 [.code (d9 Tryz.prog 40)] (s6 b0I.ps ((x0,x1,x2,()))) =
  cond (decide (x1≤x0)) (.ret ((decide (x0≤x2),()))) (.ret ((false,()))):=by kernel_rfl
theorem a2W:b0I.Valid Tryz.prog 40:=by
  refine p7.o6 b7G rfl rfl Tryz.func40 (c:=d9 Tryz.prog 40) rfl rfl b7x rfl ?_
  rintro ⟨(n:Int),(a:Int),(b:Int),⟨⟩⟩ - -
  refine j5 (n:=1000) b7G b7x ?_
  refine g9 (c6Y n a b) ?_
  simp only [j8,Tree.holds,true_and,true_implies,decide_eq_true_eq,decide_eq_false_iff_not,Bool.not_eq_true',Bool.not_eq_false',Int.toNat_natCast,j9,List.length_set,List.length_cons,List.length_nil]
  refine ⟨fun c=>?_,fun c=>?_⟩
  · show ((decide _,()):Bool×Unit)=(G6 n a b,()); rw [G6,decide_eq_true c,Bool.true_and]
  · show ((false,()):Bool×Unit)=(G6 n a b,()); rw [G6,decide_eq_false c,Bool.false_and]
def tz (m:Int):Int:=(((List.range 8).find? (fun i=>decide (m / 2^i % 2=1))).getD 8:Nat)
def ctz:p7:={ ps:=[.v U8],rs:=[e8],pre:=fun _=>True,fn:=fun x=>(tz x.1,()),out:=fun _=>() }
noncomputable def Etz:Env:={ P:=Tryz.prog,tt:=tt,C0:=[],res:=[Go.ResultVar.tmp 2],rs:=[Ty.int IntKind.i64],ps:=[PK.v U8],y6:=[],nt:=6 }
theorem c1Y:u7 Etz:=x6 p9 trivial
theorem c1V:B0 Etz Tryz.f78:=⟨rfl,rfl⟩
theorem c7o (x0:Int):exec Etz 1000 [.code (d9 Tryz.prog 78)] (s6 ctz.ps ((x0,()))) =
  .f6 ((0:Int)≤x0∧x0<(↑(List.length (Array.toList (ByteArray.data (ByteArray.mk (List.toArray (List.append (List.append [(8:UInt8),(0:UInt8),(1:UInt8),(0:UInt8),(2:UInt8),(0:UInt8),(1:UInt8),(0:UInt8),(3:UInt8),(0:UInt8),(1:UInt8),(0:UInt8),(2:UInt8),(0:UInt8),(1:UInt8),(0:UInt8),(4:UInt8),(0:UInt8),(1:UInt8),(0:UInt8),(2:UInt8),(0:UInt8),(1:UInt8),(0:UInt8),(3:UInt8),(0:UInt8),(1:UInt8),(0:UInt8),(2:UInt8),(0:UInt8),(1:UInt8),(0:UInt8),(5:UInt8),(0:UInt8),(1:UInt8),(0:UInt8),(2:UInt8),(0:UInt8),(1:UInt8),(0:UInt8),(3:UInt8),(0:UInt8),(1:UInt8),(0:UInt8),(2:UInt8),(0:UInt8),(1:UInt8),(0:UInt8),(4:UInt8),(0:UInt8),(1:UInt8),(0:UInt8),(2:UInt8),(0:UInt8),(1:UInt8),(0:UInt8),(3:UInt8),(0:UInt8),(1:UInt8),(0:UInt8),(2:UInt8),(0:UInt8),(1:UInt8),(0:UInt8)] [(6:UInt8),(0:UInt8),(1:UInt8),(0:UInt8),(2:UInt8),(0:UInt8),(1:UInt8),(0:UInt8),(3:UInt8),(0:UInt8),(1:UInt8),(0:UInt8),(2:UInt8),(0:UInt8),(1:UInt8),(0:UInt8),(4:UInt8),(0:UInt8),(1:UInt8),(0:UInt8),(2:UInt8),(0:UInt8),(1:UInt8),(0:UInt8),(3:UInt8),(0:UInt8),(1:UInt8),(0:UInt8),(2:UInt8),(0:UInt8),(1:UInt8),(0:UInt8),(5:UInt8),(0:UInt8),(1:UInt8),(0:UInt8),(2:UInt8),(0:UInt8),(1:UInt8),(0:UInt8),(3:UInt8),(0:UInt8),(1:UInt8),(0:UInt8),(2:UInt8),(0:UInt8),(1:UInt8),(0:UInt8),(4:UInt8),(0:UInt8),(1:UInt8),(0:UInt8),(2:UInt8),(0:UInt8),(1:UInt8),(0:UInt8),(3:UInt8),(0:UInt8),(1:UInt8),(0:UInt8),(2:UInt8),(0:UInt8),(1:UInt8),(0:UInt8)]) (List.append [(7:UInt8),(0:UInt8),(1:UInt8),(0:UInt8),(2:UInt8),(0:UInt8),(1:UInt8),(0:UInt8),(3:UInt8),(0:UInt8),(1:UInt8),(0:UInt8),(2:UInt8),(0:UInt8),(1:UInt8),(0:UInt8),(4:UInt8),(0:UInt8),(1:UInt8),(0:UInt8),(2:UInt8),(0:UInt8),(1:UInt8),(0:UInt8),(3:UInt8),(0:UInt8),(1:UInt8),(0:UInt8),(2:UInt8),(0:UInt8),(1:UInt8),(0:UInt8),(5:UInt8),(0:UInt8),(1:UInt8),(0:UInt8),(2:UInt8),(0:UInt8),(1:UInt8),(0:UInt8),(3:UInt8),(0:UInt8),(1:UInt8),(0:UInt8),(2:UInt8),(0:UInt8),(1:UInt8),(0:UInt8),(4:UInt8),(0:UInt8),(1:UInt8),(0:UInt8),(2:UInt8),(0:UInt8),(1:UInt8),(0:UInt8),(3:UInt8),(0:UInt8),(1:UInt8),(0:UInt8),(2:UInt8),(0:UInt8),(1:UInt8),(0:UInt8)] [(6:UInt8),(0:UInt8),(1:UInt8),(0:UInt8),(2:UInt8),(0:UInt8),(1:UInt8),(0:UInt8),(3:UInt8),(0:UInt8),(1:UInt8),(0:UInt8),(2:UInt8),(0:UInt8),(1:UInt8),(0:UInt8),(4:UInt8),(0:UInt8),(1:UInt8),(0:UInt8),(2:UInt8),(0:UInt8),(1:UInt8),(0:UInt8),(3:UInt8),(0:UInt8),(1:UInt8),(0:UInt8),(2:UInt8),(0:UInt8),(1:UInt8),(0:UInt8),(5:UInt8),(0:UInt8),(1:UInt8),(0:UInt8),(2:UInt8),(0:UInt8),(1:UInt8),(0:UInt8),(3:UInt8),(0:UInt8),(1:UInt8),(0:UInt8),(2:UInt8),(0:UInt8),(1:UInt8),(0:UInt8),(4:UInt8),(0:UInt8),(1:UInt8),(0:UInt8),(2:UInt8),(0:UInt8),(1:UInt8),(0:UInt8),(3:UInt8),(0:UInt8),(1:UInt8),(0:UInt8),(2:UInt8),(0:UInt8),(1:UInt8),(0:UInt8)]))))))):Int)) (.ret ((IntKind.wrap IntKind.i64 (↑(UInt8.toNat (List.getD (Array.toList (ByteArray.data (ByteArray.mk (List.toArray (List.append (List.append [(8:UInt8),(0:UInt8),(1:UInt8),(0:UInt8),(2:UInt8),(0:UInt8),(1:UInt8),(0:UInt8),(3:UInt8),(0:UInt8),(1:UInt8),(0:UInt8),(2:UInt8),(0:UInt8),(1:UInt8),(0:UInt8),(4:UInt8),(0:UInt8),(1:UInt8),(0:UInt8),(2:UInt8),(0:UInt8),(1:UInt8),(0:UInt8),(3:UInt8),(0:UInt8),(1:UInt8),(0:UInt8),(2:UInt8),(0:UInt8),(1:UInt8),(0:UInt8),(5:UInt8),(0:UInt8),(1:UInt8),(0:UInt8),(2:UInt8),(0:UInt8),(1:UInt8),(0:UInt8),(3:UInt8),(0:UInt8),(1:UInt8),(0:UInt8),(2:UInt8),(0:UInt8),(1:UInt8),(0:UInt8),(4:UInt8),(0:UInt8),(1:UInt8),(0:UInt8),(2:UInt8),(0:UInt8),(1:UInt8),(0:UInt8),(3:UInt8),(0:UInt8),(1:UInt8),(0:UInt8),(2:UInt8),(0:UInt8),(1:UInt8),(0:UInt8)] [(6:UInt8),(0:UInt8),(1:UInt8),(0:UInt8),(2:UInt8),(0:UInt8),(1:UInt8),(0:UInt8),(3:UInt8),(0:UInt8),(1:UInt8),(0:UInt8),(2:UInt8),(0:UInt8),(1:UInt8),(0:UInt8),(4:UInt8),(0:UInt8),(1:UInt8),(0:UInt8),(2:UInt8),(0:UInt8),(1:UInt8),(0:UInt8),(3:UInt8),(0:UInt8),(1:UInt8),(0:UInt8),(2:UInt8),(0:UInt8),(1:UInt8),(0:UInt8),(5:UInt8),(0:UInt8),(1:UInt8),(0:UInt8),(2:UInt8),(0:UInt8),(1:UInt8),(0:UInt8),(3:UInt8),(0:UInt8),(1:UInt8),(0:UInt8),(2:UInt8),(0:UInt8),(1:UInt8),(0:UInt8),(4:UInt8),(0:UInt8),(1:UInt8),(0:UInt8),(2:UInt8),(0:UInt8),(1:UInt8),(0:UInt8),(3:UInt8),(0:UInt8),(1:UInt8),(0:UInt8),(2:UInt8),(0:UInt8),(1:UInt8),(0:UInt8)]) (List.append [(7:UInt8),(0:UInt8),(1:UInt8),(0:UInt8),(2:UInt8),(0:UInt8),(1:UInt8),(0:UInt8),(3:UInt8),(0:UInt8),(1:UInt8),(0:UInt8),(2:UInt8),(0:UInt8),(1:UInt8),(0:UInt8),(4:UInt8),(0:UInt8),(1:UInt8),(0:UInt8),(2:UInt8),(0:UInt8),(1:UInt8),(0:UInt8),(3:UInt8),(0:UInt8),(1:UInt8),(0:UInt8),(2:UInt8),(0:UInt8),(1:UInt8),(0:UInt8),(5:UInt8),(0:UInt8),(1:UInt8),(0:UInt8),(2:UInt8),(0:UInt8),(1:UInt8),(0:UInt8),(3:UInt8),(0:UInt8),(1:UInt8),(0:UInt8),(2:UInt8),(0:UInt8),(1:UInt8),(0:UInt8),(4:UInt8),(0:UInt8),(1:UInt8),(0:UInt8),(2:UInt8),(0:UInt8),(1:UInt8),(0:UInt8),(3:UInt8),(0:UInt8),(1:UInt8),(0:UInt8),(2:UInt8),(0:UInt8),(1:UInt8),(0:UInt8)] [(6:UInt8),(0:UInt8),(1:UInt8),(0:UInt8),(2:UInt8),(0:UInt8),(1:UInt8),(0:UInt8),(3:UInt8),(0:UInt8),(1:UInt8),(0:UInt8),(2:UInt8),(0:UInt8),(1:UInt8),(0:UInt8),(4:UInt8),(0:UInt8),(1:UInt8),(0:UInt8),(2:UInt8),(0:UInt8),(1:UInt8),(0:UInt8),(3:UInt8),(0:UInt8),(1:UInt8),(0:UInt8),(2:UInt8),(0:UInt8),(1:UInt8),(0:UInt8),(5:UInt8),(0:UInt8),(1:UInt8),(0:UInt8),(2:UInt8),(0:UInt8),(1:UInt8),(0:UInt8),(3:UInt8),(0:UInt8),(1:UInt8),(0:UInt8),(2:UInt8),(0:UInt8),(1:UInt8),(0:UInt8),(4:UInt8),(0:UInt8),(1:UInt8),(0:UInt8),(2:UInt8),(0:UInt8),(1:UInt8),(0:UInt8),(3:UInt8),(0:UInt8),(1:UInt8),(0:UInt8),(2:UInt8),(0:UInt8),(1:UInt8),(0:UInt8)])))))) (Int.toNat x0) (0:UInt8))):Int),()))):=by kernel_rfl
theorem c1q:ctz.Valid Tryz.prog 78:=by
  refine p7.o6 c1Y rfl rfl Tryz.func78 (c:=d9 Tryz.prog 78) rfl rfl c1V rfl ?_
  rintro ⟨(x0:Int),⟨⟩⟩ - ⟨h0,-⟩
  refine j5 (n:=1000) c1Y c1V ?_
  refine g9 (c7o x0) ?_
  have g0:0≤x0∧x0≤255:=h0
  obtain ⟨n,rfl⟩:∃ n:Fin 256,x0=((n.val:Nat):Int):=⟨⟨x0.toNat,by omega⟩,by simp; omega⟩
  refine ⟨?_,fun _=>?_⟩
  · clear h0 g0; revert n; decide +kernel
  · show ((_,()):Int×Unit)=(tz n,())
    clear h0 g0; revert n; decide +kernel
def a4x (v:a0T):Int×Int×Unit:=if U0 v≠0 then (0,U0 v,()) else (tz v.2.1,0,())
def a9N:p7:={ ps:=[.v View],rs:=[e8,e8],pre:=fun _=>True,fn:=fun x=>a4x x.1,out:=fun _=>() }
noncomputable def b5t:Env:={ P:=Tryz.prog,tt:=tt,C0:=[(70,a4D),(78,ctz)],res:=[Go.ResultVar.tmp 2,Go.ResultVar.tmp 3],rs:=[Ty.int IntKind.i64,Ty.int IntKind.i64],ps:=[PK.v View],y6:=[],nt:=13 }
theorem b2k:u7 b5t:=x6 p9 ⟨a5R,c1q,trivial⟩
theorem b1W:B0 b5t Tryz.f61:=⟨rfl,rfl⟩
theorem c39 (x0_1:Int) (x0_2_1:Int):exec b5t 1000 [.code (d9 Tryz.prog 61)] (s6 a9N.ps (((x0_1,x0_2_1,()),()))) =
  .f6 (True) (cond (decide (U0 (x0_1,x0_2_1,())≠(0:Int))) (.ret (((0:Int),U0 (x0_1,x0_2_1,()),()))) (.f6 (True) (.ret ((tz x0_2_1,(0:Int),()))))):=by kernel_rfl
theorem b4e:a9N.Valid Tryz.prog 61:=by
  refine p7.o6 b2k rfl rfl Tryz.func61 (c:=d9 Tryz.prog 61) rfl rfl b1W rfl ?_
  rintro ⟨⟨(x0:Int),(x1:Int),⟨⟩⟩,⟨⟩⟩ - -
  refine j5 (n:=1000) b2k b1W ?_
  refine g9 (c39 x0 x1) ?_
  simp only [j8,Tree.holds,true_and,true_implies,decide_eq_true_eq,decide_eq_false_iff_not,Bool.not_eq_true',Bool.not_eq_false',Int.toNat_natCast,j9,List.length_set,List.length_cons,List.length_nil]
  have key:∀ r:Int×Int×Unit,a4x (x0,x1,())=r→((r:DL [Ty.int .i64,Ty.int .i64])=a9N.fn ((x0,x1,()),())):=by rintro r rfl; rfl
  refine ⟨fun a=>key _ ?_,fun a=>key _ ?_⟩
  · rw [a4x,if_pos a]; rfl
  · rw [a4x,if_neg a]; rfl
def r8 (w:f8) (p:Int):Bool:=G6 p 0 ((w.2.1.length:Int) - 1) && decide (R6 .u8 (w.1.2.1 / (2:Int)^min p.toNat IntKind.u8.bits) 1=1) && !(w.2.1.getD p.toNat i8).1
def a8x:p7:={ ps:=[.rd J0,.v e8],rs:=[.bool],pre:=fun x=>List.length (α:=o8) (x.1:f8).2.1≤6,fn:=fun x=>(r8 x.1 x.2.1,()),out:=fun _=>() }
noncomputable def c0g:Env:={ P:=Tryz.prog,tt:=tt,C0:=[(40,b0I)],res:=[Go.ResultVar.tmp 4],rs:=[Ty.bool],ps:=[PK.rd J0,PK.v e8],y6:=[],nt:=35 }
theorem b5q:u7 c0g:=x6 p9 ⟨a2W,trivial⟩
theorem b4T:B0 c0g Tryz.f47:=⟨rfl,rfl⟩
theorem c5Y (x0_1_1:Int) (x0_1_2_1:Int) (x0_2_1:List o8) (x0_2_2_1:List (List UInt8)) (x0_2_2_2_1:List (List UInt8)) (x1:Int):exec c0g 1000 [.code (d9 Tryz.prog 47)] (s6 a8x.ps ((((x0_1_1,x0_1_2_1,()),x0_2_1,x0_2_2_1,x0_2_2_2_1,()),x1,()))) =
  .f6 (q9 IntKind.i64 ((↑(List.length x0_2_1):Int) - (1:Int))) (.f6 (True) (cond (G6 x1 (0:Int) ((↑(List.length x0_2_1):Int) - (1:Int))) (.f6 ((0:Int)≤x1) (cond (decide (R6 IntKind.u8 (x0_1_2_1 / (2:Int)^min (Int.toNat x1) (IntKind.bits IntKind.u8)) (1:Int)=(1:Int))) (.f6 ((0:Int)≤x1∧x1<(↑(List.length x0_2_1):Int)) (.ret ((!Prod.fst (List.getD x0_2_1 (Int.toNat x1) (false,[],((0:Int),[],()),((0:Int),[],()),((0:Int),[],()),())),())))) (.ret ((false,()))))) (.ret ((false,()))))):=by kernel_rfl
theorem a1I:a8x.Valid Tryz.prog 47:=by
  refine p7.o6 b5q rfl rfl Tryz.func47 (c:=d9 Tryz.prog 47) rfl rfl b4T rfl ?_
  rintro ⟨⟨⟨(v0:Int),(v1:Int),⟨⟩⟩,(al:List o8),(od:List (List UInt8)),(wy:List (List UInt8)),⟨⟩⟩,(p:Int),⟨⟩⟩ (hp:al.length≤6) -
  refine j5 (n:=1000) b5q b4T ?_
  refine g9 (c5Y v0 v1 al od wy p) ?_
  simp only [j8,Tree.holds,true_and,true_implies,decide_eq_true_eq,decide_eq_false_iff_not,Bool.not_eq_true',Bool.not_eq_false',Int.toNat_natCast,j9,List.length_set,List.length_cons,List.length_nil]
  have key:∀ r:Bool,r8 ((v0,v1,()),al,od,wy,()) p=r→(((r,()):Bool×Unit)=(r8 ((v0,v1,()),al,od,wy,()) p,())):=by rintro r rfl; rfl
  refine ⟨⟨by omega,by omega⟩,fun _=>⟨fun a=>⟨(S4.1 a).1,fun _=>⟨fun b=>⟨⟨(S4.1 a).1,by have:=(S4.1 a).2; show p<(al.length:Int); omega⟩,fun _=>key _ ?_⟩,fun b=>key _ ?_⟩⟩,fun a=>key _ ?_⟩⟩
  · show (G6 p 0 ((al.length:Int) - 1) && _ && _)=_
    rw [a,Bool.true_and]
    exact congrArg (· && _) (decide_eq_true b)
  · show (G6 p 0 ((al.length:Int) - 1) && decide _ && _)=_
    rw [a,Bool.true_and,decide_eq_false b]; rfl
  · show (G6 p 0 ((al.length:Int) - 1) && _ && _)=_
    rw [a]; rfl
def known (w:f8) (p:Int):Int:=if G6 p 0 ((w.2.1.length:Int) - 1)=true then 0 else 1
def a4H:p7:={ ps:=[.rd J0,.v e8],rs:=[e8],pre:=fun x=>List.length (α:=o8) (x.1:f8).2.1≤6,fn:=fun x=>(known x.1 x.2.1,()),out:=fun _=>() }
noncomputable def b00:Env:={ P:=Tryz.prog,tt:=tt,C0:=[(40,b0I)],res:=[Go.ResultVar.tmp 4],rs:=[Ty.int IntKind.i64],ps:=[PK.rd J0,PK.v e8],y6:=[],nt:=14 }
theorem b0e:u7 b00:=x6 p9 ⟨a2W,trivial⟩
theorem a96:B0 b00 Tryz.f49:=⟨rfl,rfl⟩
theorem c2g (x0_1_1:Int) (x0_1_2_1:Int) (x0_2_1:List o8) (x0_2_2_1:List (List UInt8)) (x0_2_2_2_1:List (List UInt8)) (x1:Int):exec b00 1000 [.code (d9 Tryz.prog 49)] (s6 a4H.ps ((((x0_1_1,x0_1_2_1,()),x0_2_1,x0_2_2_1,x0_2_2_2_1,()),x1,()))) =
  .f6 (q9 IntKind.i64 ((↑(List.length x0_2_1):Int) - (1:Int))) (.f6 (True) (cond (!G6 x1 (0:Int) ((↑(List.length x0_2_1):Int) - (1:Int))) (.ret (((1:Int),()))) (.ret (((0:Int),()))))):=by kernel_rfl
theorem a1G:a4H.Valid Tryz.prog 49:=by
  refine p7.o6 b0e rfl rfl Tryz.func49 (c:=d9 Tryz.prog 49) rfl rfl a96 rfl ?_
  rintro ⟨⟨⟨(v0:Int),(v1:Int),⟨⟩⟩,(al:List o8),(od:List (List UInt8)),(wy:List (List UInt8)),⟨⟩⟩,(p:Int),⟨⟩⟩ (hp:al.length≤6) -
  refine j5 (n:=1000) b0e a96 ?_
  refine g9 (c2g v0 v1 al od wy p) ?_
  simp only [j8,Tree.holds,true_and,true_implies,decide_eq_true_eq,decide_eq_false_iff_not,Bool.not_eq_true',Bool.not_eq_false',Int.toNat_natCast,j9,List.length_set,List.length_cons,List.length_nil]
  have key:∀ r:Int,known ((v0,v1,()),al,od,wy,()) p=r→(((r,()):Int×Unit)=(known ((v0,v1,()),al,od,wy,()) p,())):=by rintro r rfl; rfl
  refine ⟨⟨by omega,by omega⟩,fun _=>⟨fun a=>key _ ?_,fun a=>key _ ?_⟩⟩
  · exact if_neg (by simpa using a)
  · exact if_pos (by simpa using a)
def M7 (w:f8) (p:Int):Int:=if known w p≠0 then known w p else if r8 w p=true then 0 else 11
def b8V:p7:={ ps:=[.rd J0,.v e8],rs:=[e8],pre:=fun x=>List.length (α:=o8) (x.1:f8).2.1≤6,fn:=fun x=>(M7 x.1 x.2.1,()),out:=fun _=>() }
noncomputable def b5d:Env:={ P:=Tryz.prog,tt:=tt,C0:=[(49,a4H),(47,a8x)],res:=[Go.ResultVar.tmp 4],rs:=[Ty.int IntKind.i64],ps:=[PK.rd J0,PK.v e8],y6:=[],nt:=16 }
theorem b2e:u7 b5d:=x6 p9 ⟨a1G,a1I,trivial⟩
theorem b1Q:B0 b5d Tryz.f41:=⟨rfl,rfl⟩
theorem c3X (x0_1_1:Int) (x0_1_2_1:Int) (x0_2_1:List o8) (x0_2_2_1:List (List UInt8)) (x0_2_2_2_1:List (List UInt8)) (x1:Int):exec b5d 1000 [.code (d9 Tryz.prog 41)] (s6 b8V.ps ((((x0_1_1,x0_1_2_1,()),x0_2_1,x0_2_2_1,x0_2_2_2_1,()),x1,()))) =
  .f6 (List.length x0_2_1≤6) (cond (decide (known ((x0_1_1,x0_1_2_1,()),x0_2_1,x0_2_2_1,x0_2_2_2_1,()) x1≠(0:Int))) (.ret ((known ((x0_1_1,x0_1_2_1,()),x0_2_1,x0_2_2_1,x0_2_2_2_1,()) x1,()))) (.f6 (List.length x0_2_1≤6) (cond (!r8 ((x0_1_1,x0_1_2_1,()),x0_2_1,x0_2_2_1,x0_2_2_2_1,()) x1) (.ret (((11:Int),()))) (.ret (((0:Int),())))))):=by kernel_rfl
theorem b5Z:b8V.Valid Tryz.prog 41:=by
  refine p7.o6 b2e rfl rfl Tryz.func41 (c:=d9 Tryz.prog 41) rfl rfl b1Q rfl ?_
  rintro ⟨⟨⟨(v0:Int),(v1:Int),⟨⟩⟩,(al:List o8),(od:List (List UInt8)),(wy:List (List UInt8)),⟨⟩⟩,(p:Int),⟨⟩⟩ (hp:al.length≤6) -
  refine j5 (n:=1000) b2e b1Q ?_
  refine g9 (c3X v0 v1 al od wy p) ?_
  simp only [j8,Tree.holds,true_and,true_implies,decide_eq_true_eq,decide_eq_false_iff_not,Bool.not_eq_true',Bool.not_eq_false',Int.toNat_natCast,j9,List.length_set,List.length_cons,List.length_nil]
  have key:∀ r:Int,M7 ((v0,v1,()),al,od,wy,()) p=r→(((r,()):Int×Unit)=(M7 ((v0,v1,()),al,od,wy,()) p,())):=by rintro r rfl; rfl
  refine ⟨hp,fun _=>⟨fun a=>key _ ?_,fun a=>⟨hp,fun _=>⟨fun b=>key _ ?_,fun b=>key _ ?_⟩⟩⟩⟩
  · exact if_pos a
  · rw [M7,if_neg (by simpa using a),if_neg (by simpa using b)]
  · rw [M7,if_neg (by simpa using a),if_pos (by simpa using b)]
def K8 (w:f8):Int:=(a4x w.1).1
def b34:p7:={ ps:=[.rd J0],rs:=[e8],pre:=fun _=>True,fn:=fun x=>(K8 x.1,()),out:=fun _=>() }
noncomputable def b99:Env:={ P:=Tryz.prog,tt:=tt,C0:=[(61,a9N)],res:=[Go.ResultVar.tmp 2],rs:=[Ty.int IntKind.i64],ps:=[PK.rd J0],y6:=[],nt:=14 }
theorem b5g:u7 b99:=x6 p9 ⟨b4e,trivial⟩
theorem b4P:B0 b99 Tryz.f44:=⟨rfl,rfl⟩
theorem c5U (x0_1_1:Int) (x0_1_2_1:Int) (x0_2_1:List o8) (x0_2_2_1:List (List UInt8)) (x0_2_2_2_1:List (List UInt8)):exec b99 1000 [.code (d9 Tryz.prog 44)] (s6 b34.ps ((((x0_1_1,x0_1_2_1,()),x0_2_1,x0_2_2_1,x0_2_2_2_1,()),()))) =
  .f6 (True) (.ret ((Prod.fst (a4x (x0_1_1,x0_1_2_1,())),()))):=by kernel_rfl
theorem a5o:b34.Valid Tryz.prog 44:=by
  refine p7.o6 b5g rfl rfl Tryz.func44 (c:=d9 Tryz.prog 44) rfl rfl b4P rfl ?_
  rintro ⟨⟨⟨(v0:Int),(v1:Int),⟨⟩⟩,(al:List o8),(od:List (List UInt8)),(wy:List (List UInt8)),⟨⟩⟩,⟨⟩⟩ - -
  refine j5 (n:=1000) b5g b4P ?_
  refine g9 (c5U v0 v1 al od wy) ?_
  exact ⟨trivial,fun _=>rfl⟩
def K9 (w:f8) (k f t s:Int) (x:List UInt8):f8 :=
  let r:=Q5 (k,f,t,w.1.1,s,[0,0,0,0,0,0],x,())
  if r.2.1=0∧(w.2.2.2.1.length:Int)<60 then (w.1,w.2.1,w.2.2.1,w.2.2.2.1++[r.1],()) else w
theorem a5Z {w:f8} {k f t s:Int} {x:List UInt8} (h:(Q5 (k,f,t,w.1.1,s,[0,0,0,0,0,0],x,())).2.1=0) (h2:(w.2.2.2.1.length:Int)<60) :
    K9 w k f t s x=(w.1,w.2.1,w.2.2.1,w.2.2.2.1++[(Q5 (k,f,t,w.1.1,s,[0,0,0,0,0,0],x,())).1],()):=by
  unfold K9; exact if_pos ⟨h,h2⟩
theorem a3H {w:f8} {k f t s:Int} {x:List UInt8} (h:¬ ((Q5 (k,f,t,w.1.1,s,[0,0,0,0,0,0],x,())).2.1=0∧(w.2.2.2.1.length:Int)<60)) :
    K9 w k f t s x=w:=by
  unfold K9; exact if_neg h
def a9D:p7:={ ps:=[.rw w9,.v e8,.v e8,.v e8,.v e8,.v .str],rs:=[],pre:=fun _=>True,fn:=fun _=>(),out:=fun x=>(K9 x.1 x.2.1 x.2.2.1 x.2.2.2.1 x.2.2.2.2.1 x.2.2.2.2.2.1,()) }
noncomputable def b5h:Env:={ P:=Tryz.prog,tt:=tt,C0:=[(60,b9a)],res:=[],rs:=[],ps:=[PK.rw w9,PK.v e8,PK.v e8,PK.v e8,PK.v e8,PK.v Ty.str],y6:=[],nt:=49 }
theorem b2g:u7 b5h:=x6 p9 ⟨b56,trivial⟩
theorem b1S:B0 b5h Tryz.f43:=⟨rfl,rfl⟩
theorem c34 (x0_1_1:Int) (x0_1_2_1:Int) (x0_2_1:List o8) (x0_2_2_1:List (List UInt8)) (x0_2_2_2_1:List (List UInt8)) (x1:Int) (x2:Int) (x3:Int) (x4:Int) (x5:List UInt8):exec b5h 1000 [.code (d9 Tryz.prog 43)] (s6 a9D.ps ((((x0_1_1,x0_1_2_1,()),x0_2_1,x0_2_2_1,x0_2_2_2_1,()),x1,x2,x3,x4,x5,()))) =
  .f6 (True) (cond (decide (Prod.fst (Prod.snd (Q5 (x1,x2,x3,x0_1_1,x4,[(0:Int),(0:Int),(0:Int),(0:Int),(0:Int),(0:Int)],x5,())))=(0:Int))) (cond (decide ((↑(List.length x0_2_2_2_1):Int)<(60:Int))) (.f6 (True∧True∧[]++[Step.l7 3]=[]++[Step.l7 3]∧List.length x0_2_2_2_1+List.length (List.set [[]] (Int.toNat (↑0:Int)) (Prod.fst (Q5 (x1,x2,x3,x0_1_1,x4,[(0:Int),(0:Int),(0:Int),(0:Int),(0:Int),(0:Int)],x5,()))))≤140737488355328∧(List.length x0_2_2_2_1+List.length (List.set [[]] (Int.toNat (↑0:Int)) (Prod.fst (Q5 (x1,x2,x3,x0_1_1,x4,[(0:Int),(0:Int),(0:Int),(0:Int),(0:Int),(0:Int)],x5,())))))*Ty.wb Ty.str≤140737488355328) (.ret ((((x0_1_1,x0_1_2_1,()),x0_2_1,x0_2_2_1,x0_2_2_2_1++List.set [[]] (Int.toNat (↑0:Int)) (Prod.fst (Q5 (x1,x2,x3,x0_1_1,x4,[(0:Int),(0:Int),(0:Int),(0:Int),(0:Int),(0:Int)],x5,()))),()),())))) (.ret ((((x0_1_1,x0_1_2_1,()),x0_2_1,x0_2_2_1,x0_2_2_2_1,()),())))) (.ret ((((x0_1_1,x0_1_2_1,()),x0_2_1,x0_2_2_1,x0_2_2_2_1,()),())))):=by kernel_rfl
attribute [local irreducible] Q5 K9 in
theorem a4b:a9D.Valid Tryz.prog 43:=by
  refine p7.o6 b2g rfl rfl Tryz.func43 (c:=d9 Tryz.prog 43) rfl rfl b1S rfl ?_
  rintro ⟨⟨⟨(v0:Int),(v1:Int),⟨⟩⟩,(al:List o8),(od:List (List UInt8)),(wy:List (List UInt8)),⟨⟩⟩,(k:Int),(f:Int),(t:Int),(s:Int),(x:List UInt8),⟨⟩⟩ - -
  refine j5 (n:=1000) b2g b1S ?_
  refine g9 (c34 v0 v1 al od wy k f t s x) ?_
  simp only [j8,Tree.holds,true_and,true_implies,decide_eq_true_eq,decide_eq_false_iff_not,Bool.not_eq_true',Bool.not_eq_false',Int.toNat_natCast,j9,List.length_set,List.length_cons,List.length_nil]
  have key:∀ r:f8,K9 ((v0,v1,()),al,od,wy,()) k f t s x=r→(((r,()):f8×Unit)=(K9 ((v0,v1,()),al,od,wy,()) k f t s x,())):=by rintro r rfl; rfl
  refine ⟨fun a=>⟨fun b=>⟨?_,fun _=>key _ ?_⟩,fun b=>key _ ?_⟩,fun a=>key _ ?_⟩
  · have b':wy.length<60:=by exact_mod_cast b
    refine ⟨?_,?_⟩
    · show wy.length+1≤140737488355328; omega
    · show (wy.length+1)*16≤140737488355328; omega
  · exact a5Z a b
  · exact a3H (fun h=>b h.2)
  · exact a3H (fun h=>a h.1)
def X9 (w:f8) (p:Int):f8×Int :=
  if known w p≠0 then (w,known w p) else ((w.1,w.2.1.set p.toNat (true,(w.2.1.getD p.toNat i8).2),w.2.2),0)
def b9o:p7:={ ps:=[.rw w9,.v e8],rs:=[e8],pre:=fun x=>List.length (α:=o8) (x.1:f8).2.1≤6,fn:=fun x=>((X9 x.1 x.2.1).2,()),out:=fun x=>((X9 x.1 x.2.1).1,()) }
noncomputable def b5m:Env:={ P:=Tryz.prog,tt:=tt,C0:=[(49,a4H)],res:=[Go.ResultVar.tmp 4],rs:=[Ty.int IntKind.i64],ps:=[PK.rw w9,PK.v e8],y6:=[],nt:=19 }
theorem b2i:u7 b5m:=x6 p9 ⟨a1G,trivial⟩
theorem b1U:B0 b5m Tryz.f37:=⟨rfl,rfl⟩
theorem c36 (x0_1_1:Int) (x0_1_2_1:Int) (x0_2_1:List o8) (x0_2_2_1:List (List UInt8)) (x0_2_2_2_1:List (List UInt8)) (x1:Int):exec b5m 1000 [.code (d9 Tryz.prog 37)] (s6 b9o.ps ((((x0_1_1,x0_1_2_1,()),x0_2_1,x0_2_2_1,x0_2_2_2_1,()),x1,()))) =
  .f6 (List.length x0_2_1≤6) (cond (decide (known ((x0_1_1,x0_1_2_1,()),x0_2_1,x0_2_2_1,x0_2_2_2_1,()) x1≠(0:Int))) (.ret ((known ((x0_1_1,x0_1_2_1,()),x0_2_1,x0_2_2_1,x0_2_2_2_1,()) x1,((x0_1_1,x0_1_2_1,()),x0_2_1,x0_2_2_1,x0_2_2_2_1,()),()))) (.f6 ((0:Int)≤x1∧x1<(↑(List.length x0_2_1):Int)) (.ret (((0:Int),((x0_1_1,x0_1_2_1,()),List.set x0_2_1 (Int.toNat x1) (true,Prod.snd (List.getD x0_2_1 (Int.toNat x1) (false,[],((0:Int),[],()),((0:Int),[],()),((0:Int),[],()),()))),x0_2_2_1,x0_2_2_2_1,()),()))))):=by kernel_rfl
theorem b6j:b9o.Valid Tryz.prog 37:=by
  refine p7.o6 b2i rfl rfl Tryz.func37 (c:=d9 Tryz.prog 37) rfl rfl b1U rfl ?_
  rintro ⟨⟨⟨(v0:Int),(v1:Int),⟨⟩⟩,(al:List o8),(od:List (List UInt8)),(wy:List (List UInt8)),⟨⟩⟩,(p:Int),⟨⟩⟩ (hp:al.length≤6) -
  refine j5 (n:=1000) b2i b1U ?_
  refine g9 (c36 v0 v1 al od wy p) ?_
  simp only [j8,Tree.holds,true_and,true_implies,decide_eq_true_eq,decide_eq_false_iff_not,Bool.not_eq_true',Bool.not_eq_false',Int.toNat_natCast,j9,List.length_set,List.length_cons,List.length_nil]
  have key:∀ r:f8×Int,X9 ((v0,v1,()),al,od,wy,()) p=r→(((r.2,r.1,()):Int×f8×Unit)=((X9 ((v0,v1,()),al,od,wy,()) p).2,(X9 ((v0,v1,()),al,od,wy,()) p).1,())):=by rintro r rfl; rfl
  have hin:¬ known ((v0,v1,()),al,od,wy,()) p≠0→0≤p∧p<(al.length:Int):=by
    intro a
    unfold known at a
    split at a
    · rename_i hb
      have:=S4.1 hb
      simp only at this; omega
    · exact absurd (by decide) a
  refine ⟨hp,fun _=>⟨fun a=>key (_,_) ?_,fun a=>⟨hin a,fun _=>key (_,_) ?_⟩⟩⟩
  · rw [X9,if_pos a]; rfl
  · rw [X9,if_neg a]; rfl
def ttW:List (TypeId×TI):=(78,TI.mk V4 32)::(83,TI.mk ToT 32)::tt
theorem c0z:ttW.all (a4R Tryz.prog)=true:=by kernel_rfl
def c6w:p7:={ ps:=[.v V4,.v .str],rs:=[V4,e8],new:=true,pre:=b9g.pre,fn:=fun x=>M5 x.1 x.2.1,out:=fun _=>() }
theorem b88:c6w.Valid Tryz.prog 42:=b6b.share (rs':=[V4,e8]) rfl rfl rfl
def c1v:p7:={ ps:=[.v V4,.v e8],rs:=[V4,e8],new:=true,pre:=b0H.pre,fn:=fun x=>N1 x.1 x.2.1,out:=fun _=>() }
theorem b4c:c1v.Valid Tryz.prog 86:=b2C.share (rs':=[V4,e8]) rfl rfl rfl
def b80:p7:={ ps:=[.v ToT,.v u5],rs:=[ToT,.d0 true .str,e8],new:=true,pre:=b38.pre,fn:=fun x=>C3 x.1 x.2.1,out:=fun _=>() }
theorem a7N:b80.Valid Tryz.prog 83:=b37.share (rs':=[ToT,.d0 true .str,e8]) rfl rfl rfl
end Go.Proofs.YtijlnmgondibnaaGreatDoor
