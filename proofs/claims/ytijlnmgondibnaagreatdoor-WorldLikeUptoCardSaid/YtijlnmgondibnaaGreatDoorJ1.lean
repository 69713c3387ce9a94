import Derived.Test.YtijlnmgondibnaaGreatDoorProg
import Derived.Test.YtijlnmgondibnaaGreatDoorExW
import Derived.Test.YtijlnmgondibnaaGreatDoorRows
import Derived.Lib.LaidU8
import Derived.LaidMore
import Derived.LaidSub
import Derived.Shelf.Vars
import Derived.JoinedCond
import Derived.WalkKit
import Derived.Lib.Walk
import Derived.Shelf.RegionOpenPlain
import Derived.Lib.SliceRun
import Derived.Lib.Overlaps
import Derived.Lib.AppendZerosOnto
import Derived.Laws.Externs
import Derived.Laws.IdiomCopy
import Derived.Laws.NewBlocks
set_option linter.unusedVariables false
set_option linter.unusedSimpArgs false
set_option linter.unusedSectionVars false
namespace Go.Proofs.YtijlnmgondibnaaGreatDoor
open Go.Ex
set_option maxRecDepth 100000
abbrev e8:Ty:=.int .i64
abbrev U8:Ty:=.int .u8
abbrev Is:Ty:=.d0 true e8
abbrev X2:Ty:=.arr 6 e8
abbrev c8a:Ty:=.arr 10 e8
abbrev View:Ty:=.pair e8 (.pair U8 .unit)
abbrev r7:Ty:=.pair e8 (.pair .str .unit)
abbrev ToT:Ty:=.pair e8 (.pair (.d0 false r7) .unit)
abbrev ToO:Ty:=.pair e8 (.pair (.d0 true r7) .unit)
abbrev P0:Ty:=.pair e8 (.pair (.d0 false .str) .unit)
abbrev KC:Ty:=.pair e8 (.pair (.d0 true .str) .unit)
abbrev yM:Ty:=.pair e8 (.pair e8 (.pair e8 (.pair e8 (.pair e8 (.pair X2 (.pair .str .unit))))))
abbrev wA:Ty:=.pair .bool (.pair (.d0 true r7) (.pair P0 (.pair ToT (.pair ToT .unit))))
abbrev s6:Ty:=.pair View (.pair (.d0 true wA) (.pair (.d0 true .str) (.pair (.d0 true .str) .unit)))
abbrev SF:Ty:=.pair .bool (.pair (.d0 false r7) (.pair P0 (.pair ToT (.pair ToT .unit))))
abbrev H5:Ty:=.pair View (.pair (.d0 false SF) (.pair (.d0 false .str) (.pair (.d0 false .str) .unit)))
abbrev va:Ty:=.pair e8 (.pair e8 (.pair e8 (.pair .str .unit)))
abbrev K6:Ty:=.d0 false r7
abbrev X5:Ty:=.pair .bool (.pair (.y7 r7) (.pair P0 (.pair ToT (.pair ToT .unit))))
abbrev Y5:Ty:=.pair View (.pair (.d0 true X5) (.pair (.d0 true .str) (.pair (.d0 true .str) .unit)))
def tt:List (TypeId×TI):=[(2,TI.mk (Ty.int IntKind.i64) 8),(3,TI.mk (Ty.int IntKind.i64) 8),(4,TI.mk Ty.bool 1),(5,TI.mk (Ty.int IntKind.u8) 1),(6,TI.mk (Ty.int IntKind.u8) 1),(7,TI.mk (Ty.pair (Ty.int IntKind.i64) (Ty.pair (Ty.int IntKind.i64) (Ty.pair Ty.bool (Ty.pair (Ty.int IntKind.u8) Ty.unit)))) 24),(8,TI.mk (Ty.pair (Ty.int IntKind.i64) (Ty.pair (Ty.int IntKind.i64) (Ty.pair Ty.bool (Ty.pair (Ty.int IntKind.u8) Ty.unit)))) 24),(9,TI.mk Ty.str 16),(10,TI.mk Ty.str 16),(11,TI.mk Ty.str 16),(12,TI.mk (Ty.int IntKind.u64) 8),(13,TI.mk (Ty.pair Ty.str (Ty.pair (Ty.int IntKind.u64) Ty.unit)) 24),(14,TI.mk (Ty.pair Ty.str (Ty.pair (Ty.int IntKind.u64) Ty.unit)) 24),(21,TI.mk (Ty.int IntKind.i32) 4),(22,TI.mk (Ty.d0 true Ty.str) 24),(26,TI.mk (Ty.int IntKind.i64) 8),(33,TI.mk (Ty.d0 true (Ty.pair (Ty.int IntKind.i64) (Ty.pair Ty.str Ty.unit))) 24),(39,TI.mk (Ty.pair (Ty.int IntKind.i64) (Ty.pair Ty.str Ty.unit)) 24),(40,TI.mk (Ty.pair (Ty.int IntKind.i64) (Ty.pair Ty.str Ty.unit)) 24),(43,TI.mk (Ty.d0 true (Ty.pair (Ty.int IntKind.i64) (Ty.pair (Ty.int IntKind.i64) (Ty.pair (Ty.int IntKind.i64) (Ty.pair Ty.str Ty.unit))))) 24),(44,TI.mk (Ty.d0 true (Ty.d0 true Ty.str)) 24),(45,TI.mk (Ty.d0 true (Ty.int IntKind.i64)) 24),(53,TI.mk (Ty.arr 6 (Ty.d0 true Ty.str)) 144),(55,TI.mk (Ty.map true (Ty.int IntKind.i64) (Ty.int IntKind.i64)) 8),(56,TI.mk (Ty.pair (Ty.int IntKind.i64) (Ty.pair (Ty.int IntKind.u8) Ty.unit)) 16),(57,TI.mk (Ty.pair (Ty.int IntKind.i64) (Ty.pair (Ty.int IntKind.u8) Ty.unit)) 16),(59,TI.mk (Ty.arr 10 (Ty.int IntKind.i64)) 80),(60,TI.mk (Ty.arr 10 (Ty.int IntKind.i64)) 80),(68,TI.mk (Ty.d0 true (Ty.d0 true (Ty.pair (Ty.int IntKind.i64) (Ty.pair Ty.str Ty.unit)))) 24),(69,TI.mk (Ty.pair (Ty.int IntKind.i64) (Ty.pair (Ty.int IntKind.i64) (Ty.pair (Ty.int IntKind.i64) (Ty.pair Ty.str Ty.unit)))) 40),(70,TI.mk (Ty.pair (Ty.int IntKind.i64) (Ty.pair (Ty.int IntKind.i64) (Ty.pair (Ty.int IntKind.i64) (Ty.pair Ty.str Ty.unit)))) 40),(74,TI.mk (Ty.d0 true (Ty.pair Ty.bool (Ty.pair (Ty.d0 true (Ty.pair (Ty.int IntKind.i64) (Ty.pair Ty.str Ty.unit))) (Ty.pair (Ty.pair (Ty.int IntKind.i64) (Ty.pair (Ty.d0 true Ty.str) Ty.unit)) (Ty.pair (Ty.pair (Ty.int IntKind.i64) (Ty.pair (Ty.d0 true (Ty.pair (Ty.int IntKind.i64) (Ty.pair Ty.str Ty.unit))) Ty.unit)) (Ty.pair (Ty.pair (Ty.int IntKind.i64) (Ty.pair (Ty.d0 true (Ty.pair (Ty.int IntKind.i64) (Ty.pair Ty.str Ty.unit))) Ty.unit)) Ty.unit)))))) 24),(75,TI.mk (Ty.pair (Ty.pair (Ty.int IntKind.i64) (Ty.pair (Ty.int IntKind.u8) Ty.unit)) (Ty.pair (Ty.d0 true (Ty.pair Ty.bool (Ty.pair (Ty.d0 true (Ty.pair (Ty.int IntKind.i64) (Ty.pair Ty.str Ty.unit))) (Ty.pair (Ty.pair (Ty.int IntKind.i64) (Ty.pair (Ty.d0 true Ty.str) Ty.unit)) (Ty.pair (Ty.pair (Ty.int IntKind.i64) (Ty.pair (Ty.d0 true (Ty.pair (Ty.int IntKind.i64) (Ty.pair Ty.str Ty.unit))) Ty.unit)) (Ty.pair (Ty.pair (Ty.int IntKind.i64) (Ty.pair (Ty.d0 true (Ty.pair (Ty.int IntKind.i64) (Ty.pair Ty.str Ty.unit))) Ty.unit)) Ty.unit)))))) (Ty.pair (Ty.d0 true Ty.str) (Ty.pair (Ty.d0 true Ty.str) Ty.unit)))) 88),(76,TI.mk (Ty.pair (Ty.pair (Ty.int IntKind.i64) (Ty.pair (Ty.int IntKind.u8) Ty.unit)) (Ty.pair (Ty.d0 true (Ty.pair Ty.bool (Ty.pair (Ty.d0 true (Ty.pair (Ty.int IntKind.i64) (Ty.pair Ty.str Ty.unit))) (Ty.pair (Ty.pair (Ty.int IntKind.i64) (Ty.pair (Ty.d0 true Ty.str) Ty.unit)) (Ty.pair (Ty.pair (Ty.int IntKind.i64) (Ty.pair (Ty.d0 true (Ty.pair (Ty.int IntKind.i64) (Ty.pair Ty.str Ty.unit))) Ty.unit)) (Ty.pair (Ty.pair (Ty.int IntKind.i64) (Ty.pair (Ty.d0 true (Ty.pair (Ty.int IntKind.i64) (Ty.pair Ty.str Ty.unit))) Ty.unit)) Ty.unit)))))) (Ty.pair (Ty.d0 true Ty.str) (Ty.pair (Ty.d0 true Ty.str) Ty.unit)))) 88),(77,TI.mk (Ty.pair (Ty.int IntKind.i64) (Ty.pair (Ty.d0 true Ty.str) Ty.unit)) 32),(78,TI.mk (Ty.pair (Ty.int IntKind.i64) (Ty.pair (Ty.d0 true Ty.str) Ty.unit)) 32),(81,TI.mk (Ty.d0 true (Ty.pair (Ty.int IntKind.i64) (Ty.pair Ty.str Ty.unit))) 24),(82,TI.mk (Ty.pair (Ty.int IntKind.i64) (Ty.pair (Ty.d0 true (Ty.pair (Ty.int IntKind.i64) (Ty.pair Ty.str Ty.unit))) Ty.unit)) 32),(83,TI.mk (Ty.pair (Ty.int IntKind.i64) (Ty.pair (Ty.d0 true (Ty.pair (Ty.int IntKind.i64) (Ty.pair Ty.str Ty.unit))) Ty.unit)) 32),(84,TI.mk (Ty.pair Ty.bool (Ty.pair (Ty.d0 true (Ty.pair (Ty.int IntKind.i64) (Ty.pair Ty.str Ty.unit))) (Ty.pair (Ty.pair (Ty.int IntKind.i64) (Ty.pair (Ty.d0 true Ty.str) Ty.unit)) (Ty.pair (Ty.pair (Ty.int IntKind.i64) (Ty.pair (Ty.d0 true (Ty.pair (Ty.int IntKind.i64) (Ty.pair Ty.str Ty.unit))) Ty.unit)) (Ty.pair (Ty.pair (Ty.int IntKind.i64) (Ty.pair (Ty.d0 true (Ty.pair (Ty.int IntKind.i64) (Ty.pair Ty.str Ty.unit))) Ty.unit)) Ty.unit))))) 128),(85,TI.mk (Ty.pair Ty.bool (Ty.pair (Ty.d0 true (Ty.pair (Ty.int IntKind.i64) (Ty.pair Ty.str Ty.unit))) (Ty.pair (Ty.pair (Ty.int IntKind.i64) (Ty.pair (Ty.d0 true Ty.str) Ty.unit)) (Ty.pair (Ty.pair (Ty.int IntKind.i64) (Ty.pair (Ty.d0 true (Ty.pair (Ty.int IntKind.i64) (Ty.pair Ty.str Ty.unit))) Ty.unit)) (Ty.pair (Ty.pair (Ty.int IntKind.i64) (Ty.pair (Ty.d0 true (Ty.pair (Ty.int IntKind.i64) (Ty.pair Ty.str Ty.unit))) Ty.unit)) Ty.unit))))) 128),(88,TI.mk (Ty.arr 6 (Ty.int IntKind.i64)) 48),(89,TI.mk (Ty.arr 6 (Ty.int IntKind.i64)) 48),(90,TI.mk (Ty.pair (Ty.int IntKind.i64) (Ty.pair (Ty.int IntKind.i64) (Ty.pair (Ty.int IntKind.i64) (Ty.pair (Ty.int IntKind.i64) (Ty.pair (Ty.int IntKind.i64) (Ty.pair (Ty.arr 6 (Ty.int IntKind.i64)) (Ty.pair Ty.str Ty.unit))))))) 104),(91,TI.mk (Ty.pair (Ty.int IntKind.i64) (Ty.pair (Ty.int IntKind.i64) (Ty.pair (Ty.int IntKind.i64) (Ty.pair (Ty.int IntKind.i64) (Ty.pair (Ty.int IntKind.i64) (Ty.pair (Ty.arr 6 (Ty.int IntKind.i64)) (Ty.pair Ty.str Ty.unit))))))) 104),(103,TI.mk (Ty.pair (Ty.int IntKind.i64) (Ty.pair Ty.str Ty.unit)) 24),(104,TI.mk (Ty.pair (Ty.int IntKind.i64) (Ty.pair Ty.str Ty.unit)) 24),(115,TI.mk (Ty.d0 true (Ty.int IntKind.u8)) 24),(117,TI.mk (Ty.int IntKind.u32) 4),(119,TI.mk (Ty.int IntKind.u64) 8),(125,TI.mk (Ty.pair (Ty.int IntKind.i64) (Ty.pair (Ty.int IntKind.i64) (Ty.pair (Ty.int IntKind.i64) Ty.unit))) 24),(126,TI.mk (Ty.pair (Ty.int IntKind.i64) (Ty.pair (Ty.int IntKind.i64) (Ty.pair (Ty.int IntKind.i64) Ty.unit))) 24),(158,TI.mk (Ty.arr 24 (Ty.int IntKind.u8)) 24),(159,TI.mk (Ty.int IntKind.u64) 8),(169,TI.mk (Ty.int IntKind.i64) 8),(176,TI.mk (Ty.arr 20 (Ty.int IntKind.u64)) 160),(177,TI.mk (Ty.arr 65 (Ty.int IntKind.u8)) 65),(181,TI.mk (Ty.arr 256 Ty.bool) 256),(182,TI.mk (Ty.arr 256 Ty.bool) 256),(206,TI.mk (Ty.pair Ty.str Ty.unit) 16),(207,TI.mk (Ty.pair Ty.str Ty.unit) 16),(208,TI.mk (Ty.arr 32 (Ty.int IntKind.u8)) 32),(209,TI.mk (Ty.arr 64 (Ty.int IntKind.u8)) 64),(211,TI.mk (Ty.arr 256 (Ty.int IntKind.u8)) 256),(212,TI.mk (Ty.pair (Ty.int IntKind.u8) (Ty.pair (Ty.int IntKind.u8) Ty.unit)) 2),(213,TI.mk (Ty.pair (Ty.int IntKind.u8) (Ty.pair (Ty.int IntKind.u8) Ty.unit)) 2),(214,TI.mk (Ty.arr 16 (Ty.pair (Ty.int IntKind.u8) (Ty.pair (Ty.int IntKind.u8) Ty.unit))) 32),(222,TI.mk (Ty.int IntKind.u8) 1),(223,TI.mk (Ty.int IntKind.u8) 1),(225,TI.mk (Ty.int IntKind.i32) 4),(226,TI.mk (Ty.int IntKind.i32) 4),(25,{ ty:=Ty.box true none s6,by_:=8 }),(94,{ ty:=Ty.fn 79,by_:=8 })]
theorem p7:tt.all (wI Tryz.prog)=true:=by kernel_rfl
theorem own:ownKnob Tryz.prog.godebug=none:=by kernel_rfl
theorem laid:laidOutB Tryz.prog=true:=by kernel_rfl
abbrev _root_.Go.Ex.Tree.ctL {ts:List Ty} (q:Code×List Item) (s:St):Tree ts:=.cut q.1 q.2 s
end Go.Proofs.YtijlnmgondibnaaGreatDoor
namespace Go.Proofs.YtijlnmgondibnaaGreatDoor
open Go.Ex Go.ChangeShapes Go.WideShapes Go.ChangeAt Go.RowKit
set_option maxRecDepth 100000
theorem XU {X:Type} {enc:TypeId×Value->X} {C:Checked} {os:Os} {f:FuncId} {fn:Func} {s:OpenSpec} {k:(H:Type)->List (DataW H)->Bool} (hk:s.cond=some k) {F:Stop.Interp} {conds:List PathCond} {apart fresh handsOn again:Bool} {us:List Ty} {tb:TypeId} {a:Assume} {Y:World->Array Value->Prop}
    (hX:∀ (w w':World) (args:Array Value),w.heap=w'.heap->Y w args->Y w' args)
    (own:ownKnob C.prog.godebug=none) (started:os.Started) (noInit:C.prog.inits.idxOf? f=none) (jy:C.prog.funcs[f]?=some fn)
    (witness:∃ (w:World) (tape:Tape) (i:Input),w.os=os/\(w.forCall tape i).Shaped C.prog/\i.vars=[]/\Input.okWide C.prog (w.forCall tape i) .any w.heap.size f i /\
      ((s.pre enc C.prog fn conds apart (w.forCall tape i).memory i.args/\Y (w.forCall tape i).memory i.args)/\sizedMet enc C.prog fn s apart (w.forCall tape i).memory i.args)/\a.holds C.prog (lone (Frame.enter C.prog f i.args .normal) [] (w.forCall tape i)))
    (sq:∀ ds:List (DataW X),k X ds=true->S4 ds<=1048576)
    (hl:laidOutB C.prog=true) (df:yc C.prog fn.params.toList us=true) (fE:s.vars=[]) (hs:∀ ds:List (DataW X),ds.length=fn.params.toList.length->s.fn F X ds={ results:=[.lit (.bool true)],args:=ds })
    (eI:fn.resultTypes=#[tb]) (nB:C.prog.underlying tb=some .bool) (hv:(Lq us).Valid C.prog f) (dX:∀ W args,W.ShapedOpen C.prog->Y W args->uM C.prog W (λ b=>b<W.heap.size)) :
    ReturnsInHanded a C os f .any (λ w args=>(s.pre enc C.prog fn conds apart w args/\Y w args)/\sizedMet enc C.prog fn s apart w args) ((s.at F).post enc C.prog fn apart fresh handsOn again):=by
  refine returnsInHanded_of_calls own started noInit witness ?_;intro w tape i _ ch _ aM bc po;obtain ⟨_,_,_,fn',iE,_,_,_,_,dD⟩:=aM;have e:fn'=fn:=Option.some.inj (iE.symm.trans jy);subst e;obtain ⟨⟨lu,hx⟩,hz⟩:=bc;obtain ⟨ds,gs,before,hw,hc,mD⟩:=(OpenSpec.pre_some hk conds apart _ _).1 lu;have gJ:=DataW.Whole.of_heap (w':=w.forCall tape i) (by rfl) hw;have hg:gs=[]:=by
    obtain ⟨p,q,hA,hV,_⟩:=hw;rw [fE] at hV;exact (trodVars_none hV).1
  subst hg;rw [List.append_nil] at mD;refine (XT (s:=s.at F) (apart:=apart) (fresh:=fresh) (handsOn:=handsOn) (again:=again) hl df fE hs eI nB hv (dX _ _ ch (hX _ _ _ (by rfl) hx)) (λ x hx=>Nat.le_trans hx (sq ds mD)) dD gJ).mono λ e W' ⟨v,he,hp⟩=>?_;subst he;exact ChangeSpec.post_blind hp
theorem Lu {P:Program} {W:World} {n:String} {g:Nat} {cs:Array Value} (hg:P.globalNamed n=some g) (h:W.var? P n=some cs):g<W.heap.size:=by
  unfold World.var? at h;rw [hg,Option.bind_some] at h;by_cases bf:g<W.heap.size
  . exact bf
  . rw [Array.getElem?_eq_none (by omega)] at h;cases h
theorem Vt {P:Program} {W:World} {n:String} {g:Nat} {v:Value} (hg:P.globalNamed n=some g) (h:W.cell? ⟨g,0,none⟩=some v):∃ cs,W.var? P n=some cs/\cs[0]?=some v:=by
  unfold World.var?;rw [hg,Option.bind_some];unfold World.cell? at h;split at h
  . rename_i cs T fz hh;exact ⟨cs,by rw [hh],h⟩
  . cases h
theorem Ux {l:List (String×DataW Unit)} {W:World} (ch:W.ShapedOpen Tryz.prog) (hl:laidMetH Tryz.prog l W) (hf:(l.filter λ x=>x.2.handleName?.isSome)=[]) (hm:("internal/strconv.uint64pow10",Rows.laid_internal_strconv_uint64pow10)∈l) :
    uM Tryz.prog W (λ b=>b<W.heap.size):=by
  unfold laidMetH at hl;rw [hf] at hl;obtain ⟨g,t,cs,fuel,p,h1,h2,h3,h4⟩:=Lib.laidMet.reads hl hm;intro x hx g' jV;simp only [GG,List.mem_cons,List.mem_nil_iff,or_false] at hx;rcases hx with rfl|rfl
  . refine ⟨Lu jV h3,cs,h3,?_⟩;obtain rfl:=Option.some.inj ((show Tryz.prog.globalNamed "internal/strconv.uint64pow10"=some 0 by kernel_rfl).symm.trans h1)
    obtain rfl:=Option.some.inj ((show (Tryz.prog.globals[0]?).map (·.type)=some 176 by kernel_rfl).symm.trans h2);have:=Lib.cells_of_tab (n:=20) (e:=159) (k:=.u64) (zs:=(List.range 20).map λ i=>((10^i:Nat):Int)) (by kernel_rfl) (by kernel_rfl) (by kernel_rfl) (by kernel_rfl) h4;rw [<- this]
  . obtain rfl:=Option.some.inj ((show Tryz.prog.globalNamed "internal/bytealg.MaxLen"=some 1 by kernel_rfl).symm.trans jV)
    obtain ⟨m,hm⟩:=cell_of_shapedOpen_int (g:=1) (t:=3) (zero:=#[.int .i64 0]) (k:=.i64) ch (Nat.le_of_ble_eq_true (by kernel_rfl)) (by kernel_rfl) rfl (by kernel_rfl) (by kernel_rfl) (by kernel_rfl);obtain ⟨cs,k1,k2⟩:=Vt (show Tryz.prog.globalNamed "internal/bytealg.MaxLen"=some 1 by kernel_rfl) hm
    exact ⟨Lu (show Tryz.prog.globalNamed "internal/bytealg.MaxLen"=some 1 by kernel_rfl) k1,cs,k1,m,k2⟩
end Go.Proofs.YtijlnmgondibnaaGreatDoor
namespace Go.Proofs.YtijlnmgondibnaaGreatDoor
open Go.Ex
set_option maxRecDepth 100000
theorem F1 {n:Int}:r9 .i64 n↔-9223372036854775808<=n/\n<=9223372036854775807:=Iff.rfl
theorem sL:(∀p,(True/\p)=p)/\(∀p:Prop,(True->p)=p)/\(∀(p:Prop)[Decidable p],(decide p=true)=p)/\(∀(p:Prop)[Decidable p],(decide p=false)=¬p)/\(∀b:Bool,((!b)=true)=(b=false))/\(∀b:Bool,((!b)=false)=(b=true))/\(∀n:Nat,Int.toNat (n:Int)=n)/\(∀n,r9 .i64 n=(-9223372036854775808<=n/\n<=9223372036854775807))/\(∀(α:Type)(l:List α)(i:Nat)(a:α),(l.set i a).length=l.length)/\(∀(α:Type)(a:α)(l:List α),(a::l).length=l.length+1)/\(∀α:Type,([]:List α).length=0):=
  ⟨λ _=>true_and _,λ _=>true_implies _,λ _ _=>decide_eq_true_eq,λ _ _=>propext decide_eq_false_iff_not,λ _=>Bool.not_eq_true' _,λ _=>Bool.not_eq_false' _,λ _=>rfl,λ _=>propext F1,λ _ _ _ _=>List.length_set,λ _ _ _=>rfl,λ _=>rfl⟩
theorem TR:Ty.wb e8=8:=rfl
theorem FR:Ty.wb U8=1:=rfl
theorem yes:((true,()):Bool×Unit)=(true,()):=rfl
theorem Jh {α:Type} {l:List α} {i:Nat} (h:i<l.length) (d:α):l.drop i=l.getD i d::l.drop (i+1):=by
  rw [List.drop_eq_getElem_cons h,List.getD_eq_getElem?_getD,List.getElem?_eq_getElem h]; rfl
theorem Dq {α:Type} {l:List α} {i:Nat} {d:α} (h:i<l.length):l.getD i d∈l:=by
  rw [List.getD_eq_getElem?_getD,List.getElem?_eq_getElem h]; exact List.getElem_mem h
theorem WB {α:Type} {l:List α} {x d:α} (h:x∈l):∃ i,i<l.length/\l.getD i d=x:=by
  obtain ⟨i,hi,e⟩:=List.getElem_of_mem h;exact ⟨i,hi,by rw [List.getD_eq_getElem?_getD,List.getElem?_eq_getElem hi,e]; rfl⟩
theorem Y9 {α:Type} {l:List α} {i j:Nat} {x d:α} (h:i<l.length):(l.set i x).getD j d=if j=i then x else l.getD j d:=by
  rw [List.getD_eq_getElem?_getD,List.getD_eq_getElem?_getD,List.getElem?_set];by_cases e:i=j
  . subst e; simp [h]
  . rw [if_neg e,if_neg (λ h=>e h.symm)]
theorem eq_of_getD {α:Type} {l m:List α} {d:α} (hl:l.length=m.length) (h:∀ i,i<l.length->l.getD i d=m.getD i d):l=m:=by
  refine List.ext_getElem hl (λ i h1 h2=>?_);have:=h i h1
  rwa [List.getD_eq_getElem?_getD,List.getD_eq_getElem?_getD,List.getElem?_eq_getElem h1,List.getElem?_eq_getElem h2] at this
theorem b3w {α:Type} {n i:Nat} (f:Nat->α) (x:α) (hi:i<n):((List.range n).map f).set i x=(List.range n).map (λ j=>if j=i then x else f j):=by
  refine List.ext_getElem (by simp) (λ j h1 h2=>?_);rw [List.getElem_set];simp only [List.getElem_map,List.getElem_range];by_cases e:i=j
  . rw [if_pos e,if_pos e.symm]
  . rw [if_neg e,if_neg (λ h=>e h.symm)]
def Z7 {α:Type} (p:α->Bool):List α->Nat->Int
  | [],_=>-1
  | x::l,i=>if p x=true then (i:Int) else Z7 p l (i+1)
def idxOf {α:Type} (p:α->Bool) (l:List α):Int:=Z7 p l 0
theorem IW {α:Type} {p:α->Bool}:∀ {l:List α} {i:Nat},0<=Z7 p l i↔∃ x∈l,p x=true
  | [],i=>by simp [Z7]
  | x::l,i=>by
    rw [Z7]
    split
    . rename_i h; exact ⟨λ _=>⟨x,by simp,h⟩,λ _=>by omega⟩
    . rename_i h;rw [IW];constructor
      . rintro ⟨y,h1,h2⟩; exact ⟨y,by simp [h1],h2⟩
      . rintro ⟨y,h1,h2⟩;rcases List.mem_cons.1 h1 with rfl|h1
        . exact absurd h2 h
        . exact ⟨y,h1,h2⟩
theorem GU {α:Type} {p:α->Bool} {l:List α}:decide (0<=idxOf p l)=l.any p:=by
  cases e:l.any p with
  | true =>
    obtain ⟨x,h1,h2⟩:=List.any_eq_true.1 e;exact decide_eq_true (IW.2 ⟨x,h1,h2⟩)
  | false =>
    refine decide_eq_false (λ h=>?_);obtain ⟨x,h1,h2⟩:=IW.1 h;rw [List.any_eq_true.2 ⟨x,h1,h2⟩] at e;cases e
end Go.Proofs.YtijlnmgondibnaaGreatDoor
namespace Go.Proofs.YtijlnmgondibnaaGreatDoor
def step (r:Nat):Nat:=if r % 2=1 then (r / 2) ^^^ 2197175160 else r / 2
theorem Um {r:Nat} (h:r<4294967296):step r<4294967296:=by
  unfold step
  split
  . exact Nat.xor_lt_two_pow (n:=32) (by omega) (by decide)
  . omega
def steps:Nat->Nat->Nat
  | 0,r=>r
  | k+1,r=>steps k (step r)
theorem Io:∀ (k:Nat) {r:Nat},r<4294967296->steps k r<4294967296
  | 0,_,h=>h
  | k+1,_,h=>Io k (Um h)
theorem Ps:∀ (a b r:Nat),steps (a+b) r=steps b (steps a r)
  | 0,b,r=>by rw [Nat.zero_add]; rfl
  | a+1,b,r=>by rw [show a+1+b=(a+b)+1 by omega]; simp only [steps]; exact Ps a b _
def byt (r b:Nat):Nat:=steps 8 (r ^^^ b)
def reg (r:Nat) (s:yY):Nat:=s.foldl (λ r b=>byt r b.toNat) r
def uU (s:yY):Nat:=reg 4294967295 s ^^^ 4294967295
theorem Uh (r:Nat) (s t:yY):reg r (s++t)=reg (reg r s) t:=by simp [reg]
theorem SC {r:Nat} (h:r<4294967296) (b:UInt8):byt r b.toNat<4294967296:=Io 8 (Nat.xor_lt_two_pow (n:=32) h (by have:=b.toNat_lt; omega))
theorem LG:∀ {s:yY} {r:Nat},r<4294967296->reg r s<4294967296
  | [],_,h=>h
  | b::s,r,h=>show reg (byt r b.toNat) s<_ from LG (SC h b)
def le4 (x:Nat):yY:=[UInt8.ofNat x,UInt8.ofNat (x / 2^8),UInt8.ofNat (x / 2^16),UInt8.ofNat (x / 2^24)]
end Go.Proofs.YtijlnmgondibnaaGreatDoor
namespace Go.Proofs.YtijlnmgondibnaaGreatDoor
open Go.Ex
set_option maxRecDepth 100000
def inF (n a b:Int):Bool:=decide (a<=n) && decide (n<=b)
theorem wU {n a b:Int}:inF n a b=true↔a<=n/\n<=b:=by simp [inF]
theorem GN {α:Type} {l:List α} {i j:Int} (h0:0<=i) (h1:i<=j) (h2:j<=(l.length:Int)):n6 j (l.length:Int) l=l.drop j.toNat:=by
  rw [n6]; exact List.take_of_length_le (by rw [List.length_drop]; omega)
theorem LU {α:Type} {l:List α} {i j:Int} (h0:0<=i) (h1:i<=j) (h2:j<=(l.length:Int)):((n6 j (l.length:Int) l).length:Int)=(l.length:Int) - j/\(List.take i.toNat l++n6 j (l.length:Int) l++List.drop (i.toNat+(n6 j (l.length:Int) l).length) l).length=l.length:=by
  rw [GN h0 h1 h2];simp only [List.length_append,List.length_take,List.length_drop];omega
theorem Us {α:Type} {l:List α} {d:List α} {i j:Int} (h0:0<=i) (h1:i<=j) (h2:j<=(l.length:Int)) {r:Nat} :
    n6 (0:Int) (i+(↑(List.length (n6 j (↑(List.length l):Int) l)):Int)) (List.take (Int.toNat ((0:Int)+(i+(↑(List.length (n6 j (↑(List.length l):Int) l)):Int) - (0:Int)))) (List.take (Int.toNat i) l++n6 j (↑(List.length l):Int) l++List.drop (Int.toNat i+List.length (n6 j (↑(List.length l):Int) l)) l)++d++List.drop r (List.take (Int.toNat i) l++n6 j (↑(List.length l):Int) l++List.drop (Int.toNat i+List.length (n6 j (↑(List.length l):Int) l)) l))=List.take i.toNat l++List.drop j.toNat l:=by
  obtain ⟨e1,e2⟩:=LU h0 h1 h2 (l:=l);rw [GN h0 h1 h2] at e1 e2 ⊢;generalize hX:List.take i.toNat l++List.drop j.toNat l++List.drop (i.toNat+(List.drop j.toNat l).length) l=X at e2 ⊢;have em:(0+(i+((List.drop j.toNat l).length:Int) - 0)).toNat=(List.take i.toNat l++List.drop j.toNat l).length:=by
    simp only [List.length_append,List.length_take]; omega
  have en:(i+((List.drop j.toNat l).length:Int) - 0).toNat=(List.take i.toNat l++List.drop j.toNat l).length:=by
    simp only [List.length_append,List.length_take]; omega
  rw [n6,em,en,Int.toNat_zero,List.drop_zero,List.append_assoc,List.take_append_of_le_length (by
    rw [List.length_take,e2];simp only [List.length_append,List.length_take,List.length_drop]; omega),List.take_take,Nat.min_self,<- hX,List.take_left]
def rest (a n:Int):Int:=if n<=0 then 0 else Int.tmod (Int.tmod a n+n) n
def FQ:o7:={ ps:=[.v e8,.v e8],rs:=[e8],pre:=λ x=>LE.le (α:=Int) x.2.1 1000000000,fn:=λ x=>(rest x.1 x.2.1,()),out:=λ _=>() }
noncomputable def Fk:Env:={ P:=Tryz.prog,tt:=tt,C7:=[],res:=[Go.ResultVar.tmp 4],rs:=[Ty.int IntKind.i64],ps:=[PK.v e8,PK.v e8],B0:=[],nt:=14 }
theorem Ns:w7 Fk:=x8 p7 trivial
theorem NJ:C2 Fk Tryz.f39:=⟨rfl,rfl⟩
theorem Tu (x0:Int) (x1:Int):exec Fk 1000 [.code (d8 Tryz.prog 39)] (s9 FQ.ps ((x0,x1,()))) =
  cond (decide (x1<=(0:Int))) (.ret (((0:Int),()))) (.f7 ((0:Int)<x1) (.f7 (r9 IntKind.i64 (Int.tmod x0 x1+x1)) (.f7 ((0:Int)<x1) (.ret ((Int.tmod (Int.tmod x0 x1+x1) x1,())))))):=by kernel_rfl
theorem b7a:FQ.Valid Tryz.prog 39:=by
  refine o7.o5 Ns rfl rfl Tryz.func39 (c:=d8 Tryz.prog 39) rfl rfl NJ rfl ?_;rintro ⟨(x0:Int),(x1:Int),⟨⟩⟩ hp -
  refine j6 (n:=1000) Ns NJ ?_;refine i6 (Tu x0 x1) ?_;have hp:x1<=1000000000:=hp;simp only [j7,Tree.holds,sL];refine ⟨λ a=>?_,λ a=>?_⟩
  . show ((0,()):Int×Unit)=(rest x0 x1,());rw [rest,if_pos a]
  . have h0:0<x1:=by omega
    have h1:=Int.tmod_lt_of_pos x0 h0;have h2:-x1<Int.tmod x0 x1:=by
      have:=Int.tmod_lt_of_pos (-x0) h0;rw [Int.neg_tmod] at this;omega
    refine ⟨h0,λ _=>⟨by omega,λ _=>⟨h0,λ _=>?_⟩⟩⟩;show ((_,()):Int×Unit)=(rest x0 x1,());rw [rest,if_neg a]
theorem MD {a n:Int} (h:0<n):0<=rest a n/\rest a n<n:=by
  have h1:=Int.tmod_lt_of_pos (-a) h;rw [Int.neg_tmod] at h1;rw [rest,if_neg (by omega)];exact ⟨Int.tmod_nonneg _ (by omega),Int.tmod_lt_of_pos _ h⟩
theorem LP {α:Type} {l:List α} {i:Nat}:n6 0 (i:Int) l=l.take i:=by
  rw [n6,show ((i:Int) - 0).toNat=i by omega]; rfl
end Go.Proofs.YtijlnmgondibnaaGreatDoor
namespace Go.Proofs.YtijlnmgondibnaaGreatDoor
open Go.Ex
instance {k:IntKind} {n:Int}:Decidable (r9 k n):=inferInstanceAs (Decidable (_/\_))
def bit (x:Int) (i:Nat):Bool:=x.toNat.testBit i
section
variable {k:IntKind} {x y:Int}
theorem Ax (hk:k.signed=false):r9 k x↔0<=x/\x<2^k.bits:=by
  cases k<;>simp [IntKind.signed] at hk<;>simp [r9,IntKind.min,IntKind.max,IntKind.signed,IntKind.bits]<;>omega
theorem Cx (hk:k.signed=false) (b:BitVec k.bits):k.wrap (b.toNat:Int)=(b.toNat:Int):=by
  refine R5 ((Ax hk).2 ⟨Int.natCast_nonneg _,?_⟩);have:=b.isLt
  exact_mod_cast this
theorem xx (hk:k.signed=false) (hx:r9 k x) (i:Nat):(BitVec.ofInt k.bits x).getLsbD i=bit x i:=by
  obtain ⟨h0,h1⟩:=(Ax hk).1 hx;obtain ⟨n,rfl⟩:=Int.eq_ofNat_of_zero_le h0;have hn:n<2^k.bits:=by exact_mod_cast h1
  rw [BitVec.ofInt_natCast,BitVec.getLsbD_ofNat];simp only [bit,Int.toNat_natCast];by_cases hi:i<k.bits
  . simp [hi]
  . have:n.testBit i=false:=Nat.testBit_lt_two_pow (Nat.lt_of_lt_of_le hn (Nat.pow_le_pow_right (by omega) (by omega)));simp [this]
theorem UU (hk:k.signed=false) (hx:r9 k x) {i:Nat} (hi:k.bits<=i):bit x i=false:=by
  obtain ⟨h0,h1⟩:=(Ax hk).1 hx;obtain ⟨n,rfl⟩:=Int.eq_ofNat_of_zero_le h0;have hn:n<2^k.bits:=by exact_mod_cast h1
  exact Nat.testBit_lt_two_pow (Nat.lt_of_lt_of_le hn (Nat.pow_le_pow_right (by omega) hi))
theorem LM (hk:k.signed=false) (hx:r9 k x) (hy:r9 k y) (i:Nat):bit (T5 k x y) i=(bit x i && bit y i):=by
  rw [T5,Cx hk,bit,Int.toNat_natCast,BitVec.testBit_toNat,BitVec.getLsbD_and,xx hk hx,xx hk hy]
theorem Lp (hk:k.signed=false) (hx:r9 k x) (hy:r9 k y) (i:Nat):bit (bOr k x y) i=(bit x i || bit y i):=by
  rw [bOr,Cx hk,bit,Int.toNat_natCast,BitVec.testBit_toNat,BitVec.getLsbD_or,xx hk hx,xx hk hy]
theorem UW (hk:k.signed=false) (hx:r9 k x) (hy:r9 k y) (i:Nat):bit (vf k x y) i=(bit x i ^^ bit y i):=by
  rw [vf,Cx hk,bit,Int.toNat_natCast,BitVec.testBit_toNat,BitVec.getLsbD_xor,xx hk hx,xx hk hy]
theorem Yt (hk:k.signed=false) (hx:r9 k x) (hy:r9 k y) (i:Nat):bit (V9 k x y) i=(bit x i && !bit y i):=by
  rw [V9,Cx hk,bit,Int.toNat_natCast,BitVec.testBit_toNat,BitVec.getLsbD_and,BitVec.getLsbD_not,xx hk hx,xx hk hy];by_cases hi:i<k.bits
  . simp [hi]
  . rw [UU hk hx (by omega)]; simp
theorem Lj:r9 k (T5 k x y):=R9 _ _
theorem Fz:r9 k (bOr k x y):=R9 _ _
theorem TT:r9 k (vf k x y):=R9 _ _
theorem Xp:r9 k (V9 k x y):=R9 _ _
theorem Nn (hx:0<=x) (hy:0<=y) (h:∀ i,bit x i=bit y i):x=y:=by
  have:x.toNat=y.toNat:=Nat.eq_of_testBit_eq h;omega
end
theorem u8s:IntKind.u8.signed=false:=rfl
theorem u8_in {x:Int}:r9 .u8 x↔0<=x/\x<=255:=Iff.rfl
def KT (n:Nat):Nat:=((List.range 8).map λ i=>(n.testBit i).toNat).sum
def vp (m:Int):Int:=(KT m.toNat:Int)
theorem UJ (m:Int):vp m=((bit m 0).toNat+(bit m 1).toNat+(bit m 2).toNat+(bit m 3).toNat+(bit m 4).toNat+(bit m 5).toNat+(bit m 6).toNat+(bit m 7).toNat:Nat):=by
  simp only [vp,KT,List.range,List.range.loop,List.map_cons,List.map_nil,List.sum_cons,List.sum_nil,bit];omega
theorem toNat_le (b:Bool):b.toNat<=1:=by cases b<;>decide
theorem UK (m:Int):0<=vp m/\vp m<=8:=by
  rw [UJ];have:=toNat_le (bit m 0); have:=toNat_le (bit m 1); have:=toNat_le (bit m 2); have:=toNat_le (bit m 3);have:=toNat_le (bit m 4); have:=toNat_le (bit m 5); have:=toNat_le (bit m 6); have:=toNat_le (bit m 7);omega
end Go.Proofs.YtijlnmgondibnaaGreatDoor
namespace Go.Proofs.YtijlnmgondibnaaGreatDoor
open Go.Ex
set_option maxRecDepth 100000
theorem zo {n:Int}:r9 .u32 n↔0<=n/\n<=4294967295:=Iff.rfl
theorem Vo {k:IntKind} (hk:k.signed=false) {a b:Nat} (ha:r9 k a) (hb:r9 k b):vf k (a:Int) (b:Int)=((a ^^^ b:Nat):Int) :=
  Nn ((Ax hk).1 TT).1 (Int.natCast_nonneg _) (λ i=>by rw [UW hk ha hb]; simp [bit,Nat.testBit_xor])
theorem Vn {k:IntKind} (hk:k.signed=false) {a b:Nat} (ha:r9 k a) (hb:r9 k b):T5 k (a:Int) (b:Int)=((a &&& b:Nat):Int) :=
  Nn ((Ax hk).1 Lj).1 (Int.natCast_nonneg _) (λ i=>by rw [LM hk ha hb]; simp [bit,Nat.testBit_and])
theorem FT {a b:Nat} (ha:a<4294967296) (hb:b<4294967296):vf .u32 (a:Int) (b:Int)=((a ^^^ b:Nat):Int):=Vo rfl (zo.2 ⟨by omega,by omega⟩) (zo.2 ⟨by omega,by omega⟩)
theorem SK {a:Nat} (ha:a<4294967296):T5 .u32 (a:Int) 1=((a % 2:Nat):Int):=by
  have:=Vn (k:=.u32) rfl (a:=a) (b:=1) (zo.2 ⟨by omega,by omega⟩) (zo.2 ⟨by omega,by omega⟩);rw [Nat.and_one_is_mod] at this;exact this
def Ca:o7:={ ps:=[.v .str],rs:=[.int .u32],pre:=λ _=>True,fn:=λ x=>(((uU x.1:Nat):Int),()),out:=λ _=>() }
noncomputable def zJ:Env:={ P:=Tryz.prog,tt:=tt,C7:=[],res:=[Go.ResultVar.tmp 2],rs:=[Ty.int IntKind.u32],ps:=[PK.v Ty.str],B0:=[(3,[(0,none),(3,none),(7,none),(8,none)]),(7,[(0,none),(3,none),(7,none),(8,none),(17,none)])],nt:=31 }
theorem CM:w7 zJ:=x8 p7 trivial
theorem CO:C2 zJ Tryz.f63:=⟨rfl,rfl⟩
theorem SV (x0:yY):exec zJ 1000 [.code (d8 Tryz.prog 63)] (s9 Ca.ps ((x0,()))) =
  .ctL (f9 (d8 Tryz.prog 63) 3) (St.mk [(0,AV.val Ty.str x0),(3,AV.val (Ty.int IntKind.u32) (4294967295:Int)),(7,AV.val e8 (↑(List.length x0):Int)),(8,AV.val e8 (0:Int))] []):=by kernel_rfl
def Mh (v0:yY) (v3:Int) (v7:Int) (v8:Int):St:=St.mk [(0,AV.val Ty.str v0),(3,AV.val (Ty.int IntKind.u32) v3),(7,AV.val e8 v7),(8,AV.val e8 v8)] []
theorem TU (v0:yY) (v3:Int) (v7:Int) (v8:Int):exec zJ 1000 (.code (f9 (d8 Tryz.prog 63) 3).1::.inLoop (f9 (d8 Tryz.prog 63) 3).1::(f9 (d8 Tryz.prog 63) 3).2) (Mh v0 v3 v7 v8) =
  cond (decide (v8<v7)) (.f7 ((0:Int)<=v8/\v8<(↑(List.length v0):Int)) (.ctL (f9 (d8 Tryz.prog 63) 7) (St.mk [(0,AV.val Ty.str v0),(3,AV.val (Ty.int IntKind.u32) (vf IntKind.u32 v3 (IntKind.wrap IntKind.u32 (↑(UInt8.toNat (List.getD v0 (Int.toNat v8) (0:UInt8))):Int)))),(7,AV.val e8 v7),(8,AV.val e8 v8),(17,AV.val e8 (0:Int))] []))) (.ret ((vf IntKind.u32 (if IntKind.signed IntKind.u32=true then (-1:Int) else IntKind.max IntKind.u32) v3,()))):=by kernel_rfl
def Mi (v0:yY) (v3:Int) (v7:Int) (v8:Int) (uS:Int):St:=St.mk [(0,AV.val Ty.str v0),(3,AV.val (Ty.int IntKind.u32) v3),(7,AV.val e8 v7),(8,AV.val e8 v8),(17,AV.val e8 uS)] []
theorem TV (v0:yY) (v3:Int) (v7:Int) (v8:Int) (uS:Int):exec zJ 1000 (.code (f9 (d8 Tryz.prog 63) 7).1::.inLoop (f9 (d8 Tryz.prog 63) 7).1::(f9 (d8 Tryz.prog 63) 7).2) (Mi v0 v3 v7 v8 uS) =
  cond (decide (uS<(8:Int))) (.f7 ((0:Int)<=(1:Int)) (cond (decide (T5 IntKind.u32 v3 (1:Int)=(1:Int))) (.f7 (r9 IntKind.i64 (uS+(1:Int))) (.ctL (f9 (d8 Tryz.prog 63) 7) (St.mk [(0,AV.val Ty.str v0),(3,AV.val (Ty.int IntKind.u32) (vf IntKind.u32 (v3 / (2:Int)^min (Int.toNat (1:Int)) (IntKind.bits IntKind.u32)) (2197175160:Int))),(7,AV.val e8 v7),(8,AV.val e8 v8),(17,AV.val e8 (uS+(1:Int)))] []))) (.f7 (r9 IntKind.i64 (uS+(1:Int))) (.ctL (f9 (d8 Tryz.prog 63) 7) (St.mk [(0,AV.val Ty.str v0),(3,AV.val (Ty.int IntKind.u32) (v3 / (2:Int)^min (Int.toNat (1:Int)) (IntKind.bits IntKind.u32))),(7,AV.val e8 v7),(8,AV.val e8 v8),(17,AV.val e8 (uS+(1:Int)))] []))))) (.f7 (r9 IntKind.i64 (v8+(1:Int))) (.ctL (f9 (d8 Tryz.prog 63) 3) (St.mk [(0,AV.val Ty.str v0),(3,AV.val (Ty.int IntKind.u32) v3),(7,AV.val e8 v7),(8,AV.val e8 (v8+(1:Int)))] []))):=by kernel_rfl
theorem Zy (k r:Nat):steps (k+1) r=step (steps k r):=by rw [Ps k 1]; rfl
theorem VS {s:yY} {i:Nat} (h:i<s.length) (r:Nat):reg r (s.take (i+1))=steps 8 (reg r (s.take i) ^^^ (s.getD i 0).toNat):=by
  rw [List.take_add_one,List.getElem?_eq_getElem h,Uh,List.getD_eq_getElem?_getD,List.getElem?_eq_getElem h];rfl
theorem Qe:Ca.Valid Tryz.prog 63:=by
  refine o7.o5 CM rfl rfl Tryz.func63 (c:=d8 Tryz.prog 63) rfl rfl CO rfl ?_;rintro ⟨(s:yY),⟨⟩⟩ - ⟨hl,-⟩;have hl:s.length<=9223372036854775807:=hl;refine j6 (n:=1000) CM CO ?_;refine i6 (SV s) ?_;refine Reach.M9 CM CO (λ i:Nat=>Mh s ((reg 4294967295 (s.take i):Nat):Int) (s.length:Int) (i:Int)) (λ i=>i<=s.length)
    (λ i=>s.length - i) 1000 (λ i=>⟨u7 rfl,u7 rfl⟩) ?_ 0 (by omega)
  rintro i hi - ih;refine i6 (TU ..) ?_;simp only [j7,Tree.holds,sL];have hr:=LG (s:=s.take i) (r:=4294967295) (by decide);have hb:(s.getD i 0).toNat<256:=UInt8.toNat_lt _;refine ⟨λ a=>⟨⟨by omega,by omega⟩,λ _=>?_⟩,λ a=>?_⟩
  . have tS:reg 4294967295 (s.take i) ^^^ (s.getD i 0).toNat<4294967296:=Nat.xor_lt_two_pow (n:=32) hr (by omega);rw [show IntKind.wrap IntKind.u32 ((s.getD i 0).toNat:Int)=((s.getD i 0).toNat:Int) from R5 (zo.2 ⟨by omega,by omega⟩),FT hr (by omega)];refine Reach.M9 CM CO (λ j:Nat=>Mi s ((steps j (reg 4294967295 (s.take i) ^^^ (s.getD i 0).toNat):Nat):Int) (s.length:Int) (i:Int) (j:Int)) (λ j=>j<=8)
      (λ j=>8 - j) 1000 (λ i=>⟨u7 rfl,u7 rfl⟩) ?_ 0 (by omega)
    rintro j hj - ih2;refine i6 (TV ..) ?_;have hs:=Io j tS;have hn:=Zy j (reg 4294967295 (s.take i) ^^^ (s.getD i 0).toNat);have he:steps 8 (reg 4294967295 (s.take i) ^^^ (s.getD i 0).toNat)=reg 4294967295 (s.take (i+1))\/¬ i<s.length:=by
      by_cases h:i<s.length
      . exact .inl (VS h _).symm
      . exact .inr h
    generalize hR:steps j (reg 4294967295 (s.take i) ^^^ (s.getD i 0).toNat)=r at *
    have hd:((r:Nat):Int) / 2^min (Int.toNat 1) (IntKind.bits IntKind.u32)=((r / 2:Nat):Int):=by
      show ((r:Nat):Int) / 2^1=_;omega
    rw [hd,SK hs,show (2197175160:Int)=((2197175160:Nat):Int) from rfl,FT (by omega) (by decide)];simp only [j7,Tree.holds,decide_eq_true_eq,decide_eq_false_iff_not];have hk:r9 .i64 ((j:Int)+1):=F1.2 ⟨by omega,by omega⟩;refine ⟨λ b=>⟨by decide,λ _=>⟨λ c=>⟨hk,λ _=>?_⟩,λ c=>⟨hk,λ _=>?_⟩⟩⟩,λ b=>⟨F1.2 ⟨by omega,by omega⟩,λ _=>?_⟩⟩
    . have h9:=ih2 (j+1) (by omega) (by omega);rw [hn,step,if_pos (by omega)] at h9;exact h9
    . have h9:=ih2 (j+1) (by omega) (by omega);rw [hn,step,if_neg (by omega)] at h9;exact h9
    . have sA:j=8:=by omega
      subst sA;rw [hR] at he;have h9:=ih (i+1) (by omega) (by omega);rw [<- he.resolve_right (λ h=>h (by omega))] at h9;exact h9
  . have hi:i=s.length:=by omega
    subst hi;rw [List.take_length] at hr ⊢;show (vf .u32 4294967295 ((reg 4294967295 s:Nat):Int),())=(((uU s:Nat):Int),());rw [show (4294967295:Int)=((4294967295:Nat):Int) from rfl,FT (by decide) hr,uU,Nat.xor_comm]
end Go.Proofs.YtijlnmgondibnaaGreatDoor
namespace Go.Proofs.YtijlnmgondibnaaGreatDoor
open Go.Ex
section
variable {α:Type} {p:α->Bool} {d:α}
theorem Oz:∀ {l:List α} {j:Nat},Z7 p l j≠-1->∃ k:Nat,Z7 p l j=((j+k:Nat):Int)/\k<l.length/\p (l.getD k d)=true/\∀ i,i<k->p (l.getD i d)=false
  | [],_,h=>absurd rfl h
  | y::l,j,h=>by
    by_cases hy:p y=true
    . exact ⟨0,by rw [Z7,if_pos hy]; rfl,by simp,hy,λ i hi=>by omega⟩
    . rw [Z7,if_neg hy] at h ⊢;obtain ⟨k,h1,h2,h3,h4⟩:=Oz h;refine ⟨k+1,by rw [h1]; congr 1; omega,by simp; omega,h3,λ i hi=>?_⟩;cases i with
      | zero=>simpa using hy
      | succ i=>exact h4 i (by omega)
structure Y7 (p:α->Bool) (l m:List α) (i j:Nat):Prop where
  tk:m.take i=(l.take j).filter (λ x=>!p x)
  dr:m.drop j=l.drop j
  len:m.length=l.length
  lt:i<j
  le:j<=l.length
theorem CJ {l:List α} {i:Nat} (h:i<l.length) (d:α):l.take (i+1)=l.take i++[l.getD i d]:=by
  rw [List.getD_eq_getElem?_getD,List.getElem?_eq_getElem h]; simp
theorem Zo:∀ {l:List α},(∀ x∈l,p x=false)->l.filter (λ x=>!p x)=l:=λ h=>List.filter_eq_self.2 (λ x hx=>by rw [h x hx]; rfl)
theorem Y7.start (d:α) {l:List α} (h:idxOf p l≠-1):∃ k:Nat,idxOf p l=(k:Int)/\k<l.length/\Y7 p l l k (k+1):=by
  obtain ⟨k,h1,h2,h3,h4⟩:=Oz (d:=d) h;refine ⟨k,by rw [idxOf,h1]; congr 1; omega,h2,⟨?_,rfl,rfl,by omega,by omega⟩⟩;rw [CJ h2 d,List.filter_append,Zo]
  . simp only [List.filter_cons,List.filter_nil,h3]; simp
  . intro x hx;obtain ⟨i,hi,rfl⟩:=WB (d:=d) hx;rw [List.length_take] at hi;have:=h4 i (by omega);rw [List.getD_eq_getElem?_getD,List.getElem?_take,if_pos (by omega),<- List.getD_eq_getElem?_getD];exact this
theorem Y7.at_ {l m:List α} {i j:Nat} (h:Y7 p l m i j) (d:α):m.getD j d=l.getD j d:=by
  have:=congrArg (λ q:List α=>q.getD 0 d) h.dr;simpa [List.getD_eq_getElem?_getD,List.getElem?_drop] using this
theorem Y7.KI {l m:List α} {i j:Nat} (h:Y7 p l m i j):m.drop (j+1)=l.drop (j+1):=by
  rw [<- List.drop_drop,<- List.drop_drop,h.dr]
theorem Y7.wK {l m:List α} {i j:Nat} (h:Y7 p l m i j) (hj:j<l.length) (hp:p (m.getD j d)=false):Y7 p l (m.set i (m.getD j d)) (i+1) (j+1):=by
  have hl:=h.len;have bf:=h.lt;refine ⟨?_,?_,by rw [List.length_set,hl],by omega,by omega⟩
  . rw [CJ hj d,List.filter_append,<- h.tk,CJ (by rw [List.length_set]; omega) d];rw [h.at_ d] at hp ⊢;congr 1
    . rw [List.take_set_of_le (Nat.le_refl i)]
    . rw [Y9 (by omega),if_pos rfl]; generalize l.getD j d=x at hp ⊢; simp [hp]
  . rw [List.drop_set_of_lt (by omega)]; exact h.KI
theorem Y7.skip {l m:List α} {i j:Nat} (h:Y7 p l m i j) (hj:j<l.length) (hp:p (m.getD j d)=true):Y7 p l m i (j+1):=by
  refine ⟨?_,h.KI,h.len,by have:=h.lt; omega,by omega⟩;rw [CJ hj d,List.filter_append,<- h.tk];rw [h.at_ d] at hp;generalize l.getD j d=x at hp ⊢;simp [hp]
theorem Y7.fin {l m A B:List α} {i j:Nat} (h:Y7 p l m i j) (hj:j=l.length):n6 0 (i:Int) (m.take i++A++B)=l.filter (λ x=>!p x):=by
  have h1:=h.tk;rw [hj,List.take_of_length_le (Nat.le_refl _)] at h1;have hi:(m.take i).length=i:=by rw [List.length_take]; have:=h.len; have:=h.lt; omega
  rw [n6,show ((i:Int) - 0).toNat=i by omega,Int.toNat_zero,List.drop_zero,List.append_assoc,List.take_append_of_le_length (by omega),List.take_of_length_le (by omega),h1]
end
end Go.Proofs.YtijlnmgondibnaaGreatDoor
namespace Go.Proofs.YtijlnmgondibnaaGreatDoor
open Go.Ex
set_option maxRecDepth 100000
theorem Jm {α:Type} {l:List α} {i:Nat} (h:i<l.length) (d:α):l.take (i+1)=l.take i++[l.getD i d]:=by
  rw [List.take_succ_eq_append_getElem h,List.getD_eq_getElem?_getD,List.getElem?_eq_getElem h]; rfl
abbrev y8:=Int×Int×Int×Int×Int×List Int×yY×Unit
def I2 (n a b:Int):Bool:=decide (a<=n) && decide (n<=b)
theorem U1 {n a b:Int}:I2 n a b=true↔a<=n/\n<=b:=by simp [I2]
def BN:o7:={ ps:=[.v e8,.v e8,.v e8],rs:=[.bool],pre:=λ _=>True,fn:=λ x=>(I2 x.1 x.2.1 x.2.2.1,()),out:=λ _=>() }
noncomputable def Eu:Env:={ P:=Tryz.prog,tt:=tt,C7:=[],res:=[Go.ResultVar.tmp 6],rs:=[Ty.bool],ps:=[PK.v e8,PK.v e8,PK.v e8],B0:=[],nt:=15 }
theorem Mm:w7 Eu:=x8 p7 trivial
theorem Mv:C2 Eu Tryz.f80:=⟨rfl,rfl⟩
theorem SZ (x0:Int) (x1:Int) (x2:Int):exec Eu 1000 [.code (d8 Tryz.prog 80)] (s9 BN.ps ((x0,x1,x2,()))) =
  cond (decide (x1<=x0)) (.ret ((decide (x0<=x2),()))) (.ret ((false,()))):=by kernel_rfl
theorem QB:BN.Valid Tryz.prog 80:=by
  refine o7.o5 Mm rfl rfl Tryz.func80 (c:=d8 Tryz.prog 80) rfl rfl Mv rfl ?_;rintro ⟨(n:Int),(a:Int),(b:Int),⟨⟩⟩ - -
  refine j6 (n:=1000) Mm Mv ?_;refine i6 (SZ n a b) ?_;simp only [j7,Tree.holds,sL];refine ⟨λ c=>?_,λ c=>?_⟩
  . show ((decide _,()):Bool×Unit)=(I2 n a b,()); rw [I2,decide_eq_true c,Bool.true_and]
  . show ((false,()):Bool×Unit)=(I2 n a b,()); rw [I2,decide_eq_false c,Bool.false_and]
def Cd:o7:={ ps:=[.v e8],rs:=[.bool],pre:=λ _=>True,fn:=λ x=>(I2 x.1 0 16777215,()),out:=λ _=>() }
noncomputable def Em:Env:={ P:=Tryz.prog,tt:=tt,C7:=[(80,BN)],res:=[Go.ResultVar.tmp 2],rs:=[Ty.bool],ps:=[PK.v e8],B0:=[],nt:=5 }
theorem Mp:w7 Em:=x8 p7 ⟨QB,trivial⟩
theorem My:C2 Em Tryz.f79:=⟨rfl,rfl⟩
theorem So (x0:Int):exec Em 1000 [.code (d8 Tryz.prog 79)] (s9 Cd.ps ((x0,()))) =
  .f7 (True) (.ret ((I2 x0 (0:Int) (16777215:Int),()))):=by kernel_rfl
theorem QF:Cd.Valid Tryz.prog 79:=by
  refine o7.o5 Mp rfl rfl Tryz.func79 (c:=d8 Tryz.prog 79) rfl rfl My rfl ?_;rintro ⟨(n:Int),⟨⟩⟩ - -
  refine j6 (n:=1000) Mp My ?_;refine i6 (So n) ?_;exact ⟨trivial,λ _=>rfl⟩
def R8 (n:Int):Bool:=!I2 n 0 16777215
def Hr:o7:={ ps:=[.v e8,.rd (.fn 79)],rs:=[.bool],pre:=λ x=>Eq (α:=Bool) x.2.1 true,fn:=λ x=>(R8 x.1,()),out:=λ _=>() }
noncomputable def Hh:Env:={ P:=Tryz.prog,tt:=tt,C7:=[(79,Cd)],res:=[Go.ResultVar.tmp 3],rs:=[Ty.bool],ps:=[PK.v e8,PK.rd (Ty.fn 79)],B0:=[],nt:=8 }
theorem QK:w7 Hh:=x8 p7 ⟨QF,trivial⟩
theorem Qr:C2 Hh Tryz.f82:=⟨rfl,rfl⟩
theorem Xk (x0:Int) (x1:Bool):exec Hh 1000 [.code (d8 Tryz.prog 82)] (s9 Hr.ps ((x0,x1,()))) =
  .f7 (x1=true/\True) (.ret ((!I2 x0 (0:Int) (16777215:Int),()))):=by kernel_rfl
theorem b3J:Hr.Valid Tryz.prog 82:=by
  refine o7.o5 QK rfl rfl Tryz.func82 (c:=d8 Tryz.prog 82) rfl rfl Qr rfl ?_;rintro ⟨(n:Int),(b:Bool),⟨⟩⟩ (hp:b=true) -
  refine j6 (n:=1000) QK Qr ?_;refine i6 (Xk n b) ?_;exact ⟨⟨hp,trivial⟩,λ _=>rfl⟩
def EX:o7:={ ps:=[.v (.d0 false e8),.C0 82 [.fn 79]],rs:=[e8],pre:=λ x=>Eq (α:=Bool) x.2.1.1 true,fn:=λ x=>(idxOf (R8) x.1,()),out:=λ _=>() }
noncomputable def Cs:Env:={ P:=Tryz.prog,tt:=tt,C7:=[(82,Hr)],res:=[Go.ResultVar.tmp 4],rs:=[Ty.int IntKind.i64],ps:=[PK.v (Ty.d0 false e8),PK.C0 82 [Ty.fn 79]],B0:=[(2,[(0,none),(1,none),(7,none),(8,none)])],nt:=19 }
theorem HQ:w7 Cs:=x8 p7 ⟨b3J,trivial⟩
theorem HZ:C2 Cs Tryz.f95:=⟨rfl,rfl⟩
theorem Tk (x0:List Int) (x1c0:Bool):exec Cs 1000 [.code (d8 Tryz.prog 95)] (s9 EX.ps ((x0,(x1c0,()),()))) =
  .ctL (f9 (d8 Tryz.prog 95) 2) (St.mk [(0,AV.val (Ty.d0 false e8) x0),(1,AV.C0 82 (AV.cons (AV.K2 (Ty.fn 79) x1c0) AV.nil)),(7,AV.val e8 (↑(List.length x0):Int)),(8,AV.val e8 (0:Int))] []):=by kernel_rfl
def NM (v0:List Int) (zI:Bool) (v7:Int) (v8:Int):St:=St.mk [(0,AV.val (Ty.d0 false e8) v0),(1,AV.C0 82 (AV.cons (AV.K2 (Ty.fn 79) zI) AV.nil)),(7,AV.val e8 v7),(8,AV.val e8 v8)] []
theorem VL (v0:List Int) (zI:Bool) (v7:Int) (v8:Int):exec Cs 1000 (.code (f9 (d8 Tryz.prog 95) 2).1::.inLoop (f9 (d8 Tryz.prog 95) 2).1::(f9 (d8 Tryz.prog 95) 2).2) (NM v0 zI v7 v8) =
  cond (decide (v8<v7)) (.f7 ((0:Int)<=v8/\v8<(↑(List.length v0):Int)) (.f7 (zI=true) (cond (R8 (List.getD v0 (Int.toNat v8) (0:Int))) (.ret ((v8,()))) (.f7 (r9 IntKind.i64 (v8+(1:Int))) (.ctL (f9 (d8 Tryz.prog 95) 2) (St.mk [(0,AV.val (Ty.d0 false e8) v0),(1,AV.C0 82 (AV.cons (AV.K2 (Ty.fn 79) zI) AV.nil)),(7,AV.val e8 v7),(8,AV.val e8 (v8+(1:Int)))] [])))))) (.ret (((-1:Int),()))):=by kernel_rfl
theorem ZQ:EX.Valid Tryz.prog 95:=by
  refine o7.o5 HQ rfl rfl Tryz.func95 (c:=d8 Tryz.prog 95) rfl rfl HZ rfl ?_;rintro ⟨(l:List (Int)),⟨(b:Bool),⟨⟩⟩,⟨⟩⟩ hp ⟨⟨hl,-⟩,-⟩;have hl:l.length<=9223372036854775807:=hl;have hp:b=true:=hp;refine j6 (n:=1000) HQ HZ ?_;refine i6 (Tk l b) ?_;refine Reach.M9 HQ HZ (λ i:Nat=>NM l b (l.length:Int) (i:Int)) (λ i=>i<=l.length/\idxOf (R8) l=Z7 (R8) (l.drop i) i)
    (λ i=>l.length - i) 1000 (λ _=>⟨u7 rfl,u7 rfl⟩) ?_ 0 ⟨by omega,rfl⟩
  rintro i ⟨k1,k2⟩ - ih;refine i6 (VL ..) ?_;simp only [j7,Tree.holds,sL];refine ⟨λ h=>?_,λ h=>?_⟩
  . rw [Jh (show i<l.length by omega) 0,Z7] at k2;refine ⟨by omega,λ _=>⟨hp,λ _=>⟨λ c=>?_,λ c=>⟨by omega,λ _=>ih (i+1) ⟨by omega,?_⟩ (by omega)⟩⟩⟩⟩
    . show (((i:Int),()):Int×Unit)=(idxOf (R8) l,());rw [k2,if_pos (show (R8) (l.getD i 0)=true from c)]
    . rw [k2,if_neg (show ¬ (R8) (l.getD i 0)=true from λ h9=>Bool.noConfusion (Eq.trans (Eq.symm h9) c))]
  . rw [List.drop_eq_nil_of_le (by omega)] at k2;show (((-1:Int),()):Int×Unit)=(idxOf (R8) l,());rw [k2]; rfl
def Gr:o7:={ ps:=[.v (.d0 false e8),.C0 82 [.fn 79]],rs:=[.bool],pre:=λ x=>Eq (α:=Bool) x.2.1.1 true,fn:=λ x=>(List.any (α:=Int) x.1 (R8),()),out:=λ _=>() }
noncomputable def FY:Env:={ P:=Tryz.prog,tt:=tt,C7:=[(95,EX)],res:=[Go.ResultVar.tmp 4],rs:=[Ty.bool],ps:=[PK.v (Ty.d0 false e8),PK.C0 82 [Ty.fn 79]],B0:=[],nt:=9 }
theorem OG:w7 FY:=x8 p7 ⟨ZQ,trivial⟩
theorem OX:C2 FY Tryz.f81:=⟨rfl,rfl⟩
theorem Vv (x0:List Int) (x1c0:Bool):exec FY 1000 [.code (d8 Tryz.prog 81)] (s9 Gr.ps ((x0,(x1c0,()),()))) =
  .f7 (x1c0=true) (.ret ((decide ((0:Int)<=idxOf R8 x0),()))):=by kernel_rfl
theorem b5e:Gr.Valid Tryz.prog 81:=by
  refine o7.o5 OG rfl rfl Tryz.func81 (c:=d8 Tryz.prog 81) rfl rfl OX rfl ?_;rintro ⟨(l:List (Int)),⟨(b:Bool),⟨⟩⟩,⟨⟩⟩ hp -
  refine j6 (n:=1000) OG OX ?_;refine i6 (Vv l b) ?_;refine ⟨hp,λ _=>?_⟩;show ((decide (0<=idxOf (R8) l),()):Bool×Unit)=(l.any (R8),());rw [GU]
def vK (n:y8):Bool:=I2 n.1 0 255 && I2 n.2.1 0 5 && I2 n.2.2.1 0 5 && I2 n.2.2.2.1 0 16777215 && I2 n.2.2.2.2.1 0 16777215
def H4 (n:y8):Int :=
  if vK n=false then 1 else if n.2.2.2.2.2.1.any R8=true then 1 else if 200<n.2.2.2.2.2.2.1.length then 2 else 0
def CX:o7:={ ps:=[.v yM],rs:=[e8],pre:=λ _=>True,fn:=λ x=>(H4 x.1,()),out:=λ _=>() }
noncomputable def Hk:Env:={ P:=Tryz.prog,tt:=tt,C7:=[(80,BN),(79,Cd),(81,Gr)],res:=[Go.ResultVar.tmp 2],rs:=[Ty.int IntKind.i64],ps:=[PK.v (Ty.pair e8 (Ty.pair e8 (Ty.pair e8 (Ty.pair e8 (Ty.pair e8 (Ty.pair X2 (Ty.pair Ty.str Ty.unit)))))))],B0:=[],nt:=45 }
theorem Qo:w7 Hk:=x8 p7 ⟨QB,QF,b5e,trivial⟩
theorem Qu:C2 Hk Tryz.f65:=⟨rfl,rfl⟩
theorem Xn (aO:Int) (ab:Int) (ae:Int) (aa:Int) (ba:Int) (aU:List Int) (bg:yY):exec Hk 1000 [.code (d8 Tryz.prog 65)] (s9 CX.ps (((aO,ab,ae,aa,ba,aU,bg,()),()))) =
  .f7 (True) (cond (!I2 aO (0:Int) (255:Int)) (.ret (((1:Int),()))) (.f7 (True) (cond (!I2 ab (0:Int) (5:Int)) (.ret (((1:Int),()))) (.f7 (True) (cond (!I2 ae (0:Int) (5:Int)) (.ret (((1:Int),()))) (.f7 (true=true/\True) (cond (!I2 aa (0:Int) (16777215:Int)) (.ret (((1:Int),()))) (.f7 (true=true/\True) (cond (!I2 ba (0:Int) (16777215:Int)) (.ret (((1:Int),()))) (.f7 ((0:Int)<=(0:Int)/\(0:Int)<=(↑6:Int)/\(↑6:Int)<=(↑6:Int)) (.f7 (true=true) (cond (List.any (n6 (0:Int) (↑6:Int) aU) R8) (.ret (((1:Int),()))) (cond (decide ((200:Int)<(↑(List.length bg):Int))) (.ret (((2:Int),()))) (.ret (((0:Int),())))))))))))))))):=by kernel_rfl
theorem LR {α:Type} {l:List α} {n:Nat} (h:l.length=n):n6 0 (n:Int) l=l:=by subst h; simp [n6]
theorem Sa:CX.Valid Tryz.prog 65:=by
  refine o7.o5 Qo rfl rfl Tryz.func65 (c:=d8 Tryz.prog 65) rfl rfl Qu rfl ?_;rintro ⟨⟨(a:Int),(b:Int),(c:Int),(d:Int),(e:Int),(v:List Int),(t:yY),⟨⟩⟩,⟨⟩⟩ - ⟨⟨-,-,-,-,-,⟨hv,-⟩,-⟩,-⟩;have hv:v.length=6:=hv;refine j6 (n:=1000) Qo Qu ?_;refine i6 (Xn a b c d e v t) ?_;have hc:n6 0 6 v=v:=LR hv;have bad:vK (a,b,c,d,e,v,t,())=false->(((1:Int),()):Int×Unit)=(H4 (a,b,c,d,e,v,t,()),()):=λ h=>by rw [H4,if_pos h]
  simp only [j7,Tree.holds,hc,sL];refine ⟨λ h=>bad (by simp [vK,h]),λ h1=>⟨λ h=>bad (by simp [vK,h]),λ h2=>⟨λ h=>bad (by simp [vK,h]),λ h3=>⟨λ h=>bad (by simp [vK,h]),λ h4=>⟨λ h=>bad (by simp [vK,h]),λ h5=>⟨by omega,λ _=>⟨λ h=>?_,λ h6=>⟨λ h=>?_,λ h=>?_⟩⟩⟩⟩⟩⟩⟩⟩
  all_goals have hw:vK (a,b,c,d,e,v,t,())≠false:=by simp [vK,h1,h2,h3,h4,h5]
  . show (((1:Int),()):Int×Unit)=(H4 (a,b,c,d,e,v,t,()),());rw [H4,if_neg hw,if_pos h]
  . show (((2:Int),()):Int×Unit)=(H4 (a,b,c,d,e,v,t,()),());rw [H4,if_neg hw,if_neg (λ h9=>Bool.noConfusion (Eq.trans (Eq.symm h9) h6)),if_pos (by show 200<t.length; omega)]
  . show (((0:Int),()):Int×Unit)=(H4 (a,b,c,d,e,v,t,()),());rw [H4,if_neg hw,if_neg (λ h9=>Bool.noConfusion (Eq.trans (Eq.symm h9) h6)),if_neg (by show ¬ 200<t.length; omega)]
structure Gv (n:y8):Prop where
  kind:0<=n.1/\n.1<=255
  from_:0<=n.2.1/\n.2.1<=5
  to:0<=n.2.2.1/\n.2.2.1<=5
  view:0<=n.2.2.2.1/\n.2.2.2.1<=16777215
  seq:0<=n.2.2.2.2.1/\n.2.2.2.2.1<=16777215
  at_:∀ x∈n.2.2.2.2.2.1,0<=x/\x<=16777215
  text:n.2.2.2.2.2.2.1.length<=200
theorem Jf {n:y8} (h:H4 n=0):Gv n:=by
  unfold H4 at h;split at h
  . cases h
  split at h
  . cases h
  split at h
  . cases h
  . rename_i h1 h2 h3;have h1:vK n=true:=by cases e:vK n with|true=>rfl|false=>exact absurd e h1
    simp only [vK,Bool.and_eq_true,U1] at h1;obtain ⟨⟨⟨⟨a,b⟩,c⟩,d⟩,e⟩:=h1;refine ⟨a,b,c,d,e,λ x hx=>?_,by omega⟩;have h2:n.2.2.2.2.2.1.any R8=false:=by cases e:n.2.2.2.2.2.1.any R8 with|false=>rfl|true=>exact absurd e h2
    have:=List.any_eq_false.1 h2 x hx;rw [R8,Bool.not_eq_true,Bool.not_eq_false'] at this;exact U1.1 this
def S8 (n:Int):List Int:=[IntKind.wrap .u8 n,IntKind.wrap .u8 (n / 256),IntKind.wrap .u8 (n / 65536)]
def Cy:o7:={ ps:=[.v e8],rs:=[.d0 true (.int .u8)],pre:=λ _=>True,fn:=λ x=>(S8 x.1,()),out:=λ _=>() }
noncomputable def Gt:Env:={ P:=Tryz.prog,tt:=tt,C7:=[],res:=[Go.ResultVar.tmp 2],rs:=[Ty.d0 true U8],ps:=[PK.v e8],B0:=[],nt:=12 }
theorem OV:w7 Gt:=x8 p7 trivial
theorem PF:C2 Gt Tryz.f77:=⟨rfl,rfl⟩
theorem Vf (x0:Int):exec Gt 1000 [.code (d8 Tryz.prog 77)] (s9 Cy.ps ((x0,()))) =
  .f7 ((0:Int)<=(8:Int)) (.f7 ((0:Int)<=(16:Int)) (.ret ((List.set (List.set (List.set [(0:Int),(0:Int),(0:Int)] (Int.toNat (↑0:Int)) (IntKind.wrap IntKind.u8 x0)) (Int.toNat (↑1:Int)) (IntKind.wrap IntKind.u8 (x0 / (2:Int)^min (Int.toNat (8:Int)) (IntKind.bits IntKind.i64)))) (Int.toNat (↑2:Int)) (IntKind.wrap IntKind.u8 (x0 / (2:Int)^min (Int.toNat (16:Int)) (IntKind.bits IntKind.i64))),())))):=by kernel_rfl
theorem RH:Cy.Valid Tryz.prog 77:=by
  refine o7.o5 OV rfl rfl Tryz.func77 (c:=d8 Tryz.prog 77) rfl rfl PF rfl ?_;rintro ⟨(n:Int),⟨⟩⟩ - -
  refine j6 (n:=1000) OV PF ?_;refine i6 (Vf n) ?_;exact ⟨Int.le.intro 8 rfl,λ _=>⟨Int.le.intro 16 rfl,λ _=>rfl⟩⟩
def vH (x:Nat):List Int:=(le4 x).map (λ b=>(b.toNat:Int))
theorem De (x:Nat):(UInt8.ofNat x).toNat=x % 256:=by simp
theorem UA (x:Nat):vH x=[(x:Int) % 256,(x:Int) / 256 % 256,(x:Int) / 65536 % 256,(x:Int) / 16777216 % 256]:=by
  simp only [vH,le4,List.map_cons,List.map_nil,De];simp only [List.cons.injEq,and_true];refine ⟨by omega,by omega,by omega,by omega⟩
theorem XK (n:Int):S8 n=[n % 256,n / 256 % 256,n / 65536 % 256]:=rfl
def Cg:o7:={ ps:=[.v (.int .u32)],rs:=[.d0 true (.int .u8)],pre:=λ _=>True,fn:=λ x=>(vH (Int.toNat x.1),()),out:=λ _=>() }
noncomputable def EL:Env:={ P:=Tryz.prog,tt:=tt,C7:=[(77,Cy)],res:=[Go.ResultVar.tmp 2],rs:=[Ty.d0 true U8],ps:=[PK.v (Ty.int IntKind.u32)],B0:=[],nt:=11 }
theorem MZ:w7 EL:=x8 p7 ⟨RH,trivial⟩
theorem Nu:C2 EL Tryz.f62:=⟨rfl,rfl⟩
theorem TY (x0:Int):exec EL 1000 [.code (d8 Tryz.prog 62)] (s9 Cg.ps ((x0,()))) =
  .f7 (True) (.f7 ((0:Int)<=(24:Int)) (.f7 (List.length (S8 (IntKind.wrap IntKind.i64 x0))+List.length (List.set [(0:Int)] (Int.toNat (↑0:Int)) (IntKind.wrap IntKind.u8 (x0 / (2:Int)^min (Int.toNat (24:Int)) (IntKind.bits IntKind.u32))))<=140737488355328/\(List.length (S8 (IntKind.wrap IntKind.i64 x0))+List.length (List.set [(0:Int)] (Int.toNat (↑0:Int)) (IntKind.wrap IntKind.u8 (x0 / (2:Int)^min (Int.toNat (24:Int)) (IntKind.bits IntKind.u32)))))*Ty.wb U8<=140737488355328) (.ret ((S8 (IntKind.wrap IntKind.i64 x0)++List.set [(0:Int)] (Int.toNat (↑0:Int)) (IntKind.wrap IntKind.u8 (x0 / (2:Int)^min (Int.toNat (24:Int)) (IntKind.bits IntKind.u32))),()))))):=by kernel_rfl
theorem Rs:Cg.Valid Tryz.prog 62:=by
  refine o7.o5 MZ rfl rfl Tryz.func62 (c:=d8 Tryz.prog 62) rfl rfl Nu rfl ?_;rintro ⟨(n:Int),⟨⟩⟩ - ⟨hr,-⟩;have hr:0<=n/\n<=4294967295:=zo.1 hr;refine j6 (n:=1000) MZ Nu ?_;refine i6 (TY n) ?_;have hw:IntKind.wrap .i64 n=n:=R5 (F1.2 ⟨by omega,by omega⟩);simp only [j7,Tree.holds,hw,FR,XK,sL];refine ⟨by omega,λ _=>⟨by omega,λ _=>?_⟩⟩;obtain ⟨x,rfl⟩:=Int.eq_ofNat_of_zero_le hr.1;show (([(x:Int) % 256,(x:Int) / 256 % 256,(x:Int) / 65536 % 256,(x:Int) / 16777216 % 256],()):List Int×Unit)=(vH (Int.toNat (x:Int)),());rw [Int.toNat_natCast,UA]
def wv (l:List Int):yY:=l.map (λ n=>UInt8.ofNat n.toNat)
theorem IS (t:yY):wv (t.map (λ b=>(b.toNat:Int)))=t:=by
  rw [wv,List.map_map];have:((λ n:Int=>UInt8.ofNat n.toNat) ∘ λ b:UInt8=>(b.toNat:Int))=id:=by
    funext b
    simp
  rw [this,List.map_id]
theorem Dr (l m:List Int):wv (l++m)=wv l++wv m:=List.map_append
def zY (n:y8):List Int:=[IntKind.wrap .u8 n.1,IntKind.wrap .u8 n.2.1,IntKind.wrap .u8 n.2.2.1]
def X9 (n:y8):List Int:=n.2.2.2.1::n.2.2.2.2.1::n.2.2.2.2.2.1
def ya (n:y8):List Int:=zY n++(X9 n).flatMap S8++n.2.2.2.2.2.2.1.map (λ b=>(b.toNat:Int))
def vv (n:y8):yY:=wv (ya n)
def Z6 (n:y8):yY:=vv n++le4 (uU (vv n))
def S5 (n:y8):yY×Int×Unit:=if H4 n≠0 then ([],H4 n,()) else (Z6 n,0,())
def FN:o7:={ ps:=[.v yM],rs:=[.str,e8],pre:=λ _=>True,fn:=λ x=>S5 x.1,out:=λ _=>() }
noncomputable def Ad:Env:={ P:=Tryz.prog,tt:=tt,C7:=[(65,CX),(77,Cy),(62,Cg),(63,Ca)],res:=[Go.ResultVar.tmp 2,Go.ResultVar.tmp 3],rs:=[Ty.str,Ty.int IntKind.i64],ps:=[PK.v (Ty.pair e8 (Ty.pair e8 (Ty.pair e8 (Ty.pair e8 (Ty.pair e8 (Ty.pair X2 (Ty.pair Ty.str Ty.unit)))))))],B0:=[(6,[(1,none),(5,some (Ty.d0 true U8)),(30,some Is),(31,none),(32,none)])],nt:=52 }
theorem HU:w7 Ad:=x8 p7 ⟨Sa,RH,Rs,Qe,trivial⟩
theorem Ib:C2 Ad Tryz.f60:=⟨rfl,rfl⟩
theorem Tr (aO:Int) (ab:Int) (ae:Int) (aa:Int) (ba:Int) (aU:List Int) (bg:yY):exec Ad 1000 [.code (d8 Tryz.prog 60)] (s9 FN.ps (((aO,ab,ae,aa,ba,aU,bg,()),()))) =
  .f7 (True) (cond (decide (H4 (aO,ab,ae,aa,ba,aU,bg,())≠(0:Int))) (.ret ((Array.toList (ByteArray.data (ByteArray.mk #[])),H4 (aO,ab,ae,aa,ba,aU,bg,()),()))) (.f7 ((0:Int)<=(0:Int)/\(0:Int)<=(↑6:Int)/\(↑6:Int)<=(↑6:Int)) (.f7 (List.length (List.set (List.set [(0:Int),(0:Int)] (Int.toNat (↑0:Int)) aa) (Int.toNat (↑1:Int)) ba)+List.length (n6 (0:Int) (↑6:Int) aU)<=140737488355328/\(List.length (List.set (List.set [(0:Int),(0:Int)] (Int.toNat (↑0:Int)) aa) (Int.toNat (↑1:Int)) ba)+List.length (n6 (0:Int) (↑6:Int) aU))*Ty.wb e8<=140737488355328) (.ctL (f9 (d8 Tryz.prog 60) 6) (St.mk [(1,AV.ptr 1 []),(5,AV.at_ 1000005 []),(30,AV.at_ 1000030 []),(31,AV.val e8 (↑(List.length (List.set (List.set [(0:Int),(0:Int)] (Int.toNat (↑0:Int)) aa) (Int.toNat (↑1:Int)) ba++n6 (0:Int) (↑6:Int) aU)):Int)),(32,AV.val e8 (0:Int))] [(1,g9.var (Ty.pair e8 (Ty.pair e8 (Ty.pair e8 (Ty.pair e8 (Ty.pair e8 (Ty.pair X2 (Ty.pair Ty.str Ty.unit))))))) (aO,ab,ae,aa,ba,aU,bg,())),(1000005,g9.own (Ty.d0 true U8) (List.set (List.set (List.set [(0:Int),(0:Int),(0:Int)] (Int.toNat (↑0:Int)) (IntKind.wrap IntKind.u8 aO)) (Int.toNat (↑1:Int)) (IntKind.wrap IntKind.u8 ab)) (Int.toNat (↑2:Int)) (IntKind.wrap IntKind.u8 ae))),(1000030,g9.own Is (List.set (List.set [(0:Int),(0:Int)] (Int.toNat (↑0:Int)) aa) (Int.toNat (↑1:Int)) ba++n6 (0:Int) (↑6:Int) aU))]))))):=by kernel_rfl
def HV (v31:Int) (vP:Int) (eE:Int) (cY:Int) (dS:Int) (cX:Int) (cx:Int) (bX:List Int) (aL:yY) (cI:List Int) (ee:List Int):St:=St.mk [(1,AV.ptr 1 []),(5,AV.at_ 1000005 []),(30,AV.at_ 1000030 []),(31,AV.val e8 v31),(32,AV.val e8 vP)] [(1,g9.var (Ty.pair e8 (Ty.pair e8 (Ty.pair e8 (Ty.pair e8 (Ty.pair e8 (Ty.pair X2 (Ty.pair Ty.str Ty.unit))))))) (eE,cY,dS,cX,cx,bX,aL,())),(1000005,g9.own (Ty.d0 true U8) cI),(1000030,g9.own Is ee)]
theorem Ve (v31:Int) (vP:Int) (eE:Int) (cY:Int) (dS:Int) (cX:Int) (cx:Int) (bX:List Int) (aL:yY) (cI:List Int) (ee:List Int):exec Ad 1000 (.code (f9 (d8 Tryz.prog 60) 6).1::.inLoop (f9 (d8 Tryz.prog 60) 6).1::(f9 (d8 Tryz.prog 60) 6).2) (HV v31 vP eE cY dS cX cx bX aL cI ee) =
  cond (decide (vP<v31)) (.f7 ((0:Int)<=vP/\vP<(↑(List.length ee):Int)) (.f7 (True) (.f7 (List.length cI+List.length (S8 (List.getD ee (Int.toNat vP) (0:Int)))<=140737488355328/\(List.length cI+List.length (S8 (List.getD ee (Int.toNat vP) (0:Int))))*Ty.wb U8<=140737488355328) (.f7 (r9 IntKind.i64 (vP+(1:Int))) (.ctL (f9 (d8 Tryz.prog 60) 6) (St.mk [(1,AV.ptr 1 []),(5,AV.at_ 1000005 []),(30,AV.at_ 1000030 []),(31,AV.val e8 v31),(32,AV.val e8 (vP+(1:Int)))] [(1,g9.var (Ty.pair e8 (Ty.pair e8 (Ty.pair e8 (Ty.pair e8 (Ty.pair e8 (Ty.pair X2 (Ty.pair Ty.str Ty.unit))))))) (eE,cY,dS,cX,cx,bX,aL,())),(1000005,g9.own (Ty.d0 true U8) (cI++S8 (List.getD ee (Int.toNat vP) (0:Int)))),(1000030,g9.own Is ee)])))))) (.f7 (List.length cI+List.length (List.map (λ b=>(↑(UInt8.toNat b):Int)) aL)<=140737488355328/\(List.length cI+List.length (List.map (λ b=>(↑(UInt8.toNat b):Int)) aL))*Ty.wb U8<=140737488355328) (.f7 (True) (.f7 (True) (.f7 (List.length (cI++List.map (λ b=>(↑(UInt8.toNat b):Int)) aL)+List.length (vH (Int.toNat (↑(uU (List.map (λ n=>UInt8.ofNat (Int.toNat n)) (cI++List.map (λ b=>(↑(UInt8.toNat b):Int)) aL))):Int)))<=140737488355328/\(List.length (cI++List.map (λ b=>(↑(UInt8.toNat b):Int)) aL)+List.length (vH (Int.toNat (↑(uU (List.map (λ n=>UInt8.ofNat (Int.toNat n)) (cI++List.map (λ b=>(↑(UInt8.toNat b):Int)) aL))):Int))))*Ty.wb U8<=140737488355328) (.ret ((List.map (λ n=>UInt8.ofNat (Int.toNat n)) (cI++List.map (λ b=>(↑(UInt8.toNat b):Int)) aL++vH (Int.toNat (↑(uU (List.map (λ n=>UInt8.ofNat (Int.toNat n)) (cI++List.map (λ b=>(↑(UInt8.toNat b):Int)) aL))):Int))),(0:Int),()))))))):=by kernel_rfl
theorem Pu (l:List Int):(l.flatMap S8).length=3*l.length:=by
  induction l with
  | nil=>rfl
  | cons x l ih=>rw [List.flatMap_cons,List.length_append,ih,S8]; simp; omega
theorem b7d:FN.Valid Tryz.prog 60:=by
  refine o7.o5 HU rfl rfl Tryz.func60 (c:=d8 Tryz.prog 60) rfl rfl Ib rfl ?_;rintro ⟨⟨(a:Int),(b:Int),(c:Int),(d:Int),(e:Int),(v:List Int),(t:yY),⟨⟩⟩,⟨⟩⟩ - ⟨⟨-,-,-,-,-,⟨hv,-⟩,-⟩,-⟩;have hv:v.length=6:=hv;obtain ⟨n,hn⟩:∃ n:y8,n=(a,b,c,d,e,v,t,()):=⟨_,rfl⟩;refine j6 (n:=1000) HU Ib ?_;refine i6 (Tr a b c d e v t) ?_;have hc:n6 0 6 v=v:=LR hv;have h0:List.set (List.set [(0:Int),0] (Int.toNat ((0:Nat):Int)) d) (Int.toNat ((1:Nat):Int)) e++v=X9 n:=by rw [hn]; rfl
  have uA:∀ m:List Int,List.set (List.set [(0:Int),0] (Int.toNat 0) d) (Int.toNat 1) e++m=d::e::m:=λ m=>rfl;rw [<- hn];have e6:n6 0 6 v=v:=hc;simp only [j7,Tree.holds,hc,FR,TR,sL];refine ⟨λ h=>?_,λ h=>⟨by omega,λ _=>⟨by omega,λ _=>?_⟩⟩⟩
  . show (([],H4 n,()):yY×Int×Unit)=S5 n;rw [S5,if_pos h]
  have aM:=Jf (n:=n) (by omega);have ht:t.length<=200:=by have:=aM.text; rw [hn] at this; exact this
  have ml:(X9 n).length=8:=by rw [hn]; show (d::e::v).length=8; simp [hv]
  suffices go:Go.Ex.Reach Ad Tryz.f60 (S5 n) () (.code (f9 (d8 Tryz.prog 60) 6).1::.inLoop (f9 (d8 Tryz.prog 60) 6).1::(f9 (d8 Tryz.prog 60) 6).2) (HV ((X9 n).length:Int) ((0:Nat):Int) a b c d e v t (zY n++((X9 n).take 0).flatMap S8) (X9 n)) by
    subst hn;exact go
  refine Reach.M9 HU Ib (λ i:Nat=>HV ((X9 n).length:Int) (i:Int) a b c d e v t (zY n++((X9 n).take i).flatMap S8) (X9 n)) (λ i=>i<=(X9 n).length)
    (λ i=>(X9 n).length - i) 1000 (λ _=>⟨u7 rfl,u7 rfl⟩) ?_ 0 (Nat.zero_le _)
  . rintro i k1 - ih;have k1:i<=(X9 n).length:=k1;refine i6 (Ve ..) ?_;have hl:(zY n++((X9 n).take i).flatMap S8).length=3+3*i:=by
      rw [List.length_append,Pu,List.length_take];show 3+_=_;omega
    have sn:∀ x,(S8 x).length=3:=λ _=>rfl;simp only [j7,Tree.holds,FR,hl,sn,sL];refine ⟨λ c1=>⟨by omega,λ _=>⟨by omega,λ _=>⟨by omega,λ _=>?_⟩⟩⟩,λ c1=>?_⟩
    . have:=ih (i+1) (by show i+1<=(X9 n).length; omega) (by omega);rw [Jm (show i<(X9 n).length by omega) 0,List.flatMap_append,<- List.append_assoc] at this;simp only [List.flatMap_cons,List.flatMap_nil,List.append_nil] at this;exact this
    . rw [List.take_of_length_le (by omega)] at hl ⊢;have hb:zY n++(X9 n).flatMap S8++List.map (λ b:UInt8=>(b.toNat:Int)) t=ya n:=by rw [ya,hn]
      have bQ:(ya n).length=27+t.length:=by rw [<- hb,List.length_append,hl,List.length_map]; omega
      have h4:∀ x,(vH x).length=4:=λ _=>rfl;rw [hb];simp only [j7,Tree.holds,bQ,h4,List.length_map,sL];refine ⟨by omega,λ _=>⟨by omega,λ _=>?_⟩⟩;show ((wv (ya n++vH (uU (wv (ya n)))),0,()):yY×Int×Unit)=S5 n;rw [S5,if_neg h,Dr,Z6,vH,IS];rfl
def vo (s:yY) (i:Nat):Int:=((s.getD i 0).toNat:Int)
def uJ (s:yY) (k:Nat):Int:=vo s (3+3*k)+vo s (4+3*k)*256+vo s (5+3*k)*65536
def FL:o7:={ ps:=[.v e8,.rd .str],rs:=[e8],pre:=λ x=>LE.le (α:=Int) 0 x.1/\LT.lt (α:=Int) (5+3*(show Int from x.1)) (List.length x.2.1),fn:=λ x=>(uJ x.2.1 (Int.toNat x.1),()),out:=λ _=>() }
noncomputable def Fh:Env:={ P:=Tryz.prog,tt:=tt,C7:=[],res:=[Go.ResultVar.tmp 3],rs:=[Ty.int IntKind.i64],ps:=[PK.v e8,PK.rd Ty.str],B0:=[],nt:=26 }
theorem NR:w7 Fh:=x8 p7 trivial
theorem NG:C2 Fh Tryz.f64:=⟨rfl,rfl⟩
theorem Tp (x0:Int) (x1:yY):exec Fh 1000 [.code (d8 Tryz.prog 64)] (s9 FL.ps ((x0,x1,()))) =
  .f7 (r9 IntKind.i64 ((3:Int)*x0)) (.f7 (r9 IntKind.i64 ((3:Int)+(3:Int)*x0)) (.f7 ((0:Int)<=(3:Int)+(3:Int)*x0/\(3:Int)+(3:Int)*x0<(↑(List.length x1):Int)) (.f7 (r9 IntKind.i64 ((3:Int)+(3:Int)*x0+(1:Int))) (.f7 ((0:Int)<=(3:Int)+(3:Int)*x0+(1:Int)/\(3:Int)+(3:Int)*x0+(1:Int)<(↑(List.length x1):Int)) (.f7 ((0:Int)<=(8:Int)) (.f7 (r9 IntKind.i64 ((3:Int)+(3:Int)*x0+(2:Int))) (.f7 ((0:Int)<=(3:Int)+(3:Int)*x0+(2:Int)/\(3:Int)+(3:Int)*x0+(2:Int)<(↑(List.length x1):Int)) (.f7 ((0:Int)<=(16:Int)) (.ret ((bOr IntKind.i64 (bOr IntKind.i64 (IntKind.wrap IntKind.i64 (↑(UInt8.toNat (List.getD x1 (Int.toNat ((3:Int)+(3:Int)*x0)) (0:UInt8))):Int)) (IntKind.wrap IntKind.i64 (IntKind.wrap IntKind.i64 (↑(UInt8.toNat (List.getD x1 (Int.toNat ((3:Int)+(3:Int)*x0+(1:Int))) (0:UInt8))):Int)*(2:Int)^min (Int.toNat (8:Int)) (IntKind.bits IntKind.i64)))) (IntKind.wrap IntKind.i64 (IntKind.wrap IntKind.i64 (↑(UInt8.toNat (List.getD x1 (Int.toNat ((3:Int)+(3:Int)*x0+(2:Int))) (0:UInt8))):Int)*(2:Int)^min (Int.toNat (16:Int)) (IntKind.bits IntKind.i64))),()))))))))))):=by kernel_rfl
theorem Kx {x y:Nat} (hx:x<9223372036854775808) (hy:y<9223372036854775808):bOr .i64 (x:Int) (y:Int)=((x ||| y:Nat):Int):=by
  unfold bOr;have e1:(BitVec.ofInt (IntKind.bits .i64) (x:Int) ||| BitVec.ofInt (IntKind.bits .i64) (y:Int)).toNat=x ||| y:=by
    show (BitVec.ofInt 64 (x:Int) ||| BitVec.ofInt 64 (y:Int)).toNat=x ||| y
    rw [BitVec.toNat_or,BitVec.toNat_ofInt,BitVec.toNat_ofInt];congr 1<;>omega
  rw [e1];have:=Nat.or_lt_two_pow (n:=63) hx hy;exact R5 (F1.2 ⟨by omega,by omega⟩)
theorem LF {x y k:Nat} (hx:x<2^k):x ||| (y*2^k)=x+y*2^k:=by
  rw [Nat.or_comm,<- Nat.shiftLeft_eq,<- Nat.shiftLeft_add_eq_or_of_lt hx,Nat.add_comm]
theorem ZX:FL.Valid Tryz.prog 64:=by
  refine o7.o5 NR rfl rfl Tryz.func64 (c:=d8 Tryz.prog 64) rfl rfl NG rfl ?_;rintro ⟨(k:Int),(s:yY),⟨⟩⟩ ⟨h0,h1⟩ ⟨-,hs,-⟩;have h0:0<=k:=h0;have h1:5+3*k<(s.length:Int):=h1;have hs:s.length<=9223372036854775807:=hs;obtain ⟨m,rfl⟩:=Int.eq_ofNat_of_zero_le h0;refine j6 (n:=1000) NR NG ?_;refine i6 (Tp (m:Int) s) ?_;simp only [j7,Tree.holds,sL];refine ⟨by omega,λ _=>⟨by omega,λ _=>⟨by omega,λ _=>⟨by omega,λ _=>⟨by omega,λ _=>⟨Int.le.intro 8 rfl,λ _=>⟨by omega,λ _=>⟨by omega,λ _=>⟨Int.le.intro 16 rfl,λ _=>?_⟩⟩⟩⟩⟩⟩⟩⟩⟩;have e1:Int.toNat (3+3*(m:Int))=3+3*m:=by omega
  have e2:Int.toNat (3+3*(m:Int)+1)=4+3*m:=by omega
  have e3:Int.toNat (3+3*(m:Int)+2)=5+3*m:=by omega
  rw [e1,e2,e3];show ((_,()):Int×Unit)=(uJ s (Int.toNat (m:Int)),());rw [Int.toNat_natCast];have a1:=(s.getD (3+3*m) 0).toNat_lt;have a2:=(s.getD (4+3*m) 0).toNat_lt;have a3:=(s.getD (5+3*m) 0).toNat_lt;unfold uJ vo;generalize (s.getD (3+3*m) 0).toNat=x at *
  generalize (s.getD (4+3*m) 0).toNat=y at *
  generalize (s.getD (5+3*m) 0).toNat=z at *
  have w:∀ q:Nat,q<16777216->IntKind.wrap .i64 (q:Int)=(q:Int):=λ q hq=>R5 (F1.2 ⟨by omega,by omega⟩);have p8:(2:Int)^min (Int.toNat 8) (IntKind.bits .i64)=256:=rfl;have Sj:(2:Int)^min (Int.toNat 16) (IntKind.bits .i64)=65536:=rfl;rw [w x (by omega),w y (by omega),w z (by omega),p8,Sj,show (y:Int)*256=((y*2^8:Nat):Int) by omega,show (z:Int)*65536=((z*2^16:Nat):Int) by omega,w _ (by omega),w _ (by omega),Kx (by omega) (by omega),LF (k:=8) (by omega),Kx (by omega) (by omega),LF (k:=16) (by omega)];congr 1
def Y8:y8:=(0,0,0,0,0,[0,0,0,0,0,0],[],())
def parse (s:yY):y8:=(vo s 0,vo s 1,vo s 2,uJ s 0,uJ s 1,[uJ s 2,uJ s 3,uJ s 4,uJ s 5,uJ s 6,uJ s 7],s.drop 27,())
def w6 (s:yY):y8×Int×Unit :=
  if 231<s.length then (Y8,2,()) else if s.length<31 then (Y8,3,()) else if le4 (uU (s.take (s.length - 4)))≠s.drop (s.length - 4) then (Y8,5,())
  else if H4 (parse (s.take (s.length - 4)))≠0 then (Y8,H4 (parse (s.take (s.length - 4))),()) else (parse (s.take (s.length - 4)),0,())
def FP:o7:={ ps:=[.v .str],rs:=[yM,e8],pre:=λ _=>True,fn:=λ x=>w6 x.1,out:=λ _=>() }
noncomputable def Cu:Env:={ P:=Tryz.prog,tt:=tt,C7:=[(63,Ca),(62,Cg),(64,FL),(65,CX)],res:=[Go.ResultVar.cell 2 91,Go.ResultVar.tmp 3],rs:=[Ty.pair e8 (Ty.pair e8 (Ty.pair e8 (Ty.pair e8 (Ty.pair e8 (Ty.pair X2 (Ty.pair Ty.str Ty.unit)))))),Ty.int IntKind.i64],ps:=[PK.v Ty.str],B0:=[(11,[(2,none),(6,none),(7,none),(54,none)])],nt:=72 }
theorem HW:w7 Cu:=x8 p7 ⟨Qe,Rs,ZX,Sa,trivial⟩
theorem Hw:C2 Cu Tryz.f46:=⟨rfl,rfl⟩
theorem Tt (x0:yY):exec Cu 1000 [.code (d8 Tryz.prog 46)] (s9 FP.ps ((x0,()))) =
  cond (decide ((231:Int)<(↑(List.length x0):Int))) (.ret ((((0:Int),(0:Int),(0:Int),(0:Int),(0:Int),[(0:Int),(0:Int),(0:Int),(0:Int),(0:Int),(0:Int)],[],()),(2:Int),()))) (cond (decide ((↑(List.length x0):Int)<(31:Int))) (.ret ((((0:Int),(0:Int),(0:Int),(0:Int),(0:Int),[(0:Int),(0:Int),(0:Int),(0:Int),(0:Int),(0:Int)],[],()),(3:Int),()))) (.f7 (r9 IntKind.i64 ((↑(List.length x0):Int) - (4:Int))) (.f7 ((0:Int)<=(0:Int)/\(0:Int)<=(↑(List.length x0):Int) - (4:Int)/\(↑(List.length x0):Int) - (4:Int)<=(↑(List.length x0):Int)) (.f7 (r9 IntKind.i64 ((↑(List.length x0):Int) - (4:Int))) (.f7 ((0:Int)<=(↑(List.length x0):Int) - (4:Int)/\(↑(List.length x0):Int) - (4:Int)<=(↑(List.length x0):Int)/\(↑(List.length x0):Int)<=(↑(List.length x0):Int)) (.f7 (True) (.f7 (True) (cond (decide (List.map (λ n=>UInt8.ofNat (Int.toNat n)) (vH (Int.toNat (↑(uU (n6 (0:Int) ((↑(List.length x0):Int) - (4:Int)) x0)):Int)))≠n6 ((↑(List.length x0):Int) - (4:Int)) (↑(List.length x0):Int) x0)) (.ret ((((0:Int),(0:Int),(0:Int),(0:Int),(0:Int),[(0:Int),(0:Int),(0:Int),(0:Int),(0:Int),(0:Int)],[],()),(5:Int),()))) (.f7 ((0:Int)<=(0:Int)/\(0:Int)<(↑(List.length (n6 (0:Int) ((↑(List.length x0):Int) - (4:Int)) x0)):Int)) (.f7 ((0:Int)<=(1:Int)/\(1:Int)<(↑(List.length (n6 (0:Int) ((↑(List.length x0):Int) - (4:Int)) x0)):Int)) (.f7 ((0:Int)<=(2:Int)/\(2:Int)<(↑(List.length (n6 (0:Int) ((↑(List.length x0):Int) - (4:Int)) x0)):Int)) (.f7 ((0:Int)<=(0:Int)/\(5:Int)+(3:Int)*(0:Int)<(↑(List.length (n6 (0:Int) ((↑(List.length x0):Int) - (4:Int)) x0)):Int)) (.f7 ((0:Int)<=(1:Int)/\(5:Int)+(3:Int)*(1:Int)<(↑(List.length (n6 (0:Int) ((↑(List.length x0):Int) - (4:Int)) x0)):Int)) (.f7 ((0:Int)<=(27:Int)/\(27:Int)<=(↑(List.length (n6 (0:Int) ((↑(List.length x0):Int) - (4:Int)) x0)):Int)/\(↑(List.length (n6 (0:Int) ((↑(List.length x0):Int) - (4:Int)) x0)):Int)<=(↑(List.length (n6 (0:Int) ((↑(List.length x0):Int) - (4:Int)) x0)):Int)) (.ctL (f9 (d8 Tryz.prog 46) 11) (St.mk [(2,AV.ptr 2 []),(6,AV.C0 64 (AV.cons (AV.ptr 4 []) AV.nil)),(7,AV.ptr 7 []),(54,AV.val e8 (0:Int))] [(2,g9.var (Ty.pair e8 (Ty.pair e8 (Ty.pair e8 (Ty.pair e8 (Ty.pair e8 (Ty.pair X2 (Ty.pair Ty.str Ty.unit))))))) ((0:Int),(0:Int),(0:Int),(0:Int),(0:Int),[(0:Int),(0:Int),(0:Int),(0:Int),(0:Int),(0:Int)],[],())),(4,g9.var Ty.str (n6 (0:Int) ((↑(List.length x0):Int) - (4:Int)) x0)),(7,g9.var (Ty.pair e8 (Ty.pair e8 (Ty.pair e8 (Ty.pair e8 (Ty.pair e8 (Ty.pair X2 (Ty.pair Ty.str Ty.unit))))))) (IntKind.wrap IntKind.i64 (↑(UInt8.toNat (List.getD (n6 (0:Int) ((↑(List.length x0):Int) - (4:Int)) x0) (Int.toNat (0:Int)) (0:UInt8))):Int),IntKind.wrap IntKind.i64 (↑(UInt8.toNat (List.getD (n6 (0:Int) ((↑(List.length x0):Int) - (4:Int)) x0) (Int.toNat (1:Int)) (0:UInt8))):Int),IntKind.wrap IntKind.i64 (↑(UInt8.toNat (List.getD (n6 (0:Int) ((↑(List.length x0):Int) - (4:Int)) x0) (Int.toNat (2:Int)) (0:UInt8))):Int),uJ (n6 (0:Int) ((↑(List.length x0):Int) - (4:Int)) x0) (Int.toNat (0:Int)),uJ (n6 (0:Int) ((↑(List.length x0):Int) - (4:Int)) x0) (Int.toNat (1:Int)),[(0:Int),(0:Int),(0:Int),(0:Int),(0:Int),(0:Int)],n6 (27:Int) (↑(List.length (n6 (0:Int) ((↑(List.length x0):Int) - (4:Int)) x0)):Int) (n6 (0:Int) ((↑(List.length x0):Int) - (4:Int)) x0),()))])))))))))))))))):=by kernel_rfl
def OU (vn:Int) (dR:Int) (cN:Int) (dQ:Int) (cW:Int) (cw:Int) (bW:List Int) (bN:yY) (o4:yY) (cM:Int) (bt:Int) (cA:Int) (bT:Int) (bC:Int) (bq:List Int) (bh:yY):St:=St.mk [(2,AV.ptr 2 []),(6,AV.C0 64 (AV.cons (AV.ptr 4 []) AV.nil)),(7,AV.ptr 7 []),(54,AV.val e8 vn)] [(2,g9.var (Ty.pair e8 (Ty.pair e8 (Ty.pair e8 (Ty.pair e8 (Ty.pair e8 (Ty.pair X2 (Ty.pair Ty.str Ty.unit))))))) (dR,cN,dQ,cW,cw,bW,bN,())),(4,g9.var Ty.str o4),(7,g9.var (Ty.pair e8 (Ty.pair e8 (Ty.pair e8 (Ty.pair e8 (Ty.pair e8 (Ty.pair X2 (Ty.pair Ty.str Ty.unit))))))) (cM,bt,cA,bT,bC,bq,bh,()))]
theorem Xl (vn:Int) (dR:Int) (cN:Int) (dQ:Int) (cW:Int) (cw:Int) (bW:List Int) (bN:yY) (o4:yY) (cM:Int) (bt:Int) (cA:Int) (bT:Int) (bC:Int) (bq:List Int) (bh:yY):exec Cu 1000 (.code (f9 (d8 Tryz.prog 46) 11).1::.inLoop (f9 (d8 Tryz.prog 46) 11).1::(f9 (d8 Tryz.prog 46) 11).2) (OU vn dR cN dQ cW cw bW bN o4 cM bt cA bT bC bq bh) =
  cond (decide (vn<(6:Int))) (.f7 (r9 IntKind.i64 ((2:Int)+vn)) (.f7 ((0:Int)<=(2:Int)+vn/\(5:Int)+(3:Int)*((2:Int)+vn)<(↑(List.length o4):Int)) (.f7 ((0:Int)<=vn/\vn<(↑6:Int)) (.f7 (r9 IntKind.i64 (vn+(1:Int))) (.ctL (f9 (d8 Tryz.prog 46) 11) (St.mk [(2,AV.ptr 2 []),(6,AV.C0 64 (AV.cons (AV.ptr 4 []) AV.nil)),(7,AV.ptr 7 []),(54,AV.val e8 (vn+(1:Int)))] [(2,g9.var (Ty.pair e8 (Ty.pair e8 (Ty.pair e8 (Ty.pair e8 (Ty.pair e8 (Ty.pair X2 (Ty.pair Ty.str Ty.unit))))))) (dR,cN,dQ,cW,cw,bW,bN,())),(4,g9.var Ty.str o4),(7,g9.var (Ty.pair e8 (Ty.pair e8 (Ty.pair e8 (Ty.pair e8 (Ty.pair e8 (Ty.pair X2 (Ty.pair Ty.str Ty.unit))))))) (cM,bt,cA,bT,bC,List.set bq (Int.toNat vn) (uJ o4 (Int.toNat ((2:Int)+vn))),bh,()))])))))) (.f7 (True) (cond (decide (H4 (cM,bt,cA,bT,bC,bq,bh,())≠(0:Int))) (.ret ((((0:Int),(0:Int),(0:Int),(0:Int),(0:Int),[(0:Int),(0:Int),(0:Int),(0:Int),(0:Int),(0:Int)],[],()),H4 (cM,bt,cA,bT,bC,bq,bh,()),()))) (.ret (((cM,bt,cA,bT,bC,bq,bh,()),(0:Int),()))))):=by kernel_rfl
def atL (s:yY) (i:Nat):List Int:=(List.range 6).map (λ j=>if j<i then uJ s (2+j) else 0)
theorem b7b:FP.Valid Tryz.prog 46:=by
  refine o7.o5 HW rfl rfl Tryz.func46 (c:=d8 Tryz.prog 46) rfl rfl Hw rfl ?_;rintro ⟨(s:yY),⟨⟩⟩ - -
  refine j6 (n:=1000) HW Hw ?_;refine i6 (Tt s) ?_;simp only [j7,Tree.holds,sL];refine ⟨λ h=>?_,λ h1=>⟨λ h=>?_,λ h2=>⟨by omega,λ _=>⟨by omega,λ _=>⟨by omega,λ _=>⟨by omega,λ _=>?_⟩⟩⟩⟩⟩⟩
  . show ((Y8,2,()):y8×Int×Unit)=w6 s;rw [w6,if_pos (by omega)]
  . show ((Y8,3,()):y8×Int×Unit)=w6 s;rw [w6,if_neg (by omega),if_pos (by omega)]
  obtain ⟨n,hn⟩:∃ n:Nat,(s.length:Int) - 4=n:=⟨s.length - 4,by omega⟩;have sf:s.length - 4=n:=by omega
  have b1:n6 0 ((s.length:Int) - 4) s=s.take n:=by rw [hn,n6]; simp
  have b2:n6 ((s.length:Int) - 4) (s.length:Int) s=s.drop n:=by rw [hn,n6,Int.toNat_natCast,List.take_of_length_le (by rw [List.length_drop]; omega)]
  have bQ:(s.take n).length=n:=by rw [List.length_take]; omega
  have b3:n6 27 (n:Int) (s.take n)=(s.take n).drop 27:=by rw [n6,List.take_of_length_le (by rw [List.length_drop,bQ]; show n - 27<=((n:Int) - 27).toNat; omega)]; rfl
  have b4:List.map (λ n:Int=>UInt8.ofNat n.toNat) (vH (uU (s.take n)))=le4 (uU (s.take n)):=IS _;have hR:w6 s=if le4 (uU (s.take n))≠s.drop n then (Y8,5,()) else if H4 (parse (s.take n))≠0 then (Y8,H4 (parse (s.take n)),()) else (parse (s.take n),0,()):=by
    rw [w6,if_neg (by omega),if_neg (by omega),sf]
  generalize gO:s.take n=body at *
  have w:∀ q:UInt8,IntKind.wrap .i64 (q.toNat:Int)=(q.toNat:Int):=λ q=>by have:=q.toNat_lt; exact R5 (F1.2 ⟨by omega,by omega⟩)
  simp only [j7,Tree.holds,b1,b2,b4,bQ,b3,w,sL];refine ⟨λ h=>?_,λ h=>⟨by omega,λ _=>⟨by omega,λ _=>⟨by omega,λ _=>⟨by omega,λ _=>⟨by omega,λ _=>⟨by omega,λ _=>?_⟩⟩⟩⟩⟩⟩⟩
  . show ((Y8,5,()):y8×Int×Unit)=w6 s;rw [hR,if_pos h]
  rw [if_neg h] at hR;refine Reach.M9 HW Hw (λ i:Nat=>OU (i:Int) 0 0 0 0 0 [0,0,0,0,0,0] [] body (vo body 0) (vo body 1) (vo body 2) (uJ body 0) (uJ body 1) (atL body i) (body.drop 27)) (λ i=>i<=6)
    (λ i=>6 - i) 1000 (λ _=>⟨u7 rfl,u7 rfl⟩) ?_ 0 (Nat.zero_le _)
  rintro i k1 - ih;have k1:i<=6:=k1;refine i6 (Xl ..) ?_;simp only [j7,Tree.holds,bQ,sL];refine ⟨λ c=>⟨by omega,λ _=>⟨by omega,λ _=>⟨by omega,λ _=>⟨by omega,λ _=>?_⟩⟩⟩⟩,λ c=>?_⟩
  . have hi:i<6:=by omega
    have:=ih (i+1) (by show i+1<=6; omega) (by omega);have e2:Int.toNat (2+(i:Int))=2+i:=by omega
    have:(atL body i).set i (uJ body (2+i))=atL body (i+1):=by
      rw [atL,b3w _ _ hi,atL];refine List.map_congr_left (λ j hj=>?_);by_cases e:j=i
      . rw [if_pos e,if_pos (by omega),e]
      . rw [if_neg e];by_cases e2:j<i
        . rw [if_pos e2,if_pos (by omega)]
        . rw [if_neg e2,if_neg (by omega)]
    rw [e2,this]
    assumption
  . obtain rfl:i=6:=by omega
    have hp:(vo body 0,vo body 1,vo body 2,uJ body 0,uJ body 1,atL body 6,body.drop 27,())=parse body:=rfl;rw [hp];refine ⟨λ h=>?_,λ h=>?_⟩
    . show ((Y8,H4 (parse body),()):y8×Int×Unit)=w6 s;rw [hR,if_pos h]
    . show ((parse body,0,()):y8×Int×Unit)=w6 s;rw [hR,if_neg h]
abbrev vr:=Int×Int×Unit
def outside (m:Int):Bool:=decide (64<=m)
def half (p o:Int):Bool:=decide (vp o<2*vp (T5 .u8 p o))
def W0 (v:vr):Int:=if v.1<0\/16777215<v.1\/v.2.1=0\/64<=v.2.1 then 1 else 0
def Q8 (v:vr) (g c:Int):vr×Int×Unit :=
  if W0 v≠0 then ((0,0,()),W0 v,()) else if outside (bOr .u8 g c)=true then ((0,0,()),1,()) else if T5 .u8 g c≠0 then ((0,0,()),1,())
  else if v.1=16777215 then ((0,0,()),8,()) else if (!half (V9 .u8 v.2.1 g) v.2.1)=true then ((0,0,()),11,()) else ((v.1+1,bOr .u8 (V9 .u8 v.2.1 g) c,()),0,())
def Dd:o7:={ ps:=[.v U8],rs:=[.bool],pre:=λ _=>True,fn:=λ x=>(outside x.1,()),out:=λ _=>() }
def AH:o7:={ ps:=[.v View],rs:=[e8],pre:=λ _=>True,fn:=λ x=>(W0 x.1,()),out:=λ _=>() }
def FM:o7:={ ps:=[.v U8],rs:=[e8],pre:=λ _=>True,fn:=λ x=>(vp x.1,()),out:=λ _=>() }
def EU:o7:={ ps:=[.v U8,.v U8],rs:=[.bool],pre:=λ _=>True,fn:=λ x=>(half x.1 x.2.1,()),out:=λ _=>() }
def Ao:o7:={ ps:=[.v View,.v U8,.v U8],rs:=[View,e8],pre:=λ _=>True,fn:=λ x=>Q8 x.1 x.2.1 x.2.2.1,out:=λ _=>() }
noncomputable def HT:Env:={ P:=Tryz.prog,tt:=tt,C7:=[],res:=[Go.ResultVar.tmp 2],rs:=[Ty.bool],ps:=[PK.v U8],B0:=[],nt:=6 }
theorem Rh:w7 HT:=x8 p7 trivial
theorem Ri:C2 HT Tryz.f71:=⟨rfl,rfl⟩
theorem YD (x0:Int):exec HT 1000 [.code (d8 Tryz.prog 71)] (s9 Dd.ps ((x0,()))) =
  .f7 ((0:Int)<=(6:Int)) (.ret ((decide (x0 / (2:Int)^min (Int.toNat (6:Int)) (IntKind.bits IntKind.u8)≠(0:Int)),()))):=by kernel_rfl
theorem Se:Dd.Valid Tryz.prog 71:=by
  refine o7.o5 Rh rfl rfl Tryz.func71 (c:=d8 Tryz.prog 71) rfl rfl Ri rfl ?_;rintro ⟨(x0:Int),⟨⟩⟩ - ⟨h0,-⟩;refine j6 (n:=1000) Rh Ri ?_;refine i6 (YD x0) ?_;refine ⟨by decide,λ _=>?_⟩;have h:0<=x0/\x0<=255:=h0;show (decide (x0 / 2^6≠0),())=(outside x0,());unfold outside;congr 1;exact decide_eq_decide.2 (by omega)
noncomputable def Hj:Env:={ P:=Tryz.prog,tt:=tt,C7:=[(71,Dd)],res:=[Go.ResultVar.tmp 2],rs:=[Ty.int IntKind.i64],ps:=[PK.v View],B0:=[],nt:=21 }
theorem Qn:w7 Hj:=x8 p7 ⟨Se,trivial⟩
theorem Qs:C2 Hj Tryz.f70:=⟨rfl,rfl⟩
theorem Xm (aO:Int) (ab:Int):exec Hj 1000 [.code (d8 Tryz.prog 70)] (s9 AH.ps (((aO,ab,()),()))) =
  cond (decide (aO<(0:Int))) (.ret (((1:Int),()))) (cond (decide ((16777215:Int)<aO)) (.ret (((1:Int),()))) (cond (decide (ab=(0:Int))) (.ret (((1:Int),()))) (.f7 (True) (cond (outside ab) (.ret (((1:Int),()))) (.ret (((0:Int),()))))))):=by kernel_rfl
theorem RZ:AH.Valid Tryz.prog 70:=by
  refine o7.o5 Qn rfl rfl Tryz.func70 (c:=d8 Tryz.prog 70) rfl rfl Qs rfl ?_;rintro ⟨⟨(x0:Int),(x1:Int),⟨⟩⟩,⟨⟩⟩ - ⟨⟨h0,h1,-⟩,-⟩;refine j6 (n:=1000) Qn Qs ?_;refine i6 (Xm x0 x1) ?_;have g0:-9223372036854775808<=x0/\x0<=9223372036854775807:=h0;have g1:0<=x1/\x1<=255:=h1;simp only [j7,Tree.holds,decide_eq_true_eq,decide_eq_false_iff_not];have key:∀ r:Int,r=W0 (x0,x1,())->((r,()):DL [Ty.int .i64])=AH.fn ((x0,x1,()),()):=by rintro r rfl; rfl
  refine ⟨λ a=>key _ ?_,λ a=>⟨λ b=>key _ ?_,λ b=>⟨λ c=>key _ ?_,λ c=>⟨trivial,λ _=>⟨λ d=>key _ ?_,λ d=>key _ ?_⟩⟩⟩⟩⟩
  all_goals simp only [W0,outside,decide_eq_true_eq,decide_eq_false_iff_not] at *
  all_goals (first|rw [if_pos (by omega)]|rw [if_neg (by omega)])
noncomputable def Fi:Env:={ P:=Tryz.prog,tt:=tt,C7:=[],res:=[Go.ResultVar.tmp 2],rs:=[Ty.int IntKind.i64],ps:=[PK.v U8],B0:=[],nt:=6 }
theorem NS:w7 Fi:=x8 p7 trivial
theorem NH:C2 Fi Tryz.f88:=⟨rfl,rfl⟩
theorem Tq (x0:Int):exec Fi 1000 [.code (d8 Tryz.prog 88)] (s9 FM.ps ((x0,()))) =
  .f7 ((0:Int)<=x0/\x0<(↑(List.length (Array.toList (ByteArray.data (ByteArray.mk (List.toArray (List.append (List.append ([0,1,1,2,1,2,2,3,1,2,2,3,2,3,3,4,1,2,2,3,2,3,3,4,2,3,3,4,3,4,4,5,1,2,2,3,2,3,3,4,2,3,3,4,3,4,4,5,2,3,3,4,3,4,4,5,3,4,4,5,4,5,5,6]:yY) ([1,2,2,3,2,3,3,4,2,3,3,4,3,4,4,5,2,3,3,4,3,4,4,5,3,4,4,5,4,5,5,6,2,3,3,4,3,4,4,5,3,4,4,5,4,5,5,6,3,4,4,5,4,5,5,6,4,5,5,6,5,6,6,7]:yY)) (List.append ([1,2,2,3,2,3,3,4,2,3,3,4,3,4,4,5,2,3,3,4,3,4,4,5,3,4,4,5,4,5,5,6,2,3,3,4,3,4,4,5,3,4,4,5,4,5,5,6,3,4,4,5,4,5,5,6,4,5,5,6,5,6,6,7]:yY) ([2,3,3,4,3,4,4,5,3,4,4,5,4,5,5,6,3,4,4,5,4,5,5,6,4,5,5,6,5,6,6,7,3,4,4,5,4,5,5,6,4,5,5,6,5,6,6,7,4,5,5,6,5,6,6,7,5,6,6,7,6,7,7,8]:yY)))))))):Int)) (.ret ((IntKind.wrap IntKind.i64 (↑(UInt8.toNat (List.getD (Array.toList (ByteArray.data (ByteArray.mk (List.toArray (List.append (List.append ([0,1,1,2,1,2,2,3,1,2,2,3,2,3,3,4,1,2,2,3,2,3,3,4,2,3,3,4,3,4,4,5,1,2,2,3,2,3,3,4,2,3,3,4,3,4,4,5,2,3,3,4,3,4,4,5,3,4,4,5,4,5,5,6]:yY) ([1,2,2,3,2,3,3,4,2,3,3,4,3,4,4,5,2,3,3,4,3,4,4,5,3,4,4,5,4,5,5,6,2,3,3,4,3,4,4,5,3,4,4,5,4,5,5,6,3,4,4,5,4,5,5,6,4,5,5,6,5,6,6,7]:yY)) (List.append ([1,2,2,3,2,3,3,4,2,3,3,4,3,4,4,5,2,3,3,4,3,4,4,5,3,4,4,5,4,5,5,6,2,3,3,4,3,4,4,5,3,4,4,5,4,5,5,6,3,4,4,5,4,5,5,6,4,5,5,6,5,6,6,7]:yY) ([2,3,3,4,3,4,4,5,3,4,4,5,4,5,5,6,3,4,4,5,4,5,5,6,4,5,5,6,5,6,6,7,3,4,4,5,4,5,5,6,4,5,5,6,5,6,6,7,4,5,5,6,5,6,6,7,5,6,6,7,6,7,7,8]:yY))))))) (Int.toNat x0) (0:UInt8))):Int),()))):=by kernel_rfl
theorem ZY:FM.Valid Tryz.prog 88:=by
  refine o7.o5 NS rfl rfl Tryz.func88 (c:=d8 Tryz.prog 88) rfl rfl NH rfl ?_;rintro ⟨(x0:Int),⟨⟩⟩ - ⟨h0,-⟩;refine j6 (n:=1000) NS NH ?_;refine i6 (Tq x0) ?_;have g0:0<=x0/\x0<=255:=h0;obtain ⟨n,rfl⟩:∃ n:Fin 256,x0=((n.val:Nat):Int):=⟨⟨x0.toNat,by omega⟩,by simp; omega⟩;refine ⟨?_,λ _=>?_⟩
  . clear h0 g0; revert n; decide +kernel
  . show ((_,()):Int×Unit)=(vp n,());clear h0 g0; revert n; decide +kernel
noncomputable def Fv:Env:={ P:=Tryz.prog,tt:=tt,C7:=[(88,FM)],res:=[Go.ResultVar.tmp 4],rs:=[Ty.bool],ps:=[PK.v U8,PK.v U8],B0:=[],nt:=13 }
theorem Nh:w7 Fv:=x8 p7 ⟨ZY,trivial⟩
theorem NB:C2 Fv Tryz.f72:=⟨rfl,rfl⟩
theorem Ti (x0:Int) (x1:Int):exec Fv 1000 [.code (d8 Tryz.prog 72)] (s9 EU.ps ((x0,x1,()))) =
  .f7 (True) (.f7 (r9 IntKind.i64 ((2:Int)*vp (T5 IntKind.u8 x0 x1))) (.f7 (True) (.ret ((decide (vp x1<(2:Int)*vp (T5 IntKind.u8 x0 x1)),()))))):=by kernel_rfl
theorem ZN:EU.Valid Tryz.prog 72:=by
  refine o7.o5 Nh rfl rfl Tryz.func72 (c:=d8 Tryz.prog 72) rfl rfl NB rfl ?_;rintro ⟨(x0:Int),(x1:Int),⟨⟩⟩ - ⟨h0,h1,-⟩;refine j6 (n:=1000) Nh NB ?_;refine i6 (Ti x0 x1) ?_;have hb:∀ a b:Int,0<=vp (T5 .u8 a b)/\vp (T5 .u8 a b)<=8:=λ a b=>UK _;refine ⟨trivial,λ _=>⟨?_,λ _=>⟨trivial,λ _=>rfl⟩⟩⟩;have:=hb x0 x1;show -9223372036854775808<=_/\_<=9223372036854775807;omega
theorem Zv {v:vr} (h:W0 v=0):0<=v.1/\v.1<=16777215/\v.2.1≠0/\v.2.1<64:=by
  unfold W0 at h;split at h
  . cases h
  . omega
noncomputable def Gy:Env:={ P:=Tryz.prog,tt:=tt,C7:=[(71,Dd),(70,AH),(72,EU)],res:=[Go.ResultVar.cell 6 57,Go.ResultVar.tmp 7],rs:=[Ty.pair e8 (Ty.pair U8 Ty.unit),Ty.int IntKind.i64],ps:=[PK.v View,PK.v U8,PK.v U8],B0:=[],nt:=52 }
theorem OT:w7 Gy:=x8 p7 ⟨Se,RZ,ZN,trivial⟩
theorem PE:C2 Gy Tryz.f53:=⟨rfl,rfl⟩
theorem Vd (aO:Int) (ab:Int) (x1:Int) (x2:Int):exec Gy 1000 [.code (d8 Tryz.prog 53)] (s9 Ao.ps (((aO,ab,()),x1,x2,()))) =
  .f7 (True) (cond (decide (W0 (aO,ab,())≠(0:Int))) (.ret ((((0:Int),(0:Int),()),W0 (aO,ab,()),()))) (.f7 (True) (cond (outside (bOr IntKind.u8 x1 x2)) (.ret ((((0:Int),(0:Int),()),(1:Int),()))) (cond (decide (T5 IntKind.u8 x1 x2≠(0:Int))) (.ret ((((0:Int),(0:Int),()),(1:Int),()))) (cond (decide (aO=(16777215:Int))) (.ret ((((0:Int),(0:Int),()),(8:Int),()))) (.f7 (True) (cond (!half (V9 IntKind.u8 ab x1) ab) (.ret ((((0:Int),(0:Int),()),(11:Int),()))) (.f7 (r9 IntKind.i64 (aO+(1:Int))) (.ret (((aO+(1:Int),bOr IntKind.u8 (V9 IntKind.u8 ab x1) x2,()),(0:Int),()))))))))))):=by kernel_rfl
theorem RG:Ao.Valid Tryz.prog 53:=by
  refine o7.o5 OT rfl rfl Tryz.func53 (c:=d8 Tryz.prog 53) rfl rfl PE rfl ?_;rintro ⟨⟨(x0:Int),(x1:Int),⟨⟩⟩,(g:Int),(c:Int),⟨⟩⟩ - ⟨⟨h0,h1,-⟩,h2,h3,-⟩;refine j6 (n:=1000) OT PE ?_;refine i6 (Vd x0 x1 g c) ?_;have g0:-9223372036854775808<=x0/\x0<=9223372036854775807:=h0;have key:∀ r:vr×Int×Unit,Q8 (x0,x1,()) g c=r->((r:DL [View,.int .i64])=Ao.fn ((x0,x1,()),g,c,())):=by rintro r rfl; rfl
  simp only [j7,Tree.holds,decide_eq_true_eq,decide_eq_false_iff_not];refine ⟨trivial,λ _=>⟨λ a=>key _ ?_,λ a=>⟨trivial,λ _=>⟨λ b=>key _ ?_,λ b=>⟨λ d=>key _ ?_,λ d=>⟨λ e=>key _ ?_,λ e=>⟨trivial,λ _=>⟨λ f=>key _ ?_,λ f=>⟨⟨?_,?_⟩,λ _=>key _ ?_⟩⟩⟩⟩⟩⟩⟩⟩⟩
  . rw [Q8,if_pos a]; rfl
  . rw [Q8,if_neg a,if_pos b]; rfl
  . rw [Q8,if_neg a,if_neg (by simpa using b),if_pos d]; rfl
  . rw [Q8,if_neg a,if_neg (by simpa using b),if_neg d,if_pos e]; rfl
  . rw [Q8,if_neg a,if_neg (by simpa using b),if_neg d,if_neg e,if_pos f]; rfl
  . show -9223372036854775808<=_; omega
  . have:=(Zv (v:=(x0,x1,())) (by simpa using a)).2.1;show x0+1<=9223372036854775807; simp only at this; omega
  . rw [Q8,if_neg a,if_neg (by simpa using b),if_neg d,if_neg e,if_neg (by simpa using f)]; rfl
def Q9 (f:Nat->Int):Nat->Int
  | 0=>0
  | k+1=>if Q9 f k≠0 then Q9 f k else f k
theorem QZ {f:Nat->Int} {k:Nat} (h0:Q9 f k=0) (h1:f k≠0):∀ {n:Nat},k<n->Q9 f n=f k
  | 0,h=>by omega
  | n+1,h=>by
    by_cases e:k=n
    . subst e; simp [Q9,h0]
    . have:=QZ h0 h1 (n:=n) (by omega);simp [Q9,this,h1]
theorem QY {f:Nat->Int} {k:Nat} (h0:Q9 f k=0) (h1:f k=0):Q9 f (k+1)=0:=by simp [Q9,h0,h1]
theorem DX {f:Nat->Int}:∀ {n:Nat},Q9 f n=0↔∀ k,k<n->f k=0
  | 0=>by simp [Q9]
  | n+1=>by
    constructor
    . intro h k hk;have h2:Q9 f n=0:=by
        by_cases e:Q9 f n=0
        . exact e
        . rw [Q9,if_pos e] at h; exact absurd h e
      by_cases e:k=n
      . subst e; simpa [Q9,h2] using h
      . exact DX.1 h2 k (by omega)
    . intro h;exact QY (DX.2 (λ k hk=>h k (by omega))) (h n (by omega))
abbrev s7:=Int×yY×Unit
abbrev vg:=Int×List yY×Unit
abbrev ToD:=Int×List s7×Unit
def zS:o7:={ ps:=[.v e8,.v e8,.v e8],rs:=[.bool],pre:=λ _=>True,fn:=λ x=>(inF x.1 x.2.1 x.2.2.1,()),out:=λ _=>() }
noncomputable def El:Env:={ P:=Tryz.prog,tt:=tt,C7:=[],res:=[Go.ResultVar.tmp 6],rs:=[Ty.bool],ps:=[PK.v e8,PK.v e8,PK.v e8],B0:=[],nt:=15 }
theorem Mo:w7 El:=x8 p7 trivial
theorem Mx:C2 El Tryz.f75:=⟨rfl,rfl⟩
theorem Sn (x0:Int) (x1:Int) (x2:Int):exec El 1000 [.code (d8 Tryz.prog 75)] (s9 zS.ps ((x0,x1,x2,()))) =
  cond (decide (x1<=x0)) (.ret ((decide (x0<=x2),()))) (.ret ((false,()))):=by kernel_rfl
theorem IV:zS.Valid Tryz.prog 75:=by
  refine o7.o5 Mo rfl rfl Tryz.func75 (c:=d8 Tryz.prog 75) rfl rfl Mx rfl ?_;rintro ⟨(a:Int),(b:Int),(c:Int),⟨⟩⟩ - -
  refine j6 (n:=1000) Mo Mx ?_;refine i6 (Sn a b c) ?_;simp only [j7,Tree.holds,sL]
  repeat' first|exact trivial|(refine And.intro ?_ ?_)|(intro _)
  all_goals (show ((_,()):Bool×Unit)=(inF a b c,()); simp [inF, *])
def D8 (s:yY):Bool:=decide ((200:Int)<s.length)
def zg:o7:={ ps:=[.v .str],rs:=[.bool],pre:=λ _=>True,fn:=λ x=>(D8 x.1,()),out:=λ _=>() }
noncomputable def Gx:Env:={ P:=Tryz.prog,tt:=tt,C7:=[],res:=[Go.ResultVar.tmp 2],rs:=[Ty.bool],ps:=[PK.v Ty.str],B0:=[],nt:=6 }
theorem OS:w7 Gx:=x8 p7 trivial
theorem PD:C2 Gx Tryz.f59:=⟨rfl,rfl⟩
theorem Vb (x0:yY):exec Gx 1000 [.code (d8 Tryz.prog 59)] (s9 zg.ps ((x0,()))) =
  .ret ((decide ((200:Int)<(↑(List.length x0):Int)),())):=by kernel_rfl
theorem Eg:zg.Valid Tryz.prog 59:=by
  refine o7.o5 OS rfl rfl Tryz.func59 (c:=d8 Tryz.prog 59) rfl rfl PD rfl ?_;rintro ⟨(s:yY),⟨⟩⟩ - -
  refine j6 (n:=1000) OS PD ?_;refine i6 (Vb s) ?_;rfl
def EY:o7:={ ps:=[.v (.d0 false .str),.C0 59 []],rs:=[e8],pre:=λ x=>True,fn:=λ x=>(idxOf (D8) x.1,()),out:=λ _=>() }
noncomputable def Ct:Env:={ P:=Tryz.prog,tt:=tt,C7:=[(59,zg)],res:=[Go.ResultVar.tmp 4],rs:=[Ty.int IntKind.i64],ps:=[PK.v (Ty.d0 false Ty.str),PK.C0 59 []],B0:=[(2,[(0,none),(1,none),(7,none),(8,none)])],nt:=19 }
theorem HR:w7 Ct:=x8 p7 ⟨Eg,trivial⟩
theorem Ia:C2 Ct Tryz.f94:=⟨rfl,rfl⟩
theorem Tl (x0:List yY):exec Ct 1000 [.code (d8 Tryz.prog 94)] (s9 EY.ps ((x0,(),()))) =
  .ctL (f9 (d8 Tryz.prog 94) 2) (St.mk [(0,AV.val (Ty.d0 false Ty.str) x0),(1,AV.C0 59 AV.nil),(7,AV.val e8 (↑(List.length x0):Int)),(8,AV.val e8 (0:Int))] []):=by kernel_rfl
def NN (v0:List yY) (v7:Int) (v8:Int):St:=St.mk [(0,AV.val (Ty.d0 false Ty.str) v0),(1,AV.C0 59 AV.nil),(7,AV.val e8 v7),(8,AV.val e8 v8)] []
theorem VM (v0:List yY) (v7:Int) (v8:Int):exec Ct 1000 (.code (f9 (d8 Tryz.prog 94) 2).1::.inLoop (f9 (d8 Tryz.prog 94) 2).1::(f9 (d8 Tryz.prog 94) 2).2) (NN v0 v7 v8) =
  cond (decide (v8<v7)) (.f7 ((0:Int)<=v8/\v8<(↑(List.length v0):Int)) (.f7 (True) (cond (D8 (List.getD v0 (Int.toNat v8) [])) (.ret ((v8,()))) (.f7 (r9 IntKind.i64 (v8+(1:Int))) (.ctL (f9 (d8 Tryz.prog 94) 2) (St.mk [(0,AV.val (Ty.d0 false Ty.str) v0),(1,AV.C0 59 AV.nil),(7,AV.val e8 v7),(8,AV.val e8 (v8+(1:Int)))] [])))))) (.ret (((-1:Int),()))):=by kernel_rfl
theorem ZR:EY.Valid Tryz.prog 94:=by
  refine o7.o5 HR rfl rfl Tryz.func94 (c:=d8 Tryz.prog 94) rfl rfl Ia rfl ?_;rintro ⟨(l:List yY),⟨⟩,⟨⟩⟩ - ⟨⟨hl,-⟩,-⟩;have hl:l.length<=9223372036854775807:=hl;refine j6 (n:=1000) HR Ia ?_;refine i6 (Tl l ) ?_;refine Reach.M9 HR Ia (λ i:Nat=>NN l  (l.length:Int) (i:Int)) (λ i=>i<=l.length/\idxOf (D8) l=Z7 (D8) (l.drop i) i)
    (λ i=>l.length - i) 1000 (λ _=>⟨u7 rfl,u7 rfl⟩) ?_ 0 ⟨by omega,rfl⟩
  rintro i ⟨k1,k2⟩ - ih;refine i6 (VM ..) ?_;simp only [j7,Tree.holds,sL];refine ⟨λ h=>?_,λ h=>?_⟩
  . rw [Jh (show i<l.length by omega) [],Z7] at k2;refine ⟨by omega,λ _=>⟨λ c=>?_,λ c=>⟨by omega,λ _=>ih (i+1) ⟨by omega,?_⟩ (by omega)⟩⟩⟩
    . show (((i:Int),()):Int×Unit)=(idxOf (D8) l,());rw [k2,if_pos (show (D8) (l.getD i [])=true from c)]
    . rw [k2,if_neg (show ¬ (D8) (l.getD i [])=true from λ h9=>Bool.noConfusion (Eq.trans (Eq.symm h9) c))]
  . rw [List.drop_eq_nil_of_le (by omega)] at k2;show (((-1:Int),()):Int×Unit)=(idxOf (D8) l,());rw [k2]; rfl
def Gs:o7:={ ps:=[.v (.d0 false .str),.C0 59 []],rs:=[.bool],pre:=λ x=>True,fn:=λ x=>(List.any (α:=yY) x.1 (D8),()),out:=λ _=>() }
noncomputable def FZ:Env:={ P:=Tryz.prog,tt:=tt,C7:=[(94,EY)],res:=[Go.ResultVar.tmp 4],rs:=[Ty.bool],ps:=[PK.v (Ty.d0 false Ty.str),PK.C0 59 []],B0:=[],nt:=9 }
theorem OH:w7 FZ:=x8 p7 ⟨ZR,trivial⟩
theorem OY:C2 FZ Tryz.f76:=⟨rfl,rfl⟩
theorem Vw (x0:List yY):exec FZ 1000 [.code (d8 Tryz.prog 76)] (s9 Gs.ps ((x0,(),()))) =
  .f7 (True) (.ret ((decide ((0:Int)<=idxOf D8 x0),()))):=by kernel_rfl
theorem b5c:Gs.Valid Tryz.prog 76:=by
  refine o7.o5 OH rfl rfl Tryz.func76 (c:=d8 Tryz.prog 76) rfl rfl OY rfl ?_;rintro ⟨(l:List yY),⟨⟩,⟨⟩⟩ - -
  refine j6 (n:=1000) OH OY ?_;refine i6 (Vw l ) ?_;refine ⟨trivial,λ _=>?_⟩;show ((decide (0<=idxOf (D8) l),()):Bool×Unit)=(l.any (D8),());rw [GU]
theorem SQ:Ty.wb .str=16:=rfl
def BZ:o7:={ ps:=[.v (.d0 false .str)],rs:=[.d0 true .str],pre:=λ x=>List.length (α:=yY) x.1<=1048576,fn:=λ x=>x,out:=λ _=>() }
noncomputable def En:Env:={ P:=Tryz.prog,tt:=tt,C7:=[],res:=[Go.ResultVar.tmp 2],rs:=[Ty.d0 true Ty.str],ps:=[PK.v (Ty.d0 false Ty.str)],B0:=[],nt:=8 }
theorem Mq:w7 En:=x8 p7 trivial
theorem Mz:C2 En Tryz.f32:=⟨rfl,rfl⟩
theorem Sp (x0:List yY):exec En 1000 [.code (d8 Tryz.prog 32)] (s9 BZ.ps ((x0,()))) =
  .both (x0=[]) (.ret (([],()))) (.f7 ((0:Nat)+List.length x0<=140737488355328/\((0:Nat)+List.length x0)*Ty.wb Ty.str<=140737488355328) (.ret (([]++x0,())))):=by kernel_rfl
theorem Qd:BZ.Valid Tryz.prog 32:=by
  refine o7.o5 Mq rfl rfl Tryz.func32 (c:=d8 Tryz.prog 32) rfl rfl Mz rfl ?_;rintro ⟨(l:List yY),⟨⟩⟩ hp -
  have hp:l.length<=1048576:=hp;refine j6 (n:=1000) Mq Mz ?_;refine i6 (Sp l) ?_;simp only [j7,Tree.holds,SQ,sL];refine ⟨λ h=>?_,by omega,λ _=>rfl⟩;show (([],()):List yY×Unit)=(l,());rw [show l=[] from h]
def f00:vg:=(0,[],())
def H6 (s:vg):Int:=if inF s.1 0 16777215=false then 1 else if (16:Int)<s.2.1.length then 1 else if s.2.1.any D8=true then 2 else 0
def An:o7:={ ps:=[.v P0],rs:=[e8],pre:=λ _=>True,fn:=λ x=>(H6 x.1,()),out:=λ _=>() }
noncomputable def Gb:Env:={ P:=Tryz.prog,tt:=tt,C7:=[(75,zS),(76,Gs)],res:=[Go.ResultVar.tmp 2],rs:=[Ty.int IntKind.i64],ps:=[PK.v P0],B0:=[],nt:=18 }
theorem OK:w7 Gb:=x8 p7 ⟨IV,b5c,trivial⟩
theorem Pa:C2 Gb Tryz.f58:=⟨rfl,rfl⟩
theorem Vz (aO:Int) (ab:List yY):exec Gb 1000 [.code (d8 Tryz.prog 58)] (s9 An.ps (((aO,ab,()),()))) =
  .f7 (True) (cond (!inF aO (0:Int) (16777215:Int)) (.ret (((1:Int),()))) (cond (decide ((16:Int)<(↑(List.length ab):Int))) (.ret (((1:Int),()))) (.f7 (True) (cond (List.any ab D8) (.ret (((2:Int),()))) (.ret (((0:Int),()))))))):=by kernel_rfl
theorem lnf {b:Bool} (h:b=true):¬ b=false:=by rw [h]; simp
theorem Ke:An.Valid Tryz.prog 58:=by
  refine o7.o5 OK rfl rfl Tryz.func58 (c:=d8 Tryz.prog 58) rfl rfl Pa rfl ?_;rintro ⟨⟨(b:Int),(l:List yY),⟨⟩⟩,⟨⟩⟩ - -
  refine j6 (n:=1000) OK Pa ?_;refine i6 (Vz b l) ?_;have key:∀ {x:Int},H6 (b,l,())=x->((x,()):Int×Unit)=(H6 (b,l,()),()):=by rintro x rfl; rfl
  have hd:H6 (b,l,())=if inF b 0 16777215=false then 1 else if (16:Int)<l.length then 1 else if l.any D8=true then 2 else 0:=rfl
  simp only [j7,Tree.holds,sL];refine ⟨λ a=>key (by rw [hd,if_pos a]),λ a=>⟨λ c=>key (by rw [hd,if_neg (lnf a),if_pos c]),λ c=>⟨λ d=>key (by rw [hd,if_neg (lnf a),if_neg c,if_pos d]),λ d=>key (by rw [hd,if_neg (lnf a),if_neg c,if_neg (by rw [d]; simp)])⟩⟩⟩
theorem xd {s:vg} (h:H6 s=0):(0<=s.1/\s.1<=16777215)/\s.2.1.length<=16/\s.2.1.any D8=false:=by
  unfold H6 at h;split at h
  . cases h
  rename_i c1;split at h
  . cases h
  rename_i c2;split at h
  . cases h
  rename_i c3;exact ⟨wU.1 (Bool.not_eq_false _▸c1),by omega,by simpa using c3⟩
def P7 (s:vg) (x:yY):vg×Int×Unit :=
  if H6 s≠0 then (f00,H6 s,()) else if D8 x=true then (f00,2,()) else if (s.2.1.length:Int)=16\/16777215<=s.1+s.2.1.length then (f00,8,()) else ((s.1,s.2.1++[x],()),0,())
def Fa:o7:={ ps:=[.v P0,.v .str],rs:=[KC,e8],pre:=λ _=>True,fn:=λ x=>P7 x.1 x.2.1,out:=λ _=>() }
noncomputable def Ff:Env:={ P:=Tryz.prog,tt:=tt,C7:=[(58,An),(59,zg),(32,BZ)],res:=[Go.ResultVar.cell 4 78,Go.ResultVar.tmp 5],rs:=[Ty.pair e8 (Ty.pair (Ty.d0 true Ty.str) Ty.unit),Ty.int IntKind.i64],ps:=[PK.v P0,PK.v Ty.str],B0:=[],nt:=41 }
theorem NQ:w7 Ff:=x8 p7 ⟨Ke,Eg,Qd,trivial⟩
theorem NF:C2 Ff Tryz.f42:=⟨rfl,rfl⟩
theorem To (aO:Int) (ab:List yY) (x1:yY):exec Ff 1000 [.code (d8 Tryz.prog 42)] (s9 Fa.ps (((aO,ab,()),x1,()))) =
  .f7 (True) (cond (decide (H6 (aO,ab,())≠(0:Int))) (.ret ((((0:Int),[],()),H6 (aO,ab,()),()))) (.f7 (True) (cond (D8 x1) (.ret ((((0:Int),[],()),(2:Int),()))) (cond (decide ((↑(List.length ab):Int)=(16:Int))) (.ret ((((0:Int),[],()),(8:Int),()))) (.f7 (r9 IntKind.i64 (aO+(↑(List.length ab):Int))) (cond (decide ((16777215:Int)<=aO+(↑(List.length ab):Int))) (.ret ((((0:Int),[],()),(8:Int),()))) (.f7 (List.length ab<=1048576) (.f7 (List.length ab+List.length (List.set [[]] (Int.toNat (↑0:Int)) x1)<=140737488355328/\(List.length ab+List.length (List.set [[]] (Int.toNat (↑0:Int)) x1))*Ty.wb Ty.str<=140737488355328) (.ret (((aO,ab++List.set [[]] (Int.toNat (↑0:Int)) x1,()),(0:Int),()))))))))))):=by kernel_rfl
theorem ZV:Fa.Valid Tryz.prog 42:=by
  refine o7.o5 NQ rfl rfl Tryz.func42 (c:=d8 Tryz.prog 42) rfl rfl NF rfl ?_;rintro ⟨⟨(b:Int),(l:List yY),⟨⟩⟩,(x:yY),⟨⟩⟩ - -
  refine j6 (n:=1000) NQ NF ?_;refine i6 (To b l x) ?_;have key:∀ {y:vg×Int×Unit},P7 (b,l,()) x=y->y=P7 (b,l,()) x:=λ h=>h.symm;have hd:P7 (b,l,()) x=if H6 (b,l,())≠0 then (f00,H6 (b,l,()),()) else if D8 x=true then (f00,2,()) else if (l.length:Int)=16\/16777215<=b+l.length then (f00,8,()) else ((b,l++[x],()),0,()):=rfl
  have hw:Ty.wb .str=16:=rfl;simp only [j7,Tree.holds,hw,sL];refine ⟨λ a=>key (by rw [hd,if_pos a]<;>rfl),λ a=>?_⟩;have aM:=xd (Decidable.not_not.1 a);simp only at aM;rw [if_neg a] at hd;refine ⟨λ c=>key (by rw [hd,if_pos c]<;>rfl),λ c=>?_⟩;rw [if_neg (by rw [c]; simp)] at hd;refine ⟨λ d=>key (by rw [hd,if_pos (.inl d)]<;>rfl),λ d=>⟨by omega,λ _=>⟨λ e=>key (by rw [hd,if_pos (.inr e)]<;>rfl),λ e=>⟨by omega,λ _=>⟨⟨by omega,by omega⟩,λ _=>key ?_⟩⟩⟩⟩⟩;rw [hd,if_neg (by rintro (h|h); exact d h; exact e h)]; rfl
def ahd (b x:Int):Int:=if x - b<0 then 0 else x - b
def Q4 (s:vg) (x:Int):vg×Int×Unit :=
  if H6 s≠0 then (f00,H6 s,()) else if s.1+s.2.1.length<x then (f00,1,()) else ((s.1+ahd s.1 x,s.2.1.drop (ahd s.1 x).toNat,()),0,())
def Hp:o7:={ ps:=[.v P0,.v e8],rs:=[KC,e8],pre:=λ x=>LE.le (α:=Int) 0 x.2.1,fn:=λ x=>Q4 x.1 x.2.1,out:=λ _=>() }
noncomputable def Hg:Env:={ P:=Tryz.prog,tt:=tt,C7:=[(58,An),(32,BZ)],res:=[Go.ResultVar.cell 4 78,Go.ResultVar.tmp 5],rs:=[Ty.pair e8 (Ty.pair (Ty.d0 true Ty.str) Ty.unit),Ty.int IntKind.i64],ps:=[PK.v P0,PK.v e8],B0:=[],nt:=38 }
theorem QH:w7 Hg:=x8 p7 ⟨Ke,Qd,trivial⟩
theorem Qq:C2 Hg Tryz.f86:=⟨rfl,rfl⟩
theorem Xi (aO:Int) (ab:List yY) (x1:Int):exec Hg 1000 [.code (d8 Tryz.prog 86)] (s9 Hp.ps (((aO,ab,()),x1,()))) =
  .f7 (True) (cond (decide (H6 (aO,ab,())≠(0:Int))) (.ret ((((0:Int),[],()),H6 (aO,ab,()),()))) (.f7 (r9 IntKind.i64 (aO+(↑(List.length ab):Int))) (cond (decide (aO+(↑(List.length ab):Int)<x1)) (.ret ((((0:Int),[],()),(1:Int),()))) (.f7 (r9 IntKind.i64 (x1 - aO)) (.f7 (r9 IntKind.i64 (aO+if x1 - aO<(0:Int) then (0:Int) else x1 - aO)) (.f7 (((0:Int)<=if x1 - aO<(0:Int) then (0:Int) else x1 - aO)/\(if x1 - aO<(0:Int) then (0:Int) else x1 - aO)<=(↑(List.length ab):Int)/\(↑(List.length ab):Int)<=(↑(List.length ab):Int)) (.f7 (List.length (n6 (if x1 - aO<(0:Int) then (0:Int) else x1 - aO) (↑(List.length ab):Int) ab)<=1048576) (.ret (((aO+if x1 - aO<(0:Int) then (0:Int) else x1 - aO,n6 (if x1 - aO<(0:Int) then (0:Int) else x1 - aO) (↑(List.length ab):Int) ab,()),(0:Int),())))))))))):=by kernel_rfl
theorem b3L:Hp.Valid Tryz.prog 86:=by
  refine o7.o5 QH rfl rfl Tryz.func86 (c:=d8 Tryz.prog 86) rfl rfl Qq rfl ?_;rintro ⟨⟨(b:Int),(l:List yY),⟨⟩⟩,(x:Int),⟨⟩⟩ (h0:0<=x) -
  refine j6 (n:=1000) QH Qq ?_;refine i6 (Xi b l x) ?_;have key:∀ {y:vg×Int×Unit},Q4 (b,l,()) x=y->y=Q4 (b,l,()) x:=λ h=>h.symm;have hd:Q4 (b,l,()) x=if H6 (b,l,())≠0 then (f00,H6 (b,l,()),()) else if b+l.length<x then (f00,1,()) else ((b+ahd b x,l.drop (ahd b x).toNat,()),0,()):=rfl
  have ha:(if x - b<0 then 0 else x - b)=ahd b x:=rfl;have tf:0<=ahd b x/\(x<=b+l.length->ahd b x<=l.length)/\(ahd b x=0\/ahd b x=x - b):=by rw [ahd]; split<;>omega
  have jz:0<=ahd b x->n6 (ahd b x) (l.length:Int) l=l.drop (ahd b x).toNat:=λ h=>by
    rw [n6,List.take_of_length_le (by rw [List.length_drop]; omega)]
  rw [ha];generalize ahd b x=n at *
  rw [jz tf.1];simp only [j7,Tree.holds,sL];refine ⟨λ a=>key (by rw [hd,if_pos a]<;>rfl),λ a=>?_⟩;have aM:=xd (Decidable.not_not.1 a);simp only at aM;rw [if_neg a] at hd;refine ⟨by omega,λ _=>⟨λ c=>key (by rw [hd,if_pos c]<;>rfl),λ c=>?_⟩⟩;rw [if_neg c] at hd;refine ⟨by omega,λ _=>⟨by omega,λ _=>⟨by omega,λ _=>⟨?_,λ _=>key (by rw [hd]<;>rfl)⟩⟩⟩⟩;rw [List.length_drop]; omega
def wZ (b most:Int) (l:List yY):Nat->List s7
  | 0=>[]
  | i+1=>wZ b most l i++(if (i:Int)<most then [(b+i,l.getD i [],())] else [])
theorem Jz {b most:Int} {l:List yY}:∀ {i:Nat},(wZ b most l i).length<=i
  | 0=>Nat.le_refl _
  | i+1=>by
    have:=Jz (b:=b) (most:=most) (l:=l) (i:=i);rw [wZ,List.length_append]
    split<;>simp<;>omega
def wk (s:vg) (most:Int):List s7×Int×Unit:=if H6 s≠0 then ([],H6 s,()) else (wZ s.1 most s.2.1 s.2.1.length,0,())
def Hq:o7:={ ps:=[.v P0,.v e8],rs:=[.d0 true r7,e8],pre:=λ _=>True,fn:=λ x=>wk x.1 x.2.1,out:=λ _=>() }
noncomputable def CN:Env:={ P:=Tryz.prog,tt:=tt,C7:=[(58,An)],res:=[Go.ResultVar.tmp 4,Go.ResultVar.tmp 5],rs:=[Ty.d0 true r7,Ty.int IntKind.i64],ps:=[PK.v P0,PK.v e8],B0:=[(6,[(1,none),(2,none),(7,some (Ty.d0 true r7)),(16,none),(17,none),(18,none)])],nt:=37 }
theorem IM:w7 CN:=x8 p7 ⟨Ke,trivial⟩
theorem IP:C2 CN Tryz.f54:=⟨rfl,rfl⟩
theorem Xj (aO:Int) (ab:List yY) (x1:Int):exec CN 1000 [.code (d8 Tryz.prog 54)] (s9 Hq.ps (((aO,ab,()),x1,()))) =
  .f7 (True) (cond (decide (H6 (aO,ab,())≠(0:Int))) (.ret (([],H6 (aO,ab,()),()))) (.ctL (f9 (d8 Tryz.prog 54) 6) (St.mk [(1,AV.val e8 x1),(2,AV.ptr 2 []),(7,AV.at_ 1000007 []),(16,AV.val (Ty.d0 false Ty.str) ab),(17,AV.val e8 (↑(List.length ab):Int)),(18,AV.val e8 (0:Int))] [(2,g9.var P0 (aO,ab,())),(1000007,g9.own (Ty.d0 true r7) [])]))):=by kernel_rfl
def QI (v1:Int) (wE:List yY) (uS:Int) (uD:Int) (dR:Int) (cN:List yY) (bp:List (Int×yY×Unit)):St:=St.mk [(1,AV.val e8 v1),(2,AV.ptr 2 []),(7,AV.at_ 1000007 []),(16,AV.val (Ty.d0 false Ty.str) wE),(17,AV.val e8 uS),(18,AV.val e8 uD)] [(2,g9.var P0 (dR,cN,())),(1000007,g9.own (Ty.d0 true r7) bp)]
theorem YB (v1:Int) (wE:List yY) (uS:Int) (uD:Int) (dR:Int) (cN:List yY) (bp:List (Int×yY×Unit)):exec CN 1000 (.code (f9 (d8 Tryz.prog 54) 6).1::.inLoop (f9 (d8 Tryz.prog 54) 6).1::(f9 (d8 Tryz.prog 54) 6).2) (QI v1 wE uS uD dR cN bp) =
  cond (decide (uD<uS)) (.f7 ((0:Int)<=uD/\uD<(↑(List.length wE):Int)) (cond (decide (uD<v1)) (.f7 (r9 IntKind.i64 (dR+uD)) (.f7 (List.length bp+List.length (List.set [((0:Int),[],())] (Int.toNat (↑0:Int)) (dR+uD,List.getD wE (Int.toNat uD) [],()))<=140737488355328/\(List.length bp+List.length (List.set [((0:Int),[],())] (Int.toNat (↑0:Int)) (dR+uD,List.getD wE (Int.toNat uD) [],())))*Ty.wb r7<=140737488355328) (.f7 (r9 IntKind.i64 (uD+(1:Int))) (.ctL (f9 (d8 Tryz.prog 54) 6) (St.mk [(1,AV.val e8 v1),(2,AV.ptr 2 []),(7,AV.at_ 1000007 []),(16,AV.val (Ty.d0 false Ty.str) wE),(17,AV.val e8 uS),(18,AV.val e8 (uD+(1:Int)))] [(2,g9.var P0 (dR,cN,())),(1000007,g9.own (Ty.d0 true r7) (bp++List.set [((0:Int),[],())] (Int.toNat (↑0:Int)) (dR+uD,List.getD wE (Int.toNat uD) [],())))]))))) (.f7 (r9 IntKind.i64 (uD+(1:Int))) (.ctL (f9 (d8 Tryz.prog 54) 6) (St.mk [(1,AV.val e8 v1),(2,AV.ptr 2 []),(7,AV.at_ 1000007 []),(16,AV.val (Ty.d0 false Ty.str) wE),(17,AV.val e8 uS),(18,AV.val e8 (uD+(1:Int)))] [(2,g9.var P0 (dR,cN,())),(1000007,g9.own (Ty.d0 true r7) bp)]))))) (.ret ((bp,(0:Int),()))):=by kernel_rfl
theorem b3K:Hq.Valid Tryz.prog 54:=by
  refine o7.o5 IM rfl rfl Tryz.func54 (c:=d8 Tryz.prog 54) rfl rfl IP rfl ?_;rintro ⟨⟨(b:Int),(l:List yY),⟨⟩⟩,(m:Int),⟨⟩⟩ - -
  refine j6 (n:=1000) IM IP ?_;refine i6 (Xj b l m) ?_;have key:∀ {y:List s7×Int×Unit},wk (b,l,()) m=y->y=wk (b,l,()) m:=λ h=>h.symm;have hd:wk (b,l,()) m=if H6 (b,l,())≠0 then ([],H6 (b,l,()),()) else (wZ b m l l.length,0,()):=rfl
  have hw:Ty.wb r7=24:=rfl;simp only [j7,Tree.holds,sL];refine ⟨λ a=>key (by rw [hd,if_pos a]<;>rfl),λ a=>?_⟩;have aM:=xd (Decidable.not_not.1 a);simp only at aM;rw [if_neg a] at hd;refine Reach.M9 IM IP (λ i:Nat=>QI m l (l.length:Int) (i:Int) b l (wZ b m l i)) (λ i=>i<=l.length) (λ i=>l.length - i) 1000 (λ _=>⟨u7 rfl,u7 rfl⟩) ?_ 0 (by omega);rintro i k1 - ih;have k1:i<=l.length:=k1;refine i6 (YB ..) ?_;have nC:=Jz (b:=b) (most:=m) (l:=l) (i:=i);simp only [j7,Tree.holds,hw,sL];refine ⟨λ c=>⟨by omega,λ _=>?_⟩,λ c=>key (by rw [hd,show i=l.length by omega]<;>rfl)⟩;have next:=ih (i+1) (by show i+1<=l.length; omega) (by omega)
  rw [wZ] at next
  refine ⟨λ d=>⟨by omega,λ _=>⟨⟨by omega,by omega⟩,λ _=>⟨by omega,λ _=>?_⟩⟩⟩,λ d=>⟨by omega,λ _=>?_⟩⟩
  . rw [if_pos d] at next; exact next
  . rw [if_neg d,List.append_nil] at next; exact next
def Z2:s7:=(0,[],())
def t00:ToD:=(0,[],())
def yN (r:Int) (l:List s7):Nat->Int
  | 0=>r
  | i+1=>(l.getD i Z2).1
def wX (r:Int) (l:List s7) (i:Nat):Int:=if (l.getD i Z2).1<=yN r l i then 4 else if r+16<=(l.getD i Z2).1 then 4 else if D8 (l.getD i Z2).2.1=true then 4 else 0
def toE (s:ToD):Int:=if inF s.1 0 16777215=false then 1 else if (16:Int)<s.2.1.length then 2 else Q9 (wX s.1 s.2.1) s.2.1.length
def EH:o7:={ ps:=[.v ToT],rs:=[e8],pre:=λ _=>True,fn:=λ x=>(toE x.1,()),out:=λ _=>() }
noncomputable def BP:Env:={ P:=Tryz.prog,tt:=tt,C7:=[(75,zS),(59,zg)],res:=[Go.ResultVar.tmp 2],rs:=[Ty.int IntKind.i64],ps:=[PK.v ToT],B0:=[(7,[(1,none),(3,none),(19,none),(20,none),(21,none)])],nt:=45 }
theorem Hi:w7 BP:=x8 p7 ⟨IV,Eg,trivial⟩
theorem Hm:C2 BP Tryz.f96:=⟨rfl,rfl⟩
theorem Sr (aO:Int) (ab:List (Int×yY×Unit)):exec BP 1000 [.code (d8 Tryz.prog 96)] (s9 EH.ps (((aO,ab,()),()))) =
  .f7 (True) (cond (!inF aO (0:Int) (16777215:Int)) (.ret (((1:Int),()))) (cond (decide ((16:Int)<(↑(List.length ab):Int))) (.ret (((2:Int),()))) (.ctL (f9 (d8 Tryz.prog 96) 7) (St.mk [(1,AV.ptr 1 []),(3,AV.val e8 aO),(19,AV.val K6 ab),(20,AV.val e8 (↑(List.length ab):Int)),(21,AV.val e8 (0:Int))] [(1,g9.var ToT (aO,ab,()))])))):=by kernel_rfl
def Ms (v3:Int) (uB:List (Int×yY×Unit)) (v20:Int) (v21:Int) (eE:Int) (cY:List (Int×yY×Unit)):St:=St.mk [(1,AV.ptr 1 []),(3,AV.val e8 v3),(19,AV.val K6 uB),(20,AV.val e8 v20),(21,AV.val e8 v21)] [(1,g9.var ToT (eE,cY,()))]
theorem Tv (v3:Int) (uB:List (Int×yY×Unit)) (v20:Int) (v21:Int) (eE:Int) (cY:List (Int×yY×Unit)):exec BP 1000 (.code (f9 (d8 Tryz.prog 96) 7).1::.inLoop (f9 (d8 Tryz.prog 96) 7).1::(f9 (d8 Tryz.prog 96) 7).2) (Ms v3 uB v20 v21 eE cY) =
  cond (decide (v21<v20)) (.f7 ((0:Int)<=v21/\v21<(↑(List.length uB):Int)) (cond (decide (Prod.fst (List.getD uB (Int.toNat v21) ((0:Int),[],()))<=v3)) (.ret (((4:Int),()))) (.f7 (r9 IntKind.i64 (eE+(16:Int))) (cond (decide (eE+(16:Int)<=Prod.fst (List.getD uB (Int.toNat v21) ((0:Int),[],())))) (.ret (((4:Int),()))) (.f7 (True) (cond (D8 (Prod.fst (Prod.snd (List.getD uB (Int.toNat v21) ((0:Int),[],()))))) (.ret (((4:Int),()))) (.f7 (r9 IntKind.i64 (v21+(1:Int))) (.ctL (f9 (d8 Tryz.prog 96) 7) (St.mk [(1,AV.ptr 1 []),(3,AV.val e8 (Prod.fst (List.getD uB (Int.toNat v21) ((0:Int),[],())))),(19,AV.val K6 uB),(20,AV.val e8 v20),(21,AV.val e8 (v21+(1:Int)))] [(1,g9.var ToT (eE,cY,()))]))))))))) (.ret (((0:Int),()))):=by kernel_rfl
theorem Zg:EH.Valid Tryz.prog 96:=by
  refine o7.o5 Hi rfl rfl Tryz.func96 (c:=d8 Tryz.prog 96) rfl rfl Hm rfl ?_;rintro ⟨⟨(r:Int),(l:List s7),⟨⟩⟩,⟨⟩⟩ - -
  refine j6 (n:=1000) Hi Hm ?_;refine i6 (Sr r l) ?_;have key:∀ {x:Int},toE (r,l,())=x->((x,()):Int×Unit)=(toE (r,l,()),()):=by rintro x rfl; rfl
  have hd:toE (r,l,())=if inF r 0 16777215=false then 1 else if (16:Int)<l.length then 2 else Q9 (wX r l) l.length:=rfl
  simp only [j7,Tree.holds,sL];refine ⟨λ a=>key (by rw [hd,if_pos a]),λ a=>?_⟩;have hr:=wU.1 a;rw [if_neg (lnf a)] at hd;refine ⟨λ a=>key (by rw [hd,if_pos a]),λ a=>?_⟩;rw [if_neg a] at hd;refine Reach.M9 Hi Hm (λ i:Nat=>Ms (yN r l i) l (l.length:Int) (i:Int) r l) (λ i=>i<=l.length/\Q9 (wX r l) i=0) (λ i=>l.length - i) 1000 (λ _=>⟨u7 rfl,u7 rfl⟩) ?_ 0 ⟨by omega,rfl⟩;rintro i ⟨k1,k2⟩ - ih;have k1:i<=l.length:=k1;refine i6 (Tv ..) ?_;simp only [j7,Tree.holds,sL];have hE:wX r l i=if (l.getD i (0,[],())).1<=yN r l i then 4 else if r+16<=(l.getD i (0,[],())).1 then 4 else if D8 (l.getD i (0,[],())).2.1=true then 4 else 0:=rfl
  have hB:yN r l (i+1)=(l.getD i (0,[],())).1:=rfl;have stop:wX r l i=4->i<l.length->toE (r,l,())=4:=λ h9 hi=>by rw [hd,QZ k2 (by rw [h9]; decide) hi,h9]
  have next:=λ(h:wX r l i=0) (hi:i<l.length)=>ih (i+1) ⟨by omega,QY k2 h⟩ (by omega)
  rw [hB] at next
  generalize l.getD i (0,[],())=w at *
  obtain ⟨q,x,u⟩:=w;simp only at hE next ⊢
  refine ⟨λ c=>⟨by omega,λ _=>⟨λ c1=>key (stop (by rw [hE,if_pos c1]) (by omega)),λ c1=>⟨by omega,λ _=>⟨λ c2=>key (stop (by rw [hE,if_neg c1,if_pos c2]) (by omega)),λ c2=>⟨λ c3=>key (stop (by rw [hE,if_neg c1,if_neg c2,if_pos c3]) (by omega)),λ c3=>⟨by omega,λ _=>next (by rw [hE,if_neg c1,if_neg c2,if_neg (by rw [c3]; simp)]) (by omega)⟩⟩⟩⟩⟩⟩,λ c=>key (by rw [hd,show l.length=i by omega,k2])⟩
def EB (p:s7) (n:Int):Int:=p.1 - n
def EZ:o7:={ ps:=[.v r7,.v e8],rs:=[e8],pre:=λ x=>(LE.le (α:=Int) (-100000000) x.1.1/\LE.le (α:=Int) x.1.1 100000000)/\(LE.le (α:=Int) (-100000000) x.2.1/\LE.le (α:=Int) x.2.1 100000000),fn:=λ x=>(EB x.1 x.2.1,()),out:=λ _=>() }
noncomputable def Fe:Env:={ P:=Tryz.prog,tt:=tt,C7:=[],res:=[Go.ResultVar.tmp 4],rs:=[Ty.int IntKind.i64],ps:=[PK.v r7,PK.v e8],B0:=[],nt:=9 }
theorem NP:w7 Fe:=x8 p7 trivial
theorem ND:C2 Fe Tryz.f99:=⟨rfl,rfl⟩
theorem Tn (aO:Int) (ab:yY) (x1:Int):exec Fe 1000 [.code (d8 Tryz.prog 99)] (s9 EZ.ps (((aO,ab,()),x1,()))) =
  .f7 (r9 IntKind.i64 (aO - x1)) (.ret ((aO - x1,()))):=by kernel_rfl
theorem ZT:EZ.Valid Tryz.prog 99:=by
  refine o7.o5 NP rfl rfl Tryz.func99 (c:=d8 Tryz.prog 99) rfl rfl ND rfl ?_;rintro ⟨⟨(q:Int),(s:yY),⟨⟩⟩,(n:Int),⟨⟩⟩ ⟨⟨(h1:-100000000<=q),(h2:q<=100000000)⟩,(h3:-100000000<=n),(h4:n<=100000000)⟩ -
  refine j6 (n:=1000) NP ND ?_;refine i6 (Tn q s n) ?_;simp only [j7,Tree.holds,sL];exact ⟨by omega,λ _=>rfl⟩
def atF (n:Int) (l:List s7):Nat:=(l.takeWhile λ p=>decide (p.1<n)).length
theorem Lm {n:Int}:∀ {l:List s7} {i:Nat},i<=l.length->(∀ k,k<i->(l.getD k Z2).1<n)->(i<l.length->n<=(l.getD i Z2).1)->atF n l=i
  | [],i,hi,_,_=>by simp at hi; subst hi; rfl
  | p::l,0,_,_,h=>by
    have:=h (by simp);rw [atF,List.takeWhile_cons,if_neg]
    . rfl
    . rw [decide_eq_true_eq]; show ¬ p.1<n; exact Int.not_lt.2 this
  | p::l,i+1,hi,h1,h2=>by
    have h0:p.1<n:=h1 0 (by omega);have:=Lm (l:=l) (i:=i) (by simpa using hi) (λ k hk=>h1 (k+1) (by omega)) (λ hk=>h2 (by simpa using hk));rw [atF,List.takeWhile_cons,if_pos (decide_eq_true h0),List.length_cons];rw [atF] at this; omega
def sorted (l:List s7):Prop:=(∀ i j,i<j->j<l.length->(l.getD i Z2).1<(l.getD j Z2).1)/\(∀ i,i<l.length->-100000000<=(l.getD i Z2).1/\(l.getD i Z2).1<=100000000)
def Y0 (n:Int) (l:List s7):Bool:=decide (atF n l<l.length) && decide ((l.getD (atF n l) Z2).1 - n=0)
def Ep:o7:={ ps:=[.v (.d0 false r7),.v e8,.C0 99 []],rs:=[e8,.bool],pre:=λ x=>(List.length (α:=s7) x.1<=1000/\sorted x.1)/\(LE.le (α:=Int) (-100000000) x.2.1/\LE.le (α:=Int) x.2.1 100000000),fn:=λ x=>((atF x.2.1 x.1:Int),Y0 x.2.1 x.1,()),out:=λ _=>() }
noncomputable def BL:Env:={ P:=Tryz.prog,tt:=tt,C7:=[(99,EZ)],res:=[Go.ResultVar.tmp 6,Go.ResultVar.tmp 7],rs:=[Ty.int IntKind.i64,Ty.bool],ps:=[PK.v K6,PK.v e8,PK.C0 99 []],B0:=[(3,[(0,none),(1,none),(2,none),(8,none),(9,none),(10,none)])],nt:=49 }
theorem GL:w7 BL:=x8 p7 ⟨ZT,trivial⟩
theorem Hl:C2 BL Tryz.f98:=⟨rfl,rfl⟩
theorem SW (x0:List (Int×yY×Unit)) (x1:Int):exec BL 1000 [.code (d8 Tryz.prog 98)] (s9 Ep.ps ((x0,x1,(),()))) =
  .ctL (f9 (d8 Tryz.prog 98) 3) (St.mk [(0,AV.val K6 x0),(1,AV.val e8 x1),(2,AV.C0 99 AV.nil),(8,AV.val e8 (↑(List.length x0):Int)),(9,AV.val e8 (0:Int)),(10,AV.val e8 (↑(List.length x0):Int))] []):=by kernel_rfl
def Mj (v0:List (Int×yY×Unit)) (v1:Int) (v8:Int) (v9:Int) (v10:Int):St:=St.mk [(0,AV.val K6 v0),(1,AV.val e8 v1),(2,AV.C0 99 AV.nil),(8,AV.val e8 v8),(9,AV.val e8 v9),(10,AV.val e8 v10)] []
theorem TW (v0:List (Int×yY×Unit)) (v1:Int) (v8:Int) (v9:Int) (v10:Int):exec BL 1000 (.code (f9 (d8 Tryz.prog 98) 3).1::.inLoop (f9 (d8 Tryz.prog 98) 3).1::(f9 (d8 Tryz.prog 98) 3).2) (Mj v0 v1 v8 v9 v10) =
  cond (decide (v9<v10)) (.f7 (r9 IntKind.i64 (v9+v10)) (.f7 ((0:Int)<=(1:Int)) (.f7 ((0:Int)<=IntKind.wrap IntKind.i64 (IntKind.wrap IntKind.u64 (v9+v10) / (2:Int)^min (Int.toNat (1:Int)) (IntKind.bits IntKind.u64))/\IntKind.wrap IntKind.i64 (IntKind.wrap IntKind.u64 (v9+v10) / (2:Int)^min (Int.toNat (1:Int)) (IntKind.bits IntKind.u64))<(↑(List.length v0):Int)) (.f7 (((-100000000:Int)<=Prod.fst (List.getD v0 (Int.toNat (IntKind.wrap IntKind.i64 (IntKind.wrap IntKind.u64 (v9+v10) / (2:Int)^min (Int.toNat (1:Int)) (IntKind.bits IntKind.u64)))) ((0:Int),[],()))/\Prod.fst (List.getD v0 (Int.toNat (IntKind.wrap IntKind.i64 (IntKind.wrap IntKind.u64 (v9+v10) / (2:Int)^min (Int.toNat (1:Int)) (IntKind.bits IntKind.u64)))) ((0:Int),[],()))<=(100000000:Int))/\(-100000000:Int)<=v1/\v1<=(100000000:Int)) (cond (decide (EB (List.getD v0 (Int.toNat (IntKind.wrap IntKind.i64 (IntKind.wrap IntKind.u64 (v9+v10) / (2:Int)^min (Int.toNat (1:Int)) (IntKind.bits IntKind.u64)))) ((0:Int),[],())) v1<(0:Int))) (.f7 (r9 IntKind.i64 (IntKind.wrap IntKind.i64 (IntKind.wrap IntKind.u64 (v9+v10) / (2:Int)^min (Int.toNat (1:Int)) (IntKind.bits IntKind.u64))+(1:Int))) (.ctL (f9 (d8 Tryz.prog 98) 3) (St.mk [(0,AV.val K6 v0),(1,AV.val e8 v1),(2,AV.C0 99 AV.nil),(8,AV.val e8 v8),(9,AV.val e8 (IntKind.wrap IntKind.i64 (IntKind.wrap IntKind.u64 (v9+v10) / (2:Int)^min (Int.toNat (1:Int)) (IntKind.bits IntKind.u64))+(1:Int))),(10,AV.val e8 v10)] []))) (.ctL (f9 (d8 Tryz.prog 98) 3) (St.mk [(0,AV.val K6 v0),(1,AV.val e8 v1),(2,AV.C0 99 AV.nil),(8,AV.val e8 v8),(9,AV.val e8 v9),(10,AV.val e8 (IntKind.wrap IntKind.i64 (IntKind.wrap IntKind.u64 (v9+v10) / (2:Int)^min (Int.toNat (1:Int)) (IntKind.bits IntKind.u64))))] []))))))) (cond (decide (v9<v8)) (.f7 ((0:Int)<=v9/\v9<(↑(List.length v0):Int)) (.f7 (((-100000000:Int)<=Prod.fst (List.getD v0 (Int.toNat v9) ((0:Int),[],()))/\Prod.fst (List.getD v0 (Int.toNat v9) ((0:Int),[],()))<=(100000000:Int))/\(-100000000:Int)<=v1/\v1<=(100000000:Int)) (.ret ((v9,decide (EB (List.getD v0 (Int.toNat v9) ((0:Int),[],())) v1=(0:Int)),()))))) (.ret ((v9,false,())))):=by kernel_rfl
theorem Yw:Ep.Valid Tryz.prog 98:=by
  refine o7.o5 GL rfl rfl Tryz.func98 (c:=d8 Tryz.prog 98) rfl rfl Hl rfl ?_;rintro ⟨(l:List s7),(n:Int),⟨⟩,⟨⟩⟩ ⟨⟨(h0:l.length<=1000),(hs:sorted l)⟩,(h1:-100000000<=n),(h2:n<=100000000)⟩ -
  refine j6 (n:=1000) GL Hl ?_;refine i6 (SW l n) ?_;refine Reach.M9 GL Hl (λ s:Nat×Nat=>Mj l n (l.length:Int) (s.1:Int) (s.2:Int)) (λ s=>s.1<=s.2/\s.2<=l.length/\(∀ k,k<s.1->(l.getD k Z2).1<n)/\(∀ k,s.2<=k->k<l.length->n<=(l.getD k Z2).1)) (λ s=>s.2 - s.1) 1000 (λ _=>⟨u7 rfl,u7 rfl⟩) ?_ (0,l.length) ⟨Nat.zero_le _,Nat.le_refl _,λ k hk=>by omega,λ k hk fb=>by omega⟩;rintro ⟨i,j⟩ ⟨k1,k2,k3,k4⟩ - ih;have k1:i<=j:=k1;have k2:j<=l.length:=k2;have k3:∀ k,k<i->(l.getD k Z2).1<n:=k3;have k4:∀ k,j<=k->k<l.length->n<=(l.getD k Z2).1:=k4;refine i6 (TW ..) ?_;have hh:IntKind.wrap .i64 (IntKind.wrap .u64 ((i:Int)+(j:Int)) / 2^min (Int.toNat 1) (IntKind.bits .u64))=(((i+j) / 2:Nat):Int):=by
    rw [R5 (k:=.u64) (by show (0:Int)<=_/\_<=(18446744073709551615:Int); omega)];rw [show (2:Int)^min (Int.toNat 1) (IntKind.bits .u64)=2 from rfl];rw [R5 (k:=.i64) (by show (-9223372036854775808:Int)<=_/\_<=(9223372036854775807:Int); omega)];omega
  rw [show ((i,j):Nat×Nat).1=i from rfl,show ((i,j):Nat×Nat).2=j from rfl,hh];simp only [j7,Tree.holds,sL];refine ⟨λ c=>⟨by omega,λ _=>⟨by omega,λ _=>?_⟩⟩,λ c=>?_⟩
  . have hm:(i+j) / 2<l.length:=by omega
    have lq:=hs.2 _ hm;have e0:l.getD ((i+j) / 2) (0,[],())=l.getD ((i+j) / 2) Z2:=rfl;rw [e0];refine ⟨⟨by omega,by omega⟩,λ _=>⟨⟨lq,h1,h2⟩,λ _=>⟨λ d=>⟨by omega,λ _=>?_⟩,λ d=>?_⟩⟩⟩
    . have d:(l.getD ((i+j) / 2) Z2).1 - n<0:=d;exact ih ((i+j) / 2+1,j) ⟨by show (i+j) / 2+1<=j; omega,k2,λ k hk=>(by
        have hk:k<(i+j) / 2+1:=hk;by_cases e:k=(i+j) / 2
        . subst e; omega
        . have:=hs.1 k ((i+j) / 2) (by omega) hm; omega),k4⟩ (by show j - ((i+j) / 2+1)<j - i; omega)
    . have d:¬ (l.getD ((i+j) / 2) Z2).1 - n<0:=d;exact ih (i,(i+j) / 2) ⟨by show i<=(i+j) / 2; omega,by show (i+j) / 2<=l.length; omega,k3,λ k hk fb=>(by
        have hk:(i+j) / 2<=k:=hk;by_cases e:k=(i+j) / 2
        . subst e; omega
        . have:=hs.1 ((i+j) / 2) k (by omega) fb; omega)⟩ (by show (i+j) / 2 - i<j - i; omega)
  . have e:j=i:=by omega
    subst e;have jA:atF n l=j:=Lm k2 k3 (λ h=>k4 j (Nat.le_refl _) h);have key:∀ {x:Bool},Y0 n l=x->(((j:Int),x,()):Int×Bool×Unit)=((atF n l:Int),Y0 n l,()):=by rintro x rfl; rw [jA]
    have hk:Y0 n l=(decide (j<l.length) && decide ((l.getD j Z2).1 - n=0)):=by rw [Y0,jA]
    refine ⟨λ d=>⟨by omega,λ _=>⟨⟨hs.2 j (by omega),h1,h2⟩,λ _=>key ?_⟩⟩,λ d=>key ?_⟩
    . rw [hk,decide_eq_true (show j<l.length by omega),Bool.true_and]; rfl
    . rw [hk,decide_eq_false (show ¬ j<l.length by omega)]; rfl
theorem On {a b:s7}:Z3 r7 a b=true↔a=b:=by
  obtain ⟨a1,a2,a3⟩:=a;obtain ⟨b1,b2,b3⟩:=b;show (decide (a1=b1) && (decide ((a2:yY)=b2) && decide ((a3:Unit)=b3)))=true↔_;rw [Bool.and_eq_true,Bool.and_eq_true,decide_eq_true_eq,decide_eq_true_eq];constructor
  . rintro ⟨rfl,rfl,_⟩; rfl
  . intro h; cases h; exact ⟨rfl,rfl,by simp⟩
theorem WY {a b:s7} (d:Z3 r7 a b=false):¬ a=b:=λ h=>by rw [On.2 h] at d; cases d
end Go.Proofs.YtijlnmgondibnaaGreatDoor
namespace Go.Proofs.YtijlnmgondibnaaGreatDoor
open Go.Ex
def D6:List s7->Int->Int×List s7×List yY
  | [],n=>(n,[],[])
  | p::l,n=>if p.1=n then ((D6 l (n+1)).1,(D6 l (n+1)).2.1,p.2.1::(D6 l (n+1)).2.2) else (n,p::l,[])
def xo (b:Int):List s7->Prop
  | []=>True
  | p::l=>b<p.1/\xo p.1 l
theorem Il {b:Int}:∀ {l:List s7} {p:s7},xo b l->p∈l->b<p.1
  | q::l,p,⟨h1,h2⟩,hp=>by
    rcases List.mem_cons.1 hp with rfl|hp
    . exact h1
    . have:=Il h2 hp; omega
theorem MV:∀ {l:List s7} {n:Int},xo (n - 1) l->xo (D6 l n).1 (D6 l n).2.1/\(D6 l n).1=n+(D6 l n).2.2.length/\(D6 l n).2.1.length+(D6 l n).2.2.length=l.length/\(∀ p∈(D6 l n).2.1,p∈l)
  | [],n,_=>⟨trivial,by simp [D6],by simp [D6],by simp [D6]⟩
  | p::l,n,⟨h1,h2⟩=>by
    rw [D6];by_cases e:p.1=n
    . rw [if_pos e];obtain ⟨a1,a2,a3,a4⟩:=MV (l:=l) (n:=n+1) (by rw [show n+1 - 1=p.1 by omega]; exact h2);refine ⟨a1,?_,?_,λ q hq=>List.mem_cons_of_mem _ (a4 q hq)⟩
      . show (D6 l (n+1)).1=n+((p.2.1::(D6 l (n+1)).2.2).length:Int);rw [List.length_cons]; omega
      . show (D6 l (n+1)).2.1.length+(p.2.1::(D6 l (n+1)).2.2).length=(p::l).length;rw [List.length_cons,List.length_cons]; omega
    . rw [if_neg e];exact ⟨⟨by show n<p.1; omega,h2⟩,by simp,by simp,λ q hq=>hq⟩
theorem Oc {c:Int}:∀ {l:List s7} {b:Int},xo b l->(∀ p∈l,p.1<c)->l≠[]->(l.length:Int)+b<c
  | [p],b,⟨h1,_⟩,h,_=>by have:=h p List.mem_cons_self; show ((1:Nat):Int)+b<c; omega
  | p::x::l,b,⟨h1,h2⟩,h,_=>by
    have:=Oc (l:=x::l) h2 (λ y hy=>h y (List.mem_cons_of_mem _ hy)) (by simp);rw [List.length_cons]; omega
def wt (p:s7) (l:List s7):List s7:=l.take (atF p.1 l)++p::l.drop (atF p.1 l)
theorem Wv {p y:s7} {l:List s7}:y∈wt p l↔y=p\/y∈l:=by
  have h:y∈l↔y∈l.take (atF p.1 l)\/y∈l.drop (atF p.1 l):=by rw [<- List.mem_append,List.take_append_drop]
  rw [wt,List.mem_append,List.mem_cons,h];constructor
  . rintro (a|a|a)
    . exact .inr (.inl a)
    . exact .inl a
    . exact .inr (.inr a)
  . rintro (a|a|a)
    . exact .inr (.inl a)
    . exact .inl a
    . exact .inr (.inr a)
theorem Wu {p:s7} {l:List s7}:(wt p l).length=l.length+1:=by
  rw [wt,List.length_append,List.length_cons,List.length_take,List.length_drop]; omega
theorem AZ:∀ {l:List s7} {b:Int},xo b l↔∀ i,i<l.length->yN b l i<(l.getD i Z2).1
  | [],b=>⟨λ _ i hi=>absurd hi (Nat.not_lt_zero _),λ _=>trivial⟩
  | p::l,b=>by
    constructor
    . rintro ⟨h1,h2⟩ i hi
      match i,hi with
      | 0,_=>exact h1
      | 1,hi=>exact (AZ.1 h2) 0 (by simpa using hi)
      | i+2,hi=>exact (AZ.1 h2) (i+1) (by rw [List.length_cons] at hi; omega)
    . intro h;refine ⟨h 0 (by simp),AZ.2 λ i hi=>?_⟩
      match i,hi with
      | 0,hi=>exact h 1 (by simpa using hi)
      | i+1,hi=>exact h (i+2) (by rw [List.length_cons]; omega)
structure zM (r:Int) (l:List s7):Prop where
  rg:0<=r/\r<=16777215
  len:l.length<=16
  up:xo r l
  b:∀ p∈l,p.1<r+16/\D8 p.2.1=false
theorem Hv {r:Int} {l:List s7} {u:Unit}:toE (r,l,u)=0↔zM r l:=by
  have hd:toE (r,l,u)=if inF r 0 16777215=false then 1 else if (16:Int)<l.length then 2 else Q9 (wX r l) l.length:=rfl
  rw [hd];constructor
  . intro h;split at h
    . cases h
    rename_i c1;split at h
    . cases h
    rename_i c2;have h:=DX.1 h;have hE:∀ i,i<l.length->yN r l i<(l.getD i Z2).1/\(l.getD i Z2).1<r+16/\D8 (l.getD i Z2).2.1=false:=λ i hi=>by
      have:=h i hi;unfold wX at this;split at this
      . cases this
      split at this
      . cases this
      split at this
      . cases this
      rename_i d1 d2 d3;exact ⟨by omega,by omega,by simpa using d3⟩
    refine ⟨wU.1 (Bool.not_eq_false _▸c1),by omega,AZ.2 λ i hi=>(hE i hi).1,λ p hp=>?_⟩;obtain ⟨i,hi,rfl⟩:=List.getElem_of_mem hp;have:=hE i hi;rw [List.getD_eq_getElem?_getD,List.getElem?_eq_getElem hi] at this;exact this.2
  . intro h;rw [if_neg (by rw [wU.2 h.rg]; simp),if_neg (by have:=h.len; omega)];refine DX.2 λ i hi=>?_;have h1:=AZ.1 h.up i hi;obtain ⟨h2,h3⟩:=h.b (l.getD i Z2) (Dq hi);rw [wX,if_neg (by omega),if_neg (by omega),if_neg (by rw [h3]; simp)]
theorem b6Q {l:List s7}:∀ {b:Int},xo b l->∀ i j,i<j->j<l.length->(l.getD i Z2).1<(l.getD j Z2).1:=by
  induction l with
  | nil=>intro b _ i j _ h; exact absurd h (Nat.not_lt_zero _)
  | cons p l ih =>
    rintro b ⟨h1,h2⟩ i j bS hj
    match i,j,bS,hj with
    | 0,j+1,_,hj=>exact Il h2 (Dq (by simpa using hj))
    | i+1,j+1,bS,hj=>exact ih h2 i j (by omega) (by simpa using hj)
end Go.Proofs.YtijlnmgondibnaaGreatDoor
namespace Go.Proofs.YtijlnmgondibnaaGreatDoor
open Go.Ex
def D0 (s:ToD) (p:s7):ToD×List yY×Int×Unit :=
  if toE s≠0 then (t00,[],toE s,()) else if inF p.1 0 16777214=false then (t00,[],1,()) else if D8 p.2.1=true then (t00,[],2,()) else
  if p.1<s.1\/s.1+16<=p.1\/Y0 p.1 s.2.1=true then (s,[],0,()) else if s.1<p.1 then ((s.1,wt p s.2.1,()),[],0,()) else
  (((D6 s.2.1 (s.1+1)).1,(D6 s.2.1 (s.1+1)).2.1,()),p.2.1::(D6 s.2.1 (s.1+1)).2.2,0,())
theorem WA {r:Int} {l:List s7} {p:s7} (h:zM r l) (h1:0<=p.1/\p.1<=16777214) (h2:D8 p.2.1=false):D0 (r,l,()) p =
    if p.1<r\/r+16<=p.1\/Y0 p.1 l=true then ((r,l,()),[],0,()) else if r<p.1 then ((r,wt p l,()),[],0,()) else
    (((D6 l (r+1)).1,(D6 l (r+1)).2.1,()),p.2.1::(D6 l (r+1)).2.2,0,()):=by
  rw [D0,if_neg (by simp [Hv.2 h]),if_neg (by rw [wU.2 h1]; simp),if_neg (by rw [h2]; simp)]
theorem XX {s:ToD} {p:s7} (h:(D0 s p).2.2.1≠0):(D0 s p).2.1=[]:=by
  by_cases c1:toE s≠0
  . rw [D0,if_pos c1]
  by_cases c2:inF p.1 0 16777214=false
  . rw [D0,if_neg c1,if_pos c2]
  by_cases c3:D8 p.2.1=true
  . rw [D0,if_neg c1,if_neg c2,if_pos c3]
  by_cases c4:p.1<s.1\/s.1+16<=p.1\/Y0 p.1 s.2.1=true
  . rw [D0,if_neg c1,if_neg c2,if_neg c3,if_pos c4]
  by_cases c5:s.1<p.1
  . rw [D0,if_neg c1,if_neg c2,if_neg c3,if_neg c4,if_pos c5]
  . rw [D0,if_neg c1,if_neg c2,if_neg c3,if_neg c4,if_neg c5] at h; exact absurd rfl h
end Go.Proofs.YtijlnmgondibnaaGreatDoor
set_option linter.unusedVariables false
set_option linter.unusedSimpArgs false
namespace Go.Proofs.YtijlnmgondibnaaGreatDoor
open Go Go.Shelf Go.RowKit Go.Lib
theorem b39 {P:Program} (w:World) {o:Oper} {a:Act} {K:Act->World->Prop} {Q:Exit->Act->World->Prop} (d s:Operand) (t t':TypeId)
    (ho:o.op=.call { callee:=.builtin .copy,args:=#[d,s],argTypes:=#[t,t'] }) (v u:Value) (hd:a.eval d=v) (hs:a.eval s=u) {v':Value} {w':World}
    (hr:(Builtin.copy_ #[t,t'] o.type #[v,u]).run P w=.ok v' w') (h:K (a.put o.dst v') w'):o.wp P a w K Q:=by
  unfold Oper.wp execOp;simp only [ho,resolve,invoke,builtin,Sem.run_bind,Sem.run_pure,Result.andThen_ok,List.map_toArray,List.map_cons,List.map_nil,hd,hs,hr];exact h
theorem Sg {P:Program} (w:World) {ops:Array Oper} {rest:List Oper} {o:Oper} {a:Act} {Q:Exit->Act->World->Prop} (px:o.guard=none) (d s:Operand) (t t':TypeId)
    (ho:o.op=.call { callee:=.builtin .copy,args:=#[d,s],argTypes:=#[t,t'] }) (v u:Value) (hd:a.eval d=v) (hs:a.eval s=u) {v':Value} {w':World}
    (hr:(Builtin.copy_ #[t,t'] o.type #[v,u]).run P w=.ok v' w') (h:wpList P ops Q rest (a.put o.dst v') w'):wpList P ops Q (o::rest) a w :=
  wpList_plain px λ _ hK=>b39 w d s t t' ho v u hd hs hr (hK _ _ h)
theorem Sf {P:Program} {ops:Array Oper} {o:Oper} {a:Act} {w:World} {K:Act->World->Prop} {Q:Exit->Act->World->Prop} {E:Prop}
    (hg:o.guard=none) (d x:Operand) (dT sT:TypeId) (cy:o.op=Op.call { callee:=Callee.builtin Builtin.copy,args:=#[d,x],argTypes:=#[dT,sT] })
    (v u:Value) (hd:a.eval d=v) (hx:a.eval x=u) {v':Value} {w':World} (hr:(Builtin.copy_ #[dT,sT] o.type #[v,u]).run P w=.ok v' w') (hK:K (a.put o.dst v') w') :
    if Region.wanted o (yielded ops a.tmps)=true then Oper.wp P o a w K Q else E:=by
  have hw:Region.wanted o (yielded ops a.tmps)=true:=by simp [Region.wanted,hg]
  rw [if_pos hw];unfold Oper.wp;simp [execOp,cy,resolve,invoke,builtin,hd,hx,hr,Result.andThen];exact hK
theorem Eh (b:Nat) (vs:List Value) (o:Nat) (w:World) (h:∀ j,j<vs.length->(w.cell? ⟨b,o+j,none⟩).isSome=true) (k:Nat) (hk:(w.cell? ⟨b,k,none⟩).isSome=true):((w.setCells b o vs).cell? ⟨b,k,none⟩).isSome=true:=by
  by_cases dv:o<=k/\k<o+vs.length
  . have:=World.cell?_setCells_in b vs o w h (k - o) (by omega);rw [show o+(k - o)=k by omega] at this;rw [this]; rfl
  . rw [World.cell?_setCells_out b vs o w ⟨b,k,none⟩ (λ _ _=>by show k<o\/o+vs.length<=k; omega)];exact hk
theorem DT {P:Program} (w:World) (dT sT ty elem:TypeId) (k b o dLen dCap:Nat) (a:Addr) (sLen sCap:Nat) (cs:List Value)
    (hu:P.underlying dT=some (.slice elem)) (hs:(P.info? elem).map (·.size)=some k) (hn:cs.length=Nat.min sLen dLen*k)
    (eG:∀ j v,cs[j]?=some v->w.cell? (a.add j)=some v) (hc:∀ j,j<cs.length->(w.cell? ⟨b,o+j,none⟩).isSome=true) (hf:∀ j,j<cs.length->w.frozen? ⟨b,o+j,none⟩=false) (h1:∀ v∈cs,v.oneCell'=true) :
    (Builtin.copy_ #[dT,sT] ty #[.slice (some ⟨b,o,none⟩) dLen dCap,.slice (some a) sLen sCap]).run P w=.ok (goInt (Nat.min sLen dLen)) (w.setCells b o cs):=by
  have hl:=run_loadCells_list (P:=P) w a cs eG;have bO:=run_storeCells_cells (P:=P) b o cs 0 w (by simpa using hc) (by simpa using hf) h1;cases hq:P.info? elem with
  | none=>simp [hq] at hs
  | some i =>
    have hi:i.size=k:=by simpa [hq] using hs
    rw [hn] at hl;simp [Builtin.copy_,run_underlying hu,Builtin.lenOf,Builtin.firstCells,sizeOf,typeInfo,hq,hi,hl,bO]
set_option maxHeartbeats 4000000 in
set_option maxRecDepth 100000 in
theorem Xe (b off n c i vb voff vc:Nat) (cs vs:List Value) (w:World) (hi:i<n) (cv:n+1<=c) (sZ:c<=9223372036854775807) (nA:vb≠b)
    (cO:cs.length=n*2) (ig:vs.length=2)
    (cE:∀ j v,cs[j]?=some v->w.cell? ⟨b,off+j,none⟩=some v) (ft:∀ j,j<(n+1)*2->(w.cell? ⟨b,off+j,none⟩).isSome=true) (qR:∀ j,j<(n+1)*2->w.frozen? ⟨b,off+j,none⟩=false)
    (iN:∀ j v,vs[j]?=some v->w.cell? ⟨vb,voff+j,none⟩=some v) (lh:∀ v∈cs,v.oneCell'=true) (qm:∀ v∈vs,v.oneCell'=true)
    (tA tB:TypeId) (kA kB:Nat) (rJ:w.shape? vb=some (tA,kA)) (rI:w.shape? b=some (tB,kB)) (sr:kB≠0) (sP:w.frozen? ⟨vb,voff,none⟩=false) (pz:w.frozen? ⟨vb,kA,none⟩=false) :
    Calls Tryz.prog 100 #[.slice (some ⟨b,off,none⟩) n c,.int .i64 i,.slice (some ⟨vb,voff,none⟩) 1 vc] w λ e w' =>
      e=.returned (.slice (some ⟨b,off,none⟩) (n+1) c)/\w'=(w.drew.setCells b (off+(i+1)*2) (cs.drop (i*2))).setCells b (off+i*2) vs:=by
  have oe:¬ ((i:Int)=(n:Int)):=by omega
  have aW:(Tryz.prog.info? 104).map (·.size)=some 2:=by kernel_rfl
  have nF:∀ lb cb,(callFunc 111 #[.slice (some ⟨vb,voff,none⟩) 1 vc,.slice (some ⟨b,off+(i+1)*2,none⟩) lb cb]).run Tryz.prog w=.ok (.value (.bool false)) w:=λ lb cb=>by
    rw [run_callFunc_extern Tryz.func111 (by kernel_rfl) (by kernel_rfl) (by kernel_rfl) (e:=Extern.SlicesOverlaps.overlaps #[81,81] #[4]) (by kernel_rfl),
      Lib.run_overlaps_apart w 81 4 104 Tryz.underlying81 2 Tryz.sizeOf104 ⟨vb,voff,none⟩ ⟨b,off+(i+1)*2,none⟩ 1 vc lb cb nA tA tB kA kB rJ rI sr sP pz]
    rfl
  have iG:(cs.drop (i*2)).length=(n - i)*2:=by rw [List.length_drop,cO]; omega
  have jG:IntKind.i64.wrap ((i:Int)+(1:Int))=(i:Int)+(1:Int):=by rw [IntKind.wrap_i64]; omega
  have dG:(0:Int)<=(i:Int)+(1:Int):=by omega
  have dv:i<=n:=by omega
  have qz:((i:Int)+(1:Int)).toNat=i+1:=by omega
  have fp:¬ (c=i+1):=by omega
  have pU:(i:Int)<=(n:Int)+(1:Int):=by omega
  have uu:¬ (c=i):=by omega
  have mT:∀ ty dc sc,(Builtin.copy_ #[81,81] ty #[.slice (some ⟨b,off+(i+1)*2,none⟩) (n - i) dc,.slice (some ⟨b,off+i*2,none⟩) (n+1 - i) sc]).run Tryz.prog w.drew=.ok (goInt (Nat.min (n+1 - i) (n - i))) (w.drew.setCells b (off+(i+1)*2) (cs.drop (i*2))):=λ ty dc sc =>
    DT w.drew _ _ ty 104 2 b (off+(i+1)*2) (n - i) dc ⟨b,off+i*2,none⟩ (n+1 - i) sc (cs.drop (i*2)) Tryz.underlying81 aW (by rw [iG]; simp only [Nat.min_def]; split<;>omega)
      (λ j v hj=>by rw [Addr.add_lit,Nat.add_assoc]; exact cE (i*2+j) v (by rwa [List.getElem?_drop] at hj))
      (λ j hj=>by rw [Nat.add_assoc]; exact ft _ (by omega)) (λ j hj=>by rw [Nat.add_assoc]; exact qR _ (by omega)) (λ v hv=>lh v (List.mem_of_mem_drop hv))
  obtain ⟨W1,gj⟩:∃ W1,W1=w.drew.setCells b (off+(i+1)*2) (cs.drop (i*2)):=⟨_,rfl⟩;have oA:∀ k,k<(n+1)*2->(W1.cell? ⟨b,off+k,none⟩).isSome=true:=λ k hk=>by
    rw [gj];exact Eh b _ _ _ (λ j hj=>by rw [Nat.add_assoc]; exact ft _ (by omega)) _ (ft k hk)
  have pH:∀ (W:World),(∀ x,W.cell? x=W1.cell? x)->(∀ x,W.frozen? x=W1.frozen? x)->∀ ty dc,(Builtin.copy_ #[81,81] ty #[.slice (some ⟨b,off+i*2,none⟩) (n+1 - i) dc,.slice (some ⟨vb,voff,none⟩) 1 vc]).run Tryz.prog W=.ok (goInt (Nat.min 1 (n+1 - i))) (W.setCells b (off+i*2) vs):=λ W ke nc ty dc =>
    DT W _ _ ty 104 2 b (off+i*2) (n+1 - i) dc ⟨vb,voff,none⟩ 1 vc vs Tryz.underlying81 aW (by rw [ig]; simp only [Nat.min_def]; split<;>omega)
      (λ j v hj=>by
        rw [Addr.add_lit,ke,gj,World.cell?_setCells_out b _ _ _ _ (λ h _=>absurd h nA)];exact iN j v hj)
      (λ j hj=>by rw [ke,Nat.add_assoc]; exact oA _ (by omega)) (λ j hj=>by rw [nc,gj,World.frozen?_setCells,Nat.add_assoc]; exact qR _ (by omega)) qm
  rw [<- gj] at mT;have mixed:Tryz.prog.follows .mixedOrders=true:=by kernel_rfl
  go_enter Tryz.func100,Tryz.ntmps100
  go_wp2_with (simp only [nF])
  go_region_law_o (refine Sf rfl _ _ 81 81 rfl _ _ (by simp [Act.eval,Act.put]) (by simp [Act.eval,Act.put]) (mT _ _ _) ?_)
  go_wp2_with (at_builtin; refine Sg _ rfl _ _ 81 81 rfl _ _ rfl rfl (pH _ (λ _=>rfl) (λ _=>rfl) _ _) ?_)
  go_ret
  first|exact ⟨rfl,rfl⟩|exact ⟨rfl,by rw [gj]⟩
end Go.Proofs.YtijlnmgondibnaaGreatDoor
namespace Go.Proofs.YtijlnmgondibnaaGreatDoor
open Go Go.Shelf Go.RowKit Go.Lib
set_option linter.unusedVariables false
set_option linter.unusedSimpArgs false
theorem Pz {z:Array Value} {k m:Nat} (h:z.size=k):(Builtin.zeroCells z m).size=m*k:=by
  simp [Builtin.zeroCells,h]
set_option maxHeartbeats 4000000 in
set_option maxRecDepth 100000 in
theorem Ww (b off n c i vb voff vc:Nat) (cs vs:List Value) (w:World) (hi:i<n) (uj:n<=c) (cv:c<n+1) (pS:(n+1)*24<=140737488355328)
    (cO:cs.length=n*2) (ig:vs.length=2)
    (cE:∀ j v,cs[j]?=some v->w.cell? ⟨b,off+j,none⟩=some v)
    (iN:∀ j v,vs[j]?=some v->w.cell? ⟨vb,voff+j,none⟩=some v) (lh:∀ v∈cs,v.oneCell'=true) (qm:∀ v∈vs,v.oneCell'=true) :
    Calls Tryz.prog 100 #[.slice (some ⟨b,off,none⟩) n c,.int .i64 i,.slice (some ⟨vb,voff,none⟩) 1 vc] w λ e w' =>
      ∃ G Z,n+1<=G/\G<=maxLen/\Z.size=(G - i)*2/\e=.returned (.slice (some ⟨w.heap.size,0,none⟩) (n+1) G) /\
      w'=(((w.alloc (.cells ((cs.take (i*2)).toArray++Z) 104)).drew.setCells w.heap.size (i*2) vs).drew).setCells w.heap.size ((i+1)*2) (cs.drop (i*2)):=by
  have aW:(Tryz.prog.info? 104).map (·.size)=some 2:=by kernel_rfl
  have eO:(Tryz.prog.info? 104).map (λ i=>(i.size,i.bytes,i.zero.map (λ z=>z.cells.size)))=some (2,24,some 2):=by kernel_rfl
  have mixed:Tryz.prog.follows .mixedOrders=true:=by kernel_rfl
  obtain ⟨i0,mL,nq,oc,z,nr,ki⟩:∃ i0,Tryz.prog.info? 104=some i0/\i0.size=2/\i0.bytes=24/\∃ z,i0.zero=some z/\z.cells.size=2:=by
    cases h:Tryz.prog.info? 104 with
    | none=>rw [h] at eO; cases eO
    | some i0 =>
      rw [h] at eO;simp only [Option.map_some,Option.some.injEq,Prod.mk.injEq,Option.map_eq_some_iff] at eO;obtain ⟨h1,h2,z,h3,h4⟩:=eO;exact ⟨i0,rfl,h1,h2,z,h3,h4⟩
  have oe:¬ ((i:Int)=(n:Int)):=by omega
  have uh:(c:Int)<(n:Int)+(1:Int):=by omega
  have ta:b<w.heap.size:=block_lt_of_cell (cE 0 _ (List.getElem?_eq_getElem (by omega)));have dY:vb<w.heap.size:=block_lt_of_cell (iN 0 _ (List.getElem?_eq_getElem (by omega)));have mD:(n:Int)+(1:Int) - (i:Int)=((n+1 - i:Nat):Int):=by omega
  have mJ:i+(n+1 - i)=n+1:=by omega
  have jf:(cs.take (i*2)).length=i*2:=by rw [List.length_take,cO]; omega
  have hold:(Builtin.firstCells i0.size i (.slice (some ⟨b,off,none⟩) i c)).run Tryz.prog w.drew=.ok (cs.take (i*2)).toArray w.drew:=by
    rw [nq];exact run_firstCells_some w.drew 2 i ⟨b,off,none⟩ i c (cs.take (i*2)) jf (λ j v hj=>by
      rw [Addr.add_lit];rw [List.getElem?_take] at hj;split at hj
      . exact cE j v hj
      . cases hj)
  obtain ⟨G,hG⟩:∃ G,G=grownCap w (n+1) c 104:=⟨_,rfl⟩;have tK:n+1<=G:=by rw [hG]; exact grownCap_ge w _ _ _
  have nX:G<=maxLen:=by
    rw [hG]; exact grownCap_le_maxLen w (n+1) c 104 (by unfold maxLen; omega)
  have tM:G<=9223372036854775807:=nX;obtain ⟨Z,hZ⟩:∃ Z:Array Value,Z=Builtin.zeroCells z.cells (n+1 - i)++Builtin.zeroCells z.cells (G - (n+1)):=⟨_,rfl⟩;have pX:Z.size=(G - i)*2:=by rw [hZ,Array.size_append,Pz ki,Pz ki]; omega
  have oC:∀ ty,(Builtin.append_ #[81,3] ty #[.slice (some ⟨b,off,none⟩) i c,.int .i64 ((n:Int)+(1:Int) - (i:Int))]).run Tryz.prog w =
      .ok (.slice (some ⟨w.heap.size,0,none⟩) (n+1) G) (w.drew.alloc (.cells ((cs.take (i*2)).toArray++Z) 104)):=λ ty=>by
    have h:=Lib.run_append_grow_zeros w 81 3 ty 104 i0 z .i64 .i64 Tryz.underlying81 Tryz.underlying3 mL nr (some ⟨b,off,none⟩) i c (cs.take (i*2)) hold (n+1 - i) (by omega) (by omega) (by omega) (by omega) (by rw [oc]; omega) (by rw [oc,mJ]; exact growslice_fits cv pS);rw [mJ,<- hG,Array.append_assoc,<- hZ] at h;rw [mD];exact h
  obtain ⟨ROW,jC⟩:∃ ROW:Array Value,ROW=(cs.take (i*2)).toArray++Z:=⟨_,rfl⟩;rw [<- jC] at oC;have qd:(n+1)*2<=ROW.size:=by
    rw [jC,Array.size_append,pX,List.size_toArray,jf];omega
  obtain ⟨W1,gj⟩:∃ W1,W1=w.drew.alloc (.cells ROW 104):=⟨_,rfl⟩;rw [<- gj] at oC;have hN:∀ j,j<(n+1)*2->(W1.cell? ⟨w.heap.size,j,none⟩).isSome=true:=λ j hj=>by
    rw [gj,World.cell?_alloc_at (w:=w.drew) ROW _ w.heap.size j rfl,Array.getElem?_eq_getElem (by omega)]; rfl
  have re:∀ j,W1.frozen? ⟨w.heap.size,j,none⟩=false:=λ j=>by rw [gj]; exact World.frozen?_alloc_at (w:=w.drew) ROW _ w.heap.size j rfl
  have nS:∀ j v,w.cell? ⟨b,j,none⟩=some v->W1.cell? ⟨b,j,none⟩=some v:=λ j v h=>by rw [gj,World.cell?_alloc_past (w:=w.drew) _ b j ta]; exact h
  have tC:∀ j v,w.cell? ⟨vb,j,none⟩=some v->W1.cell? ⟨vb,j,none⟩=some v:=λ j v h=>by rw [gj,World.cell?_alloc_past (w:=w.drew) _ vb j dY]; exact h
  have pG:∀ (W:World),(∀ x,W.cell? x=W1.cell? x)->(∀ x,W.frozen? x=W1.frozen? x)->∀ ty dc,(Builtin.copy_ #[81,81] ty #[.slice (some ⟨w.heap.size,i*2,none⟩) (n+1 - i) dc,.slice (some ⟨vb,voff,none⟩) 1 vc]).run Tryz.prog W=.ok (goInt (Nat.min 1 (n+1 - i))) (W.setCells w.heap.size (i*2) vs):=λ W ke nc ty dc =>
    DT W _ _ ty 104 2 w.heap.size (i*2) (n+1 - i) dc ⟨vb,voff,none⟩ 1 vc vs Tryz.underlying81 aW (by rw [ig]; simp only [Nat.min_def]; split<;>omega)
      (λ j v hj=>by rw [Addr.add_lit,ke]; exact tC _ v (iN j v hj))
      (λ j hj=>by rw [ke]; exact hN _ (by omega)) (λ j hj=>by rw [nc]; exact re _) qm
  have uv:¬ (G=i):=by omega
  have tL:¬ (G=i+1):=by omega
  have jY:¬ (c=i):=by omega
  have td:b≠w.heap.size:=by omega
  have iG:(cs.drop (i*2)).length=(n - i)*2:=by rw [List.length_drop,cO]; omega
  have pF:∀ (W:World),(∀ x,W.cell? x=(W1.setCells w.heap.size (i*2) vs).cell? x)->(∀ x,W.frozen? x=(W1.setCells w.heap.size (i*2) vs).frozen? x)->∀ ty dc sc,(Builtin.copy_ #[81,81] ty #[.slice (some ⟨w.heap.size,(i+1)*2,none⟩) (n - i) dc,.slice (some ⟨b,off+i*2,none⟩) (n - i) sc]).run Tryz.prog W=.ok (goInt (Nat.min (n - i) (n - i))) (W.setCells w.heap.size ((i+1)*2) (cs.drop (i*2))):=λ W ke nc ty dc sc =>
    DT W _ _ ty 104 2 w.heap.size ((i+1)*2) (n - i) dc ⟨b,off+i*2,none⟩ (n - i) sc (cs.drop (i*2)) Tryz.underlying81 aW (by rw [iG]; simp only [Nat.min_def]; split<;>omega)
      (λ j v hj=>by
        rw [Addr.add_lit,ke,World.cell?_setCells_out _ _ _ _ _ (λ h _=>absurd h td),Nat.add_assoc];exact nS _ v (cE (i*2+j) v (by rwa [List.getElem?_drop] at hj)))
      (λ j hj=>by rw [ke]; exact Eh _ _ _ _ (λ t ht=>hN _ (by omega)) _ (hN _ (by omega)))
      (λ j hj=>by rw [nc,World.frozen?_setCells]; exact re _) (λ v hv=>lh v (List.mem_of_mem_drop hv))
  subst gj;have tO:∀ x,((w.alloc (.cells ROW 104)).drew).cell? x=(w.drew.alloc (.cells ROW 104)).cell? x:=λ x=>rfl;have tN:∀ x,((w.alloc (.cells ROW 104)).drew).frozen? x=(w.drew.alloc (.cells ROW 104)).frozen? x:=λ x=>rfl;have np:∀ x,(((w.alloc (.cells ROW 104)).drew.setCells w.heap.size (i*2) vs).drew).cell? x=((w.drew.alloc (.cells ROW 104)).setCells w.heap.size (i*2) vs).cell? x:=λ x=>rfl;have nm:∀ x,(((w.alloc (.cells ROW 104)).drew.setCells w.heap.size (i*2) vs).drew).frozen? x=((w.drew.alloc (.cells ROW 104)).setCells w.heap.size (i*2) vs).frozen? x:=λ x=>rfl;have jG:IntKind.i64.wrap ((i:Int)+(1:Int))=(i:Int)+(1:Int):=by rw [IntKind.wrap_i64]; omega
  have dG:(0:Int)<=(i:Int)+(1:Int):=by omega
  have dv:i<=n:=by omega
  have qz:((i:Int)+(1:Int)).toNat=i+1:=by omega
  have pU:(i:Int)<=(n:Int):=by omega
  suffices eL:Calls Tryz.prog 100 #[.slice (some ⟨b,off,none⟩) n c,.int .i64 i,.slice (some ⟨vb,voff,none⟩) 1 vc] w λ e w'=>e=.returned (.slice (some ⟨w.heap.size,0,none⟩) (n+1) G) /\
      w'=(((w.alloc (.cells ROW 104)).drew.setCells w.heap.size (i*2) vs).drew).setCells w.heap.size ((i+1)*2) (cs.drop (i*2)) by
    refine eL.mono ?_;rintro e w' ⟨rfl,rfl⟩;exact ⟨G,Z,tK,nX,pX,rfl,by rw [<- jC]⟩
  clear mD mJ hold qd eO aW mL nr nq oc ki hG hZ jC pX
  go_enter Tryz.func100,Tryz.ntmps100
  go_wp2_with (first
    | (at_builtin; refine Lib.wpList_append_run _ rfl _ _ _ _ rfl _ _ rfl rfl _ _ (oC _) ?_)
    | (at_builtin; refine Sg _ rfl _ _ 81 81 rfl _ _ rfl rfl (pG _ tO tN _ _) ?_))
  go_region_law_o (refine Sf rfl _ _ 81 81 rfl (.slice (some ⟨w.heap.size,(i+1)*2,none⟩) (n - i) (G - (i+1))) (.slice (some ⟨b,off+i*2,none⟩) (n - i) (c - i)) (by simp [Act.eval,Act.put]) (by simp [Act.eval,Act.put]) (pF _ np nm 3 (G - (i+1)) (c - i)) ?_)
  go_wp2
  go_ret
  exact ⟨rfl,rfl⟩
end Go.Proofs.YtijlnmgondibnaaGreatDoor
namespace Go.Proofs.YtijlnmgondibnaaGreatDoor
open Go.Ex
set_option maxRecDepth 100000
abbrev C9:=Int×yY×Unit
def xX (l:List C9) (i:Int) (m:List C9):List C9:=l.take i.toNat++m++l.drop i.toNat
theorem BE (b:Nat):∀ (vs:List Value) (o:Nat) (w:World),(w.setCells b o vs).heap.size=w.heap.size/\(w.setCells b o vs).os=w.os/\(w.setCells b o vs).output=w.output/\(w.setCells b o vs).tape=w.tape/\(w.setCells b o vs).drawn=w.drawn /\
    (∀ c,c≠b->(w.setCells b o vs).heap[c]?=w.heap[c]?)/\∀ arr T fz,w.heap[b]?=some (.cells arr T fz)->∃ da,(w.setCells b o vs).heap[b]?=some (.cells da T fz)/\da.size=arr.size
  | [],_,_=>⟨rfl,rfl,rfl,rfl,rfl,λ _ _=>rfl,λ arr _ _ h=>⟨arr,h,rfl⟩⟩
  | v::r,o,w=>by
    obtain ⟨h1,h2,h3,h4,h5,h6,h7⟩:=BE b r (o+1) (w.setCell ⟨b,o,none⟩ v);have e1:(w.setCell ⟨b,o,none⟩ v).heap.size=w.heap.size:=by simp [World.setCell]
    have e2:∀ c,c≠b->(w.setCell ⟨b,o,none⟩ v).heap[c]?=w.heap[c]?:=λ c hc=>by
      simp only [World.setCell,Array.getElem?_modify,if_neg (Ne.symm hc)]
    refine ⟨h1.trans e1,h2,h3,h4,h5,λ c hc=>(h6 c hc).trans (e2 c hc),λ arr T fz h=>?_⟩;have:(w.setCell ⟨b,o,none⟩ v).heap[b]?=some (.cells (arr.setIfInBounds o v) T fz):=by
      simp [World.setCell,Array.getElem?_modify,h]
    obtain ⟨da,g1,g2⟩:=h7 _ T fz this;exact ⟨da,g1,by rw [g2,Array.size_setIfInBounds]⟩
theorem Qz {w:World} {b off:Nat} {arr:Array Value} {T:TypeId} {fz:Nat×Nat} (h:w.heap[b]?=some (.cells arr T fz)) {F:List Value} {n:Nat} (hn:F.length=n) (hc:∀ j,j<n->w.cell? ⟨b,off+j,none⟩=F[j]?):d9 w.heap b off n=F:=by
  have bM:∀ k,w.cell? ⟨b,k,none⟩=arr[k]?:=λ k=>by simp [World.cell?,h]
  simp only [d9,u6,h];apply List.ext_getElem?;intro j;rw [List.getElem?_take,List.getElem?_drop];by_cases hj:j<n
  . rw [if_pos hj,<- hc j hj,bM,Array.getElem?_toList]
  . rw [if_neg hj,List.getElem?_eq_none (by omega)]
theorem Qy {α:Type} (A B C:List α) (j:Nat):(A++B++C)[j]?=if j<A.length then A[j]? else if j<A.length+B.length then B[j - A.length]? else C[j - (A.length+B.length)]?:=by
  rw [List.getElem?_append,List.getElem?_append,List.length_append]
  split<;>split<;>first|rfl|omega|(split<;>first|rfl|omega)
theorem MT {w:World} {S:Nat->Prop} {t:Ty} (ht:t.shared=true) {L:List Nat} {cs:List Value} {l:List t.den} (h:g8 w.heap S (.d0 true t) L cs l) (hl:0<l.length) :
    ∃ b off cap,L=[b]/\cs=[.slice (some ⟨b,off,none⟩) l.length cap]/\l.length<=cap/\yS true cap/\i8 (g8 w.heap S t) t.size [] (d9 w.heap b off (l.length*t.size)) l/\S7 t.isB w.heap b (off+cap*t.size):=by
  rcases h with ⟨_,_,rfl⟩|⟨b,off,cap,O',h1,h2,h3,h4,h5,h6,h7⟩
  . simp at hl
  have hO:O'=[]:=i8.M8 (λ _ _ _ hr=>g8.M8 ht hr) h5;subst hO;exact ⟨b,off,cap,h6,h1,h2,h3,h5,h7⟩
def yV:o7:={ ps:=[.own (.d0 true r7),.v e8,.own (.d0 true r7)],rs:=[.d0 true r7],pre:=λ x=>(LE.le (α:=Int) 0 x.2.1/\LT.lt (α:=Int) x.2.1 (List.length (α:=C9) x.1))/\List.length (α:=C9) x.1<=1000/\List.length (α:=C9) x.2.2.1=1,fn:=λ x=>(xX x.1 x.2.1 x.2.2.1,()),out:=λ _=>() }
theorem MU {w w':World} {L:List Nat} (h1:w'.os=w.os) (h2:w'.tape=w.tape) (h3:w.drawn<=w'.drawn) (h4:w'.output=w.output) (h5:w.heap.size<=w'.heap.size) (h6:∀ c,c<w.heap.size->c∉L->w'.heap[c]?=w.heap[c]?):E3 L w w':=⟨h1,⟨h2,h3⟩,h4,h5,h6⟩
theorem Rv:yV.Valid Tryz.prog 100:=by
  refine ⟨⟨_,Tryz.func100,by kernel_rfl,by kernel_rfl⟩,?_,λ h=>by cases h⟩;rintro w S vs ⟨(l:List C9),(i0:Int),(m:List C9),⟨⟩⟩ L hS - ⟨⟨(p0:0<=i0),(p1:i0<(l.length:Int))⟩,(p2:l.length<=1000),(p3:m.length=1)⟩ nH - aH hL;obtain ⟨v1,us,L1,L2,rfl,rfl,⟨cs1,rfl,r1⟩,v2,us,L3,L4,rfl,rfl,⟨rfl,cs2,rfl,r2⟩,v3,us,L5,L6,rfl,rfl,⟨cs3,rfl,r3⟩,rfl,rfl⟩:=nH;obtain ⟨i,rfl⟩:∃ i:Nat,i0=i:=⟨i0.toNat,by omega⟩;have r1:g8 w.heap S (.d0 true r7) L1 cs1 l:=r1;have r3:g8 w.heap S (.d0 true r7) L5 cs3 m:=r3;obtain ⟨b,off,cap,rfl,rfl,c2,c3,c4,c5⟩:=MT rfl r1 (by omega);obtain ⟨vb,voff,vc,rfl,rfl,d2,d3,d4,d5⟩:=MT rfl r3 (by omega);obtain ⟨-,rfl,-⟩:=r2;have aW:Ty.size r7=2:=rfl;have c4:i8 (g8 w.heap S r7) 2 [] (d9 w.heap b off (l.length*2)) l:=c4;have c5:S7 false w.heap b (off+cap*2):=c5;have d5:S7 false w.heap vb (voff+vc*2):=d5;have d4:i8 (g8 w.heap S r7) 2 [] (d9 w.heap vb voff (1*2)) m:=by rw [<- p3]; exact d4
  have nA:vb≠b:=by
    rintro rfl;simp at aH
  have nO:=hL b (by simp);have kl:=hL vb (by simp);obtain ⟨arr,T,⟨fz,e1,ef⟩,en⟩:=c5;obtain rfl:fz=(0,0):=ef.elim id (λ h=>by cases h.1);obtain ⟨varr,vT,⟨vfz,g1,gf⟩,gn⟩:=d5;obtain rfl:vfz=(0,0):=gf.elim id (λ h=>by cases h.1);rw [p3];have cP:cap<=maxLen:=c3.1;have cO:(d9 w.heap b off (l.length*2)).length=l.length*2:=i8.length (λ _ _ _ h=>h.length) c4;have ig:(d9 w.heap vb voff (1*2)).length=2:=by have:=i8.length (λ _ _ _ h=>h.length) d4; rw [p3] at this; exact this
  have cf:=i8.plain (λ _ _ _ hr=>hr.plain) c4;have qF:=i8.plain (λ _ _ _ hr=>hr.plain) d4;have bM:∀ k,w.cell? ⟨b,k,none⟩=arr[k]?:=λ k=>by simp [World.cell?,e1]
  have kN:∀ k,w.frozen? ⟨b,k,none⟩=false:=λ k=>by simp [World.frozen?,e1]
  have mM:∀ k,w.frozen? ⟨vb,k,none⟩=false:=λ k=>by simp [World.frozen?,g1]
  have cE:∀ j v,(d9 w.heap b off (l.length*2))[j]?=some v->w.cell? ⟨b,off+j,none⟩=some v:=λ j v h=>M0 h;have iN:∀ j v,(d9 w.heap vb voff (1*2))[j]?=some v->w.cell? ⟨vb,voff+j,none⟩=some v:=λ j v h=>M0 h;have jy:yV.fn (l,(i:Int),m,())=(l.take i++m++l.drop i,()):=rfl;have mI:i<l.length:=by omega
  obtain ⟨q1,q2⟩:i8 (g8 w.heap S r7) 2 [] ((d9 w.heap b off (l.length*2)).take (i*2)) (l.take i)/\i8 (g8 w.heap S r7) 2 [] ((d9 w.heap b off (l.length*2)).drop (i*2)) (l.drop i):=by
    obtain ⟨P1,P2,P3,e,k1,k2,k3⟩:=i8.split (d:=((0:Int),([]:yY),())) mI c4;have e:=e.symm;simp only [List.append_eq_nil_iff] at e;obtain ⟨rfl,rfl,rfl⟩:=e;refine ⟨k1,?_⟩;have h9:l.drop i=l.getD i (0,[],())::l.drop (i+1):=by
      rw [List.drop_eq_getElem_cons mI,List.getD_eq_getElem?_getD,List.getElem?_eq_getElem mI]; rfl
    rw [h9];refine ⟨[],[],rfl,k2,?_⟩;rw [List.drop_drop,show i*2+2=(i+1)*2 by omega];exact k3
  have oE:i8 (g8 w.heap S r7) 2 [] ((d9 w.heap b off (l.length*2)).take (i*2)++d9 w.heap vb voff (1*2)++(d9 w.heap b off (l.length*2)).drop (i*2)) (l.take i++m++l.drop i):=by
    have h1:=i8.append (λ _ _ _ h=>h.length) q1 d4;exact i8.append (λ _ _ _ h=>h.length) h1 q2
  have hlen:(l.take i++m++l.drop i).length=l.length+1:=by simp only [List.length_append,List.length_take,List.length_drop]; omega
  have jf:((d9 w.heap b off (l.length*2)).take (i*2)).length=i*2:=by rw [List.length_take,cO]; omega
  have iG:((d9 w.heap b off (l.length*2)).drop (i*2)).length=(l.length - i)*2:=by rw [List.length_drop,cO]; omega
  have fin:∀ {w':World} {c o G:Nat} {da:Array Value} {T':TypeId},E3 [b,vb] w w'->(c=b\/w.heap.size<=c)->l.length+1<=G->G<=maxLen->w'.heap[c]?=some (.cells da T' (0,0))->o+G*2<=da.size ->
      d9 w'.heap c o ((l.length+1)*2)=(d9 w.heap b off (l.length*2)).take (i*2)++d9 w.heap vb voff (1*2)++(d9 w.heap b off (l.length*2)).drop (i*2) ->
      wO w S yV.rs yV.ps [o8 (.d0 true r7) [.slice (some ⟨b,off,none⟩) l.length cap],o8 e8 [.int .i64 i],o8 (.d0 true r7) [.slice (some ⟨vb,voff,none⟩) 1 vc]] [b,vb] (yV.fn (l,(i:Int),m,())) (yV.out (l,(i:Int),m,())) (.returned (.slice (some ⟨c,o,none⟩) (l.length+1) G)) w':=by
    intro w' c o G da T' hp hc hG nX ha hs pN;have ch:∀ {cs:List Value} {l':List C9},i8 (g8 w.heap S r7) 2 [] cs l'->i8 (g8 w'.heap S r7) 2 [] cs l':=λ hr=>i8.mono (L:=[]) (λ _ h=>h) (λ O cs x hO hr=>hr.s4 (λ d hd=>by
      rcases hd with hd|hd
      . exact absurd (hO d hd) (by simp)
      . refine hp.frame d (hS d hd) (λ hm=>?_);rcases List.mem_cons.1 hm with rfl|hm
        . exact nO.1 hd
        . rw [List.mem_singleton] at hm; subst hm; exact kl.1 hd) (λ _ h=>h)) hr
    refine ⟨[.slice (some ⟨c,o,none⟩) (l.length+1) G],[c],[],S,rfl,hp,λ _ h=>h,λ _ h=>.inl h,⟨_,[],[c],[],[.slice (some ⟨c,o,none⟩) (l.length+1) G],rfl,rfl,rfl,?_,rfl,rfl⟩,⟨_,_,rfl,_,_,rfl,_,_,rfl,rfl,rfl⟩,by simp,?_⟩
    . rw [jy];refine .inr ⟨c,o,G,[],by rw [hlen],by rw [hlen]; exact hG,⟨nX,λ _=>by omega⟩,?_,?_,rfl,da,T',⟨(0,0),ha,.inl rfl⟩,hs⟩
      . rw [hlen,aW]; simp only [u6,ha,Array.length_toList]; omega
      . rw [hlen,aW,pN]; exact ch oE
    . intro d hd;simp only [List.append_nil,List.mem_singleton] at hd;subst hd;refine ⟨λ h=>?_,?_,?_⟩
      . rcases hc with rfl|hc
        . exact nO.1 h
        . have:=hS d h; omega
      . rcases hc with rfl|hc
        . right; simp
        . left; exact hc
      . exact (Array.getElem?_eq_some_iff.1 ha).1
  by_cases cv:l.length+1<=cap
  . have iQ:(l.length+1)*2<=cap*2:=Nat.mul_le_mul_right _ cv;refine (Xe b off l.length cap i vb voff vc (d9 w.heap b off (l.length*2)) (d9 w.heap vb voff (1*2)) w mI cv cP nA cO ig cE
      (λ j hj=>by rw [bM,Array.getElem?_eq_getElem (by omega)]; rfl) (λ j _=>kN _) iN (λ v hv=>(cf v hv).1) (λ v hv=>(qF v hv).1)
      vT T varr.size arr.size (by simp [World.shape?,g1]) (by simp [World.shape?,e1]) (by omega) (mM _) (mM _)).mono ?_
    rintro e w' ⟨rfl,rfl⟩;obtain ⟨A1,A2,A3,A4,A5,A6,A7⟩:=BE b ((d9 w.heap b off (l.length*2)).drop (i*2)) (off+(i+1)*2) w.drew;obtain ⟨B1,B2,B3,B4,B5,B6,B7⟩:=BE b (d9 w.heap vb voff (1*2)) (off+i*2) (w.drew.setCells b (off+(i+1)*2) ((d9 w.heap b off (l.length*2)).drop (i*2)));obtain ⟨arr1,x1,x2⟩:=A7 arr T (0,0) e1;obtain ⟨arr2,y1,y2⟩:=B7 arr1 T (0,0) x1;have cp:∀ k,off+k<off+cap*2->(w.drew.cell? ⟨b,off+k,none⟩).isSome=true:=λ k hk=>by
      show (w.cell? ⟨b,off+k,none⟩).isSome=true;rw [bM,Array.getElem?_eq_getElem (by omega)]; rfl
    have gl:∀ k,off+k<off+cap*2->((w.drew.setCells b (off+(i+1)*2) ((d9 w.heap b off (l.length*2)).drop (i*2))).cell? ⟨b,off+k,none⟩).isSome=true:=λ k hk =>
      Eh b _ _ _ (λ j hj=>by rw [iG] at hj; rw [Nat.add_assoc]; exact cp _ (by omega)) _ (cp k hk)
    refine fin (T':=T) (da:=arr2) ?_ (.inl rfl) cv cP y1 (by rw [y2,x2]; exact en) ?_
    . refine MU (B2.trans A2) (B4.trans A4) (by rw [B5,A5]; exact Nat.le_succ _) (B3.trans A3) (by rw [B1,A1]; exact Nat.le_refl _) (λ c hc hn=>?_);have cz:c≠b:=λ e=>hn (by simp [e]);exact (B6 c cz).trans (A6 c cz)
    . refine Qz y1 (by rw [List.length_append,List.length_append,jf,ig,iG]; omega) (λ j hj=>?_);rw [Qy,jf,ig];by_cases k1:j<i*2
      . rw [if_pos k1,World.cell?_setCells_out b _ _ _ _ (λ _ _=>.inl (by show off+j<_; omega)),World.cell?_setCells_out b _ _ _ _ (λ _ _=>.inl (by show off+j<_; omega)),List.getElem?_take,if_pos k1];have iU:j<(d9 w.heap b off (l.length*2)).length:=by omega
        rw [List.getElem?_eq_getElem iU];exact cE j _ (List.getElem?_eq_getElem iU)
      . rw [if_neg k1];by_cases k2:j<i*2+2
        . rw [if_pos k2];have:=World.cell?_setCells_in b (d9 w.heap vb voff (1*2)) (off+i*2) (w.drew.setCells b (off+(i+1)*2) ((d9 w.heap b off (l.length*2)).drop (i*2))) (λ j hj=>by rw [Nat.add_assoc]; exact gl _ (by omega)) (j - i*2) (by omega);rw [show off+i*2+(j - i*2)=off+j by omega] at this;rw [this,List.getElem?_eq_getElem]
        . rw [if_neg k2,World.cell?_setCells_out b _ _ _ _ (λ _ _=>.inr (by show _<=off+j; rw [ig]; omega))];have:=World.cell?_setCells_in b ((d9 w.heap b off (l.length*2)).drop (i*2)) (off+(i+1)*2) w.drew (λ j hj=>by rw [iG] at hj; rw [Nat.add_assoc]; exact cp _ (by omega)) (j - (i*2+2)) (by omega);rw [show off+(i+1)*2+(j - (i*2+2))=off+j by omega] at this;rw [this,List.getElem?_eq_getElem]
  . refine (Ww b off l.length cap i vb voff vc (d9 w.heap b off (l.length*2)) (d9 w.heap vb voff (1*2)) w mI c2 (by omega) (by omega) cO ig cE iN (λ v hv=>(cf v hv).1) (λ v hv=>(qF v hv).1)).mono ?_;rintro e w' ⟨G,Z,z1,z2,z3,rfl,rfl⟩;generalize jJ:((d9 w.heap b off (l.length*2)).take (i*2)).toArray++Z=ROW;have tu:ROW.size=G*2:=by rw [<- jJ,Array.size_append,List.size_toArray,jf,z3]; omega
    generalize hN:w.heap.size=N;have n1:((w.alloc (.cells ROW 104)).drew).heap[N]?=some (.cells ROW 104 (0,0)):=by
      show (w.heap.push _)[N]?=_;rw [<- hN]; simp
    have n2:∀ c,c<N->((w.alloc (.cells ROW 104)).drew).heap[c]?=w.heap[c]?:=λ c hc=>by
      show (w.heap.push _)[c]?=_;rw [Array.getElem?_push,if_neg (by omega)]
    have n3:((w.alloc (.cells ROW 104)).drew).heap.size=N+1:=by show (w.heap.push _).size=_; rw [Array.size_push,hN]
    obtain ⟨A1,A2,A3,A4,A5,A6,A7⟩:=BE N (d9 w.heap vb voff (1*2)) (i*2) ((w.alloc (.cells ROW 104)).drew);generalize gj:((w.alloc (.cells ROW 104)).drew).setCells N (i*2) (d9 w.heap vb voff (1*2))=W1 at *
    obtain ⟨B1,B2,B3,B4,B5,B6,B7⟩:=BE N ((d9 w.heap b off (l.length*2)).drop (i*2)) ((i+1)*2) W1.drew;obtain ⟨arr1,x1,x2⟩:=A7 ROW 104 (0,0) n1;obtain ⟨arr2,y1,y2⟩:=B7 arr1 104 (0,0) x1;have qS:∀ k,((w.alloc (.cells ROW 104)).drew).cell? ⟨N,k,none⟩=ROW[k]?:=λ k=>by simp only [World.cell?,n1]; rfl
    have cp:∀ k,k<G*2->(((w.alloc (.cells ROW 104)).drew).cell? ⟨N,k,none⟩).isSome=true:=λ k hk=>by
      rw [qS,Array.getElem?_eq_getElem (by omega)]; rfl
    have gl:∀ k,k<G*2->(W1.drew.cell? ⟨N,k,none⟩).isSome=true:=λ k hk=>by
      show (W1.cell? ⟨N,k,none⟩).isSome=true;rw [<- gj];exact Eh N _ _ _ (λ j hj=>cp _ (by omega)) _ (cp k hk)
    refine fin (c:=N) (o:=0) (G:=G) (T':=104) (da:=arr2) ?_ (.inr (by omega)) z1 z2 y1 (by rw [y2,x2,tu]; omega) ?_
    . refine MU (B2.trans A2) (B4.trans A4) (by rw [B5]; show _<=W1.drawn+1; rw [A5]; show w.drawn<=w.drawn+1+1; omega) (B3.trans A3) (by rw [B1]; show _<=W1.heap.size; rw [A1,n3]; omega) (λ c hc hn=>?_);have cz:c≠N:=by omega
      exact (B6 c cz).trans ((A6 c cz).trans (n2 c (by omega)))
    . refine Qz y1 (by rw [List.length_append,List.length_append,jf,ig,iG]; omega) (λ j hj=>?_);rw [Qy,jf,ig,Nat.zero_add];by_cases k1:j<i*2
      . rw [if_pos k1,World.cell?_setCells_out N _ _ _ _ (λ _ _=>.inl (by show j<_; omega))];show W1.cell? ⟨N,j,none⟩=_;rw [<- gj,World.cell?_setCells_out N _ _ _ _ (λ _ _=>.inl (by show j<_; omega)),qS,<- jJ];rw [Array.getElem?_append,if_pos (by rw [List.size_toArray,jf]; exact k1),List.getElem?_toArray]
      . rw [if_neg k1];by_cases k2:j<i*2+2
        . rw [if_pos k2,World.cell?_setCells_out N _ _ _ _ (λ _ _=>.inl (by show j<_; omega))];show W1.cell? ⟨N,j,none⟩=_;have:=World.cell?_setCells_in N (d9 w.heap vb voff (1*2)) (i*2) ((w.alloc (.cells ROW 104)).drew) (λ j hj=>cp _ (by omega)) (j - i*2) (by omega);rw [gj,show i*2+(j - i*2)=j by omega] at this;rw [this,List.getElem?_eq_getElem]
        . rw [if_neg k2];have:=World.cell?_setCells_in N ((d9 w.heap b off (l.length*2)).drop (i*2)) ((i+1)*2) W1.drew (λ j hj=>by rw [iG] at hj; exact gl _ (by omega)) (j - (i*2+2)) (by omega);rw [show (i+1)*2+(j - (i*2+2))=j by omega] at this;rw [this,List.getElem?_eq_getElem]
def KG:o7:={ ps:=[.own (.d0 true r7),.v e8,.own (.d0 true r7)],rs:=[.d0 true r7],pre:=λ x=>x.2.1=(List.length (α:=C9) x.1:Int)/\List.length (α:=C9) x.1<=1000/\List.length (α:=C9) x.2.2.1=1,fn:=λ x=>(xX x.1 x.2.1 x.2.2.1,()),out:=λ _=>() }
noncomputable def Fc:Env:={ P:=Tryz.prog,tt:=tt,C7:=[],res:=[Go.ResultVar.tmp 6],rs:=[Ty.d0 true r7],ps:=[PK.own (Ty.d0 true r7),PK.v e8,PK.own (Ty.d0 true r7)],B0:=[],nt:=95 }
theorem NO:w7 Fc:=x8 p7 trivial
theorem NC:C2 Fc Tryz.f100:=⟨rfl,rfl⟩
theorem Tm (x0:List (Int×yY×Unit)) (x1:Int) (x2:List (Int×yY×Unit)):exec Fc 1000 [.code (d8 Tryz.prog 100)] (s9 KG.ps ((x0,x1,x2,()))) =
  .f7 ((0:Int)<=x1/\x1<=(↑(List.length x0):Int)/\(↑(List.length x0):Int)<=(↑(List.length x0):Int)) (cond (decide ((↑(List.length x2):Int)=(0:Int))) (.ret ((x0,()))) (cond (decide (x1=(↑(List.length x0):Int))) (.f7 (List.length x0+List.length x2<=140737488355328/\(List.length x0+List.length x2)*Ty.wb r7<=140737488355328) (.ret ((x0++x2,())))) (.f7 (r9 IntKind.i64 ((↑(List.length x0):Int)+(↑(List.length x2):Int))) (.stuck "cap")))):=by kernel_rfl
theorem ZS:KG.Valid Tryz.prog 100:=by
  refine o7.o5 NO rfl rfl Tryz.func100 (c:=d8 Tryz.prog 100) rfl rfl NC rfl ?_;rintro ⟨(l:List C9),(i:Int),(m:List C9),⟨⟩⟩ ⟨(p1:i=(l.length:Int)),(p2:l.length<=1000),(p3:m.length=1)⟩ -
  subst p1;refine j6 (n:=1000) NO NC ?_;refine i6 (Tm l (l.length:Int) m) ?_;have Si:Ty.wb r7=24:=rfl;simp only [j7,Tree.holds,Si,sL];refine ⟨by omega,λ _=>⟨λ h=>absurd h (by omega),λ _=>⟨⟨⟨by omega,by omega⟩,λ _=>?_⟩,λ h=>absurd trivial h⟩⟩⟩;show ((l++m,()):List C9×Unit)=(xX l (l.length:Int) m,());unfold xX;rw [Int.toNat_natCast,List.take_length,List.drop_length,List.append_nil]
def Ku:o7:={ ps:=[.own (.d0 true r7),.v e8,.own (.d0 true r7)],rs:=[.d0 true r7],pre:=λ x=>(LE.le (α:=Int) 0 x.2.1/\LE.le (α:=Int) x.2.1 (List.length (α:=C9) x.1))/\List.length (α:=C9) x.1<=1000/\List.length (α:=C9) x.2.2.1=1,fn:=λ x=>(xX x.1 x.2.1 x.2.2.1,()),out:=λ _=>() }
theorem YA:Ku.Valid Tryz.prog 100:=by
  refine ⟨Rv.ent,?_,λ h=>by cases h⟩;rintro w S vs ⟨(l:List C9),(i:Int),(m:List C9),⟨⟩⟩ L hS dX ⟨⟨(p0:0<=i),(p1:i<=(l.length:Int))⟩,(p2:l.length<=1000),(p3:m.length=1)⟩ nH dm aH hL;by_cases h:i<(l.length:Int)
  . exact Rv.run w S vs (l,i,m,()) L hS dX ⟨⟨p0,h⟩,p2,p3⟩ nH dm aH hL
  . exact ZS.run w S vs (l,i,m,()) L hS dX ⟨by show i=(l.length:Int); omega,p2,p3⟩ nH dm aH hL
theorem TS:Ty.wb r7=24:=rfl
def FO:o7:={ ps:=[.v (.d0 false r7)],rs:=[.d0 true r7],pre:=λ x=>List.length (α:=s7) x.1<=1048576,fn:=λ x=>x,out:=λ _=>() }
noncomputable def Fj:Env:={ P:=Tryz.prog,tt:=tt,C7:=[],res:=[Go.ResultVar.tmp 2],rs:=[Ty.d0 true r7],ps:=[PK.v K6],B0:=[],nt:=8 }
theorem Nr:w7 Fj:=x8 p7 trivial
theorem NI:C2 Fj Tryz.f97:=⟨rfl,rfl⟩
theorem Ts (x0:List (Int×yY×Unit)):exec Fj 1000 [.code (d8 Tryz.prog 97)] (s9 FO.ps ((x0,()))) =
  .both (x0=[]) (.ret (([],()))) (.f7 ((0:Nat)+List.length x0<=140737488355328/\((0:Nat)+List.length x0)*Ty.wb r7<=140737488355328) (.ret (([]++x0,())))):=by kernel_rfl
theorem b7c:FO.Valid Tryz.prog 97:=by
  refine o7.o5 Nr rfl rfl Tryz.func97 (c:=d8 Tryz.prog 97) rfl rfl NI rfl ?_;rintro ⟨(l:List (s7)),⟨⟩⟩ hp -
  have hp:l.length<=1048576:=hp;refine j6 (n:=1000) Nr NI ?_;refine i6 (Ts l) ?_;simp only [j7,Tree.holds,TS,sL];refine ⟨λ h=>?_,by omega,λ _=>rfl⟩;show (([],()):List (s7)×Unit)=(l,());rw [show l=[] from h]
def GI:o7:={ ps:=[.v ToT,.v r7],rs:=[ToO,.d0 true .str,e8],pre:=λ _=>True,fn:=λ x=>D0 x.1 x.2.1,out:=λ _=>() }
noncomputable def CG:Env:={ P:=Tryz.prog,tt:=tt,C7:=[(96,EH),(75,zS),(59,zg),(97,FO),(98,Ep),(100,Ku)],res:=[Go.ResultVar.cell 4 83,Go.ResultVar.tmp 5,Go.ResultVar.tmp 6],rs:=[Ty.pair e8 (Ty.pair (Ty.d0 true r7) Ty.unit),Ty.d0 true Ty.str,Ty.int IntKind.i64],ps:=[PK.v ToT,PK.v r7],B0:=[(17,[(4,none),(8,none),(11,some (Ty.d0 true Ty.str))])],nt:=116 }
theorem ID:w7 CG:=x8 p7 ⟨Zg,IV,Eg,b7c,Yw,YA,trivial⟩
theorem IG:C2 CG Tryz.f83:=⟨rfl,rfl⟩
theorem Vc (aO:Int) (ab:List (Int×yY×Unit)) (bJ:Int) (aN:yY):exec CG 1000 [.code (d8 Tryz.prog 83)] (s9 GI.ps (((aO,ab,()),(bJ,aN,()),()))) =
  .f7 (True) (cond (decide (toE (aO,ab,())≠(0:Int))) (.ret ((((0:Int),[],()),[],toE (aO,ab,()),()))) (.f7 (True) (cond (!inF bJ (0:Int) (16777214:Int)) (.ret ((((0:Int),[],()),[],(1:Int),()))) (.f7 (True) (cond (D8 aN) (.ret ((((0:Int),[],()),[],(2:Int),()))) (.f7 (List.length ab<=1048576) (.f7 ((List.length ab<=1000/\sorted ab)/\(-100000000:Int)<=bJ/\bJ<=(100000000:Int)) (cond (decide (bJ<aO)) (.ret (((aO,ab,()),[],(0:Int),()))) (.f7 (r9 IntKind.i64 (aO+(16:Int))) (cond (decide (aO+(16:Int)<=bJ)) (.ret (((aO,ab,()),[],(0:Int),()))) (cond (Y0 bJ ab) (.ret (((aO,ab,()),[],(0:Int),()))) (cond (decide (aO<bJ)) (.f7 (((0:Int)<=(↑(atF bJ ab):Int)/\(↑(atF bJ ab):Int)<=(↑(List.length ab):Int))/\List.length ab<=1000/\List.length (List.set [((0:Int),[],())] (Int.toNat (↑0:Int)) (bJ,aN,()))=1) (.ret (((aO,xX ab (↑(atF bJ ab):Int) (List.set [((0:Int),[],())] (Int.toNat (↑0:Int)) (bJ,aN,())),()),[],(0:Int),())))) (.f7 (r9 IntKind.i64 (aO+(1:Int))) (.ctL (f9 (d8 Tryz.prog 83) 17) (St.mk [(4,AV.ptr 4 []),(8,AV.ptr 8 []),(11,AV.at_ 1000011 [])] [(4,g9.var ToO ((0:Int),[],())),(8,g9.var ToO (aO+(1:Int),ab,())),(1000011,g9.own (Ty.d0 true Ty.str) (List.set [[]] (Int.toNat (↑0:Int)) aN))]))))))))))))))):=by kernel_rfl
def QJ (ja:Int) (fe:List (Int×yY×Unit)) (fD:Int) (bB:List (Int×yY×Unit)) (bs:List yY):St:=St.mk [(4,AV.ptr 4 []),(8,AV.ptr 8 []),(11,AV.at_ 1000011 [])] [(4,g9.var ToO (ja,fe,())),(8,g9.var ToO (fD,bB,())),(1000011,g9.own (Ty.d0 true Ty.str) bs)]
theorem YC (ja:Int) (fe:List (Int×yY×Unit)) (fD:Int) (bB:List (Int×yY×Unit)) (bs:List yY):exec CG 1000 (.code (f9 (d8 Tryz.prog 83) 17).1::.inLoop (f9 (d8 Tryz.prog 83) 17).1::(f9 (d8 Tryz.prog 83) 17).2) (QJ ja fe fD bB bs) =
  cond (decide ((0:Int)<(↑(List.length bB):Int))) (.f7 ((0:Int)<=(0:Int)/\(0:Int)<(↑(List.length bB):Int)) (cond (decide (Prod.fst (List.getD bB (Int.toNat (0:Int)) ((0:Int),[],()))=fD)) (.f7 ((0:Int)<=(0:Int)/\(0:Int)<(↑(List.length bB):Int)) (.f7 (List.length bs+List.length (List.set [[]] (Int.toNat (↑0:Int)) (Prod.fst (Prod.snd (List.getD bB (Int.toNat (0:Int)) ((0:Int),[],())))))<=140737488355328/\(List.length bs+List.length (List.set [[]] (Int.toNat (↑0:Int)) (Prod.fst (Prod.snd (List.getD bB (Int.toNat (0:Int)) ((0:Int),[],()))))))*Ty.wb Ty.str<=140737488355328) (.f7 ((0:Int)<=(1:Int)/\(1:Int)<=(↑(List.length bB):Int)/\(↑(List.length bB):Int)<=(↑(List.length bB):Int)) (.f7 ([]++[Step.l6 1]=[]++[Step.l6 1]/\True) (.f7 (r9 IntKind.i64 (fD+(1:Int))) (.ctL (f9 (d8 Tryz.prog 83) 17) (St.mk [(4,AV.ptr 4 []),(8,AV.ptr 8 []),(11,AV.at_ 1000011 [])] [(4,g9.var ToO (ja,fe,())),(8,g9.var ToO (fD+(1:Int),n6 (1:Int) (↑(List.length bB):Int) bB,())),(1000011,g9.own (Ty.d0 true Ty.str) (bs++List.set [[]] (Int.toNat (↑0:Int)) (Prod.fst (Prod.snd (List.getD bB (Int.toNat (0:Int)) ((0:Int),[],()))))))]))))))) (.f7 (List.length bB<=1048576) (.ret (((fD,bB,()),bs,(0:Int),())))))) (.f7 (List.length bB<=1048576) (.ret (((fD,bB,()),bs,(0:Int),())))):=by kernel_rfl
theorem SB {n:Int} {l:List s7}:atF n l<=l.length:=by
  rw [atF]; exact (List.takeWhile_sublist _).length_le
theorem zM.sorted {r:Int} {l:List s7} (h:zM r l):sorted l:=⟨b6Q h.up,λ i hi=>by
  have h1:=Il h.up (Dq (d:=Z2) hi);have h2:=(h.b _ (Dq (d:=Z2) hi)).1;have:=h.rg;omega⟩
theorem b44:GI.Valid Tryz.prog 83:=by
  refine o7.o5 ID rfl rfl Tryz.func83 (c:=d8 Tryz.prog 83) rfl rfl IG rfl ?_;rintro ⟨⟨(r:Int),(l:List s7),⟨⟩⟩,⟨(q:Int),(x:yY),⟨⟩⟩,⟨⟩⟩ - -
  refine j6 (n:=1000) ID IG ?_;refine i6 (Vc r l q x) ?_;have key:∀ {y:ToD×List yY×Int×Unit},D0 (r,l,()) (q,x,())=y->y=D0 (r,l,()) (q,x,()):=λ h=>h.symm;have hd:D0 (r,l,()) (q,x,())=if toE (r,l,())≠0 then (t00,[],toE (r,l,()),()) else if inF q 0 16777214=false then (t00,[],1,()) else if D8 x=true then (t00,[],2,()) else
    if q<r\/r+16<=q\/Y0 q l=true then ((r,l,()),[],0,()) else if r<q then ((r,wt (q,x,()) l,()),[],0,()) else
    (((D6 l (r+1)).1,(D6 l (r+1)).2.1,()),x::(D6 l (r+1)).2.2,0,()):=rfl
  have hw:Ty.wb .str=16:=rfl;simp only [j7,Tree.holds,hw,sL];refine ⟨λ a=>key (by rw [hd,if_pos a]<;>rfl),λ a=>?_⟩;have aM:=Hv.1 (Decidable.not_not.1 a);have lq:=aM.rg;have hlen:=aM.len;rw [if_neg a] at hd;refine ⟨λ c=>key (by rw [hd,if_pos c]<;>rfl),λ c=>?_⟩;have hq:=wU.1 c;rw [if_neg (lnf c)] at hd;refine ⟨λ d=>key (by rw [hd,if_pos d]<;>rfl),λ d=>⟨by omega,λ _=>⟨⟨⟨by omega,aM.sorted⟩,by omega,by omega⟩,λ _=>?_⟩⟩⟩;rw [if_neg (by rw [d]; simp)] at hd;refine ⟨λ e=>key (by rw [hd,if_pos (.inl e)]<;>rfl),λ e=>⟨by omega,λ _=>⟨λ f=>key (by rw [hd,if_pos (.inr (.inl f))]<;>rfl),λ f=>⟨λ g=>key (by rw [hd,if_pos (.inr (.inr g))]<;>rfl),λ g=>?_⟩⟩⟩⟩;rw [if_neg (by rintro (h|h|h); exact e h; exact f h; rw [g] at h; cases h)] at hd;have jA:=SB (n:=q) (l:=l);refine ⟨λ k=>⟨⟨⟨by omega,by omega⟩,by omega,trivial⟩,λ _=>key (by rw [hd,if_pos k]; simp [xX,wt]; rfl)⟩,λ k=>⟨by omega,λ _=>?_⟩⟩;rw [if_neg k] at hd;refine Reach.M9 ID IG (λ s:Int×List s7×List yY=>QJ 0 [] s.1 s.2.1 s.2.2) (λ s=>((D6 s.2.1 s.1).1=(D6 l (r+1)).1/\(D6 s.2.1 s.1).2.1=(D6 l (r+1)).2.1/\s.2.2++(D6 s.2.1 s.1).2.2=x::(D6 l (r+1)).2.2)/\s.2.1.length<=16/\s.2.2.length+s.2.1.length<=17/\0<=s.1/\s.1+s.2.1.length<=20000000)
    (λ s=>s.2.1.length) 1000 (λ _=>⟨u7 rfl,u7 rfl⟩) ?_ (r+1,l,[x]) ⟨⟨rfl,rfl,rfl⟩,hlen,by show 1+l.length<=17; omega,by show 0<=r+1; omega,by show r+1+(l.length:Int)<=20000000; omega⟩
  rintro ⟨n,m,ts⟩ ⟨⟨k1,k2,k3⟩,k4,k5,k6,k7⟩ - ih;have k1:(D6 m n).1=(D6 l (r+1)).1:=k1;have k2:(D6 m n).2.1=(D6 l (r+1)).2.1:=k2;have k3:ts++(D6 m n).2.2=x::(D6 l (r+1)).2.2:=k3;have k4:m.length<=16:=k4;have k5:ts.length+m.length<=17:=k5;have k6:0<=n:=k6;have k7:n+(m.length:Int)<=20000000:=k7;rw [<- k1,<- k2,<- k3] at hd;refine i6 (YC ..) ?_;rw [show ((n,m,ts):Int×List s7×List yY).1=n from rfl,show ((n,m,ts):Int×List s7×List yY).2.1=m from rfl,show ((n,m,ts):Int×List s7×List yY).2.2=ts from rfl];cases m with
  | nil =>
    simp only [j7,Tree.holds,hw,sL];refine ⟨λ c2=>absurd c2 (by simp),λ _=>⟨by omega,λ _=>key ?_⟩⟩;rw [hd,D6,List.append_nil]; rfl
  | cons p m =>
    have g0:List.getD (p::m) (Int.toNat 0) (0,[],())=p:=rfl;have jz:n6 1 ((p::m).length:Int) (p::m)=m:=by
      rw [n6,List.take_of_length_le (by simp)]; rfl
    simp only [List.length_cons] at k4 k5 k7;have jj:D6 (p::m) n=if p.1=n then ((D6 m (n+1)).1,(D6 m (n+1)).2.1,p.2.1::(D6 m (n+1)).2.2) else (n,p::m,[]):=rfl
    simp only [j7,Tree.holds,hw,g0,jz,sL];refine ⟨λ c2=>⟨by omega,λ _=>⟨λ c3=>?_,λ c3=>⟨by omega,λ _=>key ?_⟩⟩⟩,λ c2=>absurd (by omega) c2⟩
    . rw [if_pos c3] at jj;rw [jj] at k1 k2 k3;have next:=ih (n+1,m,ts++[p.2.1]) ⟨⟨k1,k2,by rw [List.append_assoc]; exact k3⟩,by show m.length<=16; omega,by show (ts++[p.2.1]).length+m.length<=17; rw [List.length_append,List.length_singleton]; omega,by show 0<=n+1; omega,by show n+1+(m.length:Int)<=20000000; omega⟩ (by show m.length<(p::m).length; simp)
      have mS:n6 1 ((m.length+1:Nat):Int) (p::m)=m:=jz;rw [mS];exact ⟨by omega,λ _=>⟨⟨by omega,by omega⟩,λ _=>⟨by omega,λ _=>⟨by omega,λ _=>next⟩⟩⟩⟩
    . rw [if_neg c3] at jj;rw [hd,jj,List.append_nil]; rfl
attribute [local irreducible] Go.Ex.exec
abbrev FrD:=Int×List yY×Unit
abbrev n7:=Bool×List C9×FrD×ToD×ToD×Unit
abbrev f8:=vr×List n7×List yY×List yY×Unit
def j5:n7:=(false,[],(0,[],()),(0,[],()),(0,[],()),())
def yP:o7:={ ps:=[.v e8,.v e8,.v e8],rs:=[.bool],pre:=λ _=>True,fn:=λ x=>(I2 x.1 x.2.1 x.2.2.1,()),out:=λ _=>() }
noncomputable def Ek:Env:={ P:=Tryz.prog,tt:=tt,C7:=[],res:=[Go.ResultVar.tmp 6],rs:=[Ty.bool],ps:=[PK.v e8,PK.v e8,PK.v e8],B0:=[],nt:=15 }
theorem Mn:w7 Ek:=x8 p7 trivial
theorem Mw:C2 Ek Tryz.f40:=⟨rfl,rfl⟩
theorem Sm (x0:Int) (x1:Int) (x2:Int):exec Ek 1000 [.code (d8 Tryz.prog 40)] (s9 yP.ps ((x0,x1,x2,()))) =
  cond (decide (x1<=x0)) (.ret ((decide (x0<=x2),()))) (.ret ((false,()))):=by kernel_rfl
theorem DO:yP.Valid Tryz.prog 40:=by
  refine o7.o5 Mn rfl rfl Tryz.func40 (c:=d8 Tryz.prog 40) rfl rfl Mw rfl ?_;rintro ⟨(n:Int),(a:Int),(b:Int),⟨⟩⟩ - -
  refine j6 (n:=1000) Mn Mw ?_;refine i6 (Sm n a b) ?_;simp only [j7,Tree.holds,sL];refine ⟨λ c=>?_,λ c=>?_⟩
  . show ((decide _,()):Bool×Unit)=(I2 n a b,()); rw [I2,decide_eq_true c,Bool.true_and]
  . show ((false,()):Bool×Unit)=(I2 n a b,()); rw [I2,decide_eq_false c,Bool.false_and]
def tz (m:Int):Int:=(((List.range 8).find? (λ i=>decide (m / 2^i % 2=1))).getD 8:Nat)
def ctz:o7:={ ps:=[.v U8],rs:=[e8],pre:=λ _=>True,fn:=λ x=>(tz x.1,()),out:=λ _=>() }
noncomputable def Etz:Env:={ P:=Tryz.prog,tt:=tt,C7:=[],res:=[Go.ResultVar.tmp 2],rs:=[Ty.int IntKind.i64],ps:=[PK.v U8],B0:=[],nt:=6 }
theorem Lf:w7 Etz:=x8 p7 trivial
theorem Lg:C2 Etz Tryz.f78:=⟨rfl,rfl⟩
theorem SE (x0:Int):exec Etz 1000 [.code (d8 Tryz.prog 78)] (s9 ctz.ps ((x0,()))) =
  .f7 ((0:Int)<=x0/\x0<(↑(List.length (Array.toList (ByteArray.data (ByteArray.mk (List.toArray (List.append (List.append ([8,0,1,0,2,0,1,0,3,0,1,0,2,0,1,0,4,0,1,0,2,0,1,0,3,0,1,0,2,0,1,0,5,0,1,0,2,0,1,0,3,0,1,0,2,0,1,0,4,0,1,0,2,0,1,0,3,0,1,0,2,0,1,0]:yY) ([6,0,1,0,2,0,1,0,3,0,1,0,2,0,1,0,4,0,1,0,2,0,1,0,3,0,1,0,2,0,1,0,5,0,1,0,2,0,1,0,3,0,1,0,2,0,1,0,4,0,1,0,2,0,1,0,3,0,1,0,2,0,1,0]:yY)) (List.append ([7,0,1,0,2,0,1,0,3,0,1,0,2,0,1,0,4,0,1,0,2,0,1,0,3,0,1,0,2,0,1,0,5,0,1,0,2,0,1,0,3,0,1,0,2,0,1,0,4,0,1,0,2,0,1,0,3,0,1,0,2,0,1,0]:yY) ([6,0,1,0,2,0,1,0,3,0,1,0,2,0,1,0,4,0,1,0,2,0,1,0,3,0,1,0,2,0,1,0,5,0,1,0,2,0,1,0,3,0,1,0,2,0,1,0,4,0,1,0,2,0,1,0,3,0,1,0,2,0,1,0]:yY)))))))):Int)) (.ret ((IntKind.wrap IntKind.i64 (↑(UInt8.toNat (List.getD (Array.toList (ByteArray.data (ByteArray.mk (List.toArray (List.append (List.append ([8,0,1,0,2,0,1,0,3,0,1,0,2,0,1,0,4,0,1,0,2,0,1,0,3,0,1,0,2,0,1,0,5,0,1,0,2,0,1,0,3,0,1,0,2,0,1,0,4,0,1,0,2,0,1,0,3,0,1,0,2,0,1,0]:yY) ([6,0,1,0,2,0,1,0,3,0,1,0,2,0,1,0,4,0,1,0,2,0,1,0,3,0,1,0,2,0,1,0,5,0,1,0,2,0,1,0,3,0,1,0,2,0,1,0,4,0,1,0,2,0,1,0,3,0,1,0,2,0,1,0]:yY)) (List.append ([7,0,1,0,2,0,1,0,3,0,1,0,2,0,1,0,4,0,1,0,2,0,1,0,3,0,1,0,2,0,1,0,5,0,1,0,2,0,1,0,3,0,1,0,2,0,1,0,4,0,1,0,2,0,1,0,3,0,1,0,2,0,1,0]:yY) ([6,0,1,0,2,0,1,0,3,0,1,0,2,0,1,0,4,0,1,0,2,0,1,0,3,0,1,0,2,0,1,0,5,0,1,0,2,0,1,0,3,0,1,0,2,0,1,0,4,0,1,0,2,0,1,0,3,0,1,0,2,0,1,0]:yY))))))) (Int.toNat x0) (0:UInt8))):Int),()))):=by kernel_rfl
theorem WV:ctz.Valid Tryz.prog 78:=by
  refine o7.o5 Lf rfl rfl Tryz.func78 (c:=d8 Tryz.prog 78) rfl rfl Lg rfl ?_;rintro ⟨(x0:Int),⟨⟩⟩ - ⟨h0,-⟩;refine j6 (n:=1000) Lf Lg ?_;refine i6 (SE x0) ?_;have g0:0<=x0/\x0<=255:=h0;obtain ⟨n,rfl⟩:∃ n:Fin 256,x0=((n.val:Nat):Int):=⟨⟨x0.toNat,by omega⟩,by simp; omega⟩;refine ⟨?_,λ _=>?_⟩
  . clear h0 g0; revert n; decide +kernel
  . show ((_,()):Int×Unit)=(tz n,());clear h0 g0; revert n; decide +kernel
def zk (v:vr):Int×Int×Unit:=if W0 v≠0 then (0,W0 v,()) else (tz v.2.1,0,())
def CF:o7:={ ps:=[.v View],rs:=[e8,e8],pre:=λ _=>True,fn:=λ x=>zk x.1,out:=λ _=>() }
noncomputable def Ga:Env:={ P:=Tryz.prog,tt:=tt,C7:=[(70,AH),(78,ctz)],res:=[Go.ResultVar.tmp 2,Go.ResultVar.tmp 3],rs:=[Ty.int IntKind.i64,Ty.int IntKind.i64],ps:=[PK.v View],B0:=[],nt:=13 }
theorem OJ:w7 Ga:=x8 p7 ⟨RZ,WV,trivial⟩
theorem OZ:C2 Ga Tryz.f61:=⟨rfl,rfl⟩
theorem Vy (aO:Int) (ab:Int):exec Ga 1000 [.code (d8 Tryz.prog 61)] (s9 CF.ps (((aO,ab,()),()))) =
  .f7 (True) (cond (decide (W0 (aO,ab,())≠(0:Int))) (.ret (((0:Int),W0 (aO,ab,()),()))) (.f7 (True) (.ret ((tz ab,(0:Int),()))))):=by kernel_rfl
theorem b5b:CF.Valid Tryz.prog 61:=by
  refine o7.o5 OJ rfl rfl Tryz.func61 (c:=d8 Tryz.prog 61) rfl rfl OZ rfl ?_;rintro ⟨⟨(x0:Int),(x1:Int),⟨⟩⟩,⟨⟩⟩ - -
  refine j6 (n:=1000) OJ OZ ?_;refine i6 (Vy x0 x1) ?_;simp only [j7,Tree.holds,sL];have key:∀ r:Int×Int×Unit,zk (x0,x1,())=r->((r:DL [Ty.int .i64,Ty.int .i64])=CF.fn ((x0,x1,()),())):=by rintro r rfl; rfl
  refine ⟨λ a=>key _ ?_,λ a=>key _ ?_⟩
  . rw [zk,if_pos a]; rfl
  . rw [zk,if_neg a]; rfl
def s5 (w:f8) (p:Int):Bool:=I2 p 0 ((w.2.1.length:Int) - 1) && decide (T5 .u8 (w.1.2.1 / (2:Int)^min p.toNat IntKind.u8.bits) 1=1) && !(w.2.1.getD p.toNat j5).1
def xV:o7:={ ps:=[.rd H5,.v e8],rs:=[.bool],pre:=λ x=>List.length (α:=n7) (x.1:f8).2.1<=6,fn:=λ x=>(s5 x.1 x.2.1,()),out:=λ _=>() }
noncomputable def EM:Env:={ P:=Tryz.prog,tt:=tt,C7:=[(40,yP)],res:=[Go.ResultVar.tmp 4],rs:=[Ty.bool],ps:=[PK.rd H5,PK.v e8],B0:=[],nt:=35 }
theorem Na:w7 EM:=x8 p7 ⟨DO,trivial⟩
theorem Nv:C2 EM Tryz.f47:=⟨rfl,rfl⟩
theorem TZ (aj:Int) (af:Int) (ab:List n7) (ae:List yY) (aa:List yY) (x1:Int):exec EM 1000 [.code (d8 Tryz.prog 47)] (s9 xV.ps ((((aj,af,()),ab,ae,aa,()),x1,()))) =
  .f7 (r9 IntKind.i64 ((↑(List.length ab):Int) - (1:Int))) (.f7 (True) (cond (I2 x1 (0:Int) ((↑(List.length ab):Int) - (1:Int))) (.f7 ((0:Int)<=x1) (cond (decide (T5 IntKind.u8 (af / (2:Int)^min (Int.toNat x1) (IntKind.bits IntKind.u8)) (1:Int)=(1:Int))) (.f7 ((0:Int)<=x1/\x1<(↑(List.length ab):Int)) (.ret ((!Prod.fst (List.getD ab (Int.toNat x1) (false,[],((0:Int),[],()),((0:Int),[],()),((0:Int),[],()),())),())))) (.ret ((false,()))))) (.ret ((false,()))))):=by kernel_rfl
theorem BC:xV.Valid Tryz.prog 47:=by
  refine o7.o5 Na rfl rfl Tryz.func47 (c:=d8 Tryz.prog 47) rfl rfl Nv rfl ?_;rintro ⟨⟨⟨(v0:Int),(v1:Int),⟨⟩⟩,(al:List n7),(od:List yY),(wy:List yY),⟨⟩⟩,(p:Int),⟨⟩⟩ (hp:al.length<=6) -
  refine j6 (n:=1000) Na Nv ?_;refine i6 (TZ v0 v1 al od wy p) ?_;simp only [j7,Tree.holds,sL];have key:∀ r:Bool,s5 ((v0,v1,()),al,od,wy,()) p=r->(((r,()):Bool×Unit)=(s5 ((v0,v1,()),al,od,wy,()) p,())):=by rintro r rfl; rfl
  refine ⟨⟨by omega,by omega⟩,λ _=>⟨λ a=>⟨(U1.1 a).1,λ _=>⟨λ b=>⟨⟨(U1.1 a).1,by have:=(U1.1 a).2; show p<(al.length:Int); omega⟩,λ _=>key _ ?_⟩,λ b=>key _ ?_⟩⟩,λ a=>key _ ?_⟩⟩
  . show (I2 p 0 ((al.length:Int) - 1) && _ && _)=_;rw [a,Bool.true_and];exact congrArg (· && _) (decide_eq_true b)
  . show (I2 p 0 ((al.length:Int) - 1) && decide _ && _)=_;rw [a,Bool.true_and,decide_eq_false b]; rfl
  . show (I2 p 0 ((al.length:Int) - 1) && _ && _)=_;rw [a]; rfl
def known (w:f8) (p:Int):Int:=if I2 p 0 ((w.2.1.length:Int) - 1)=true then 0 else 1
def ze:o7:={ ps:=[.rd H5,.v e8],rs:=[e8],pre:=λ x=>List.length (α:=n7) (x.1:f8).2.1<=6,fn:=λ x=>(known x.1 x.2.1,()),out:=λ _=>() }
noncomputable def Hf:Env:={ P:=Tryz.prog,tt:=tt,C7:=[(40,yP)],res:=[Go.ResultVar.tmp 4],rs:=[Ty.int IntKind.i64],ps:=[PK.rd H5,PK.v e8],B0:=[],nt:=14 }
theorem QG:w7 Hf:=x8 p7 ⟨DO,trivial⟩
theorem Qp:C2 Hf Tryz.f49:=⟨rfl,rfl⟩
theorem Wk (aj:Int) (af:Int) (ab:List n7) (ae:List yY) (aa:List yY) (x1:Int):exec Hf 1000 [.code (d8 Tryz.prog 49)] (s9 ze.ps ((((aj,af,()),ab,ae,aa,()),x1,()))) =
  .f7 (r9 IntKind.i64 ((↑(List.length ab):Int) - (1:Int))) (.f7 (True) (cond (!I2 x1 (0:Int) ((↑(List.length ab):Int) - (1:Int))) (.ret (((1:Int),()))) (.ret (((0:Int),()))))):=by kernel_rfl
theorem a12:ze.Valid Tryz.prog 49:=by
  refine o7.o5 QG rfl rfl Tryz.func49 (c:=d8 Tryz.prog 49) rfl rfl Qp rfl ?_;rintro ⟨⟨⟨(v0:Int),(v1:Int),⟨⟩⟩,(al:List n7),(od:List yY),(wy:List yY),⟨⟩⟩,(p:Int),⟨⟩⟩ (hp:al.length<=6) -
  refine j6 (n:=1000) QG Qp ?_;refine i6 (Wk v0 v1 al od wy p) ?_;simp only [j7,Tree.holds,sL];have key:∀ r:Int,known ((v0,v1,()),al,od,wy,()) p=r->(((r,()):Int×Unit)=(known ((v0,v1,()),al,od,wy,()) p,())):=by rintro r rfl; rfl
  refine ⟨⟨by omega,by omega⟩,λ _=>⟨λ a=>key _ ?_,λ a=>key _ ?_⟩⟩
  . exact if_neg (by simpa using a)
  . exact if_pos (by simpa using a)
def K7 (w:f8) (p:Int):Int:=if known w p≠0 then known w p else if s5 w p=true then 0 else 11
def Cj:o7:={ ps:=[.rd H5,.v e8],rs:=[e8],pre:=λ x=>List.length (α:=n7) (x.1:f8).2.1<=6,fn:=λ x=>(K7 x.1 x.2.1,()),out:=λ _=>() }
noncomputable def Gh:Env:={ P:=Tryz.prog,tt:=tt,C7:=[(49,ze),(47,xV)],res:=[Go.ResultVar.tmp 4],rs:=[Ty.int IntKind.i64],ps:=[PK.rd H5,PK.v e8],B0:=[],nt:=16 }
theorem OQ:w7 Gh:=x8 p7 ⟨a12,BC,trivial⟩
theorem PC:C2 Gh Tryz.f41:=⟨rfl,rfl⟩
theorem VJ (aj:Int) (af:Int) (ab:List n7) (ae:List yY) (aa:List yY) (x1:Int):exec Gh 1000 [.code (d8 Tryz.prog 41)] (s9 Cj.ps ((((aj,af,()),ab,ae,aa,()),x1,()))) =
  .f7 (List.length ab<=6) (cond (decide (known ((aj,af,()),ab,ae,aa,()) x1≠(0:Int))) (.ret ((known ((aj,af,()),ab,ae,aa,()) x1,()))) (.f7 (List.length ab<=6) (cond (!s5 ((aj,af,()),ab,ae,aa,()) x1) (.ret (((11:Int),()))) (.ret (((0:Int),())))))):=by kernel_rfl
theorem Rz:Cj.Valid Tryz.prog 41:=by
  refine o7.o5 OQ rfl rfl Tryz.func41 (c:=d8 Tryz.prog 41) rfl rfl PC rfl ?_;rintro ⟨⟨⟨(v0:Int),(v1:Int),⟨⟩⟩,(al:List n7),(od:List yY),(wy:List yY),⟨⟩⟩,(p:Int),⟨⟩⟩ (hp:al.length<=6) -
  refine j6 (n:=1000) OQ PC ?_;refine i6 (VJ v0 v1 al od wy p) ?_;simp only [j7,Tree.holds,sL];have key:∀ r:Int,K7 ((v0,v1,()),al,od,wy,()) p=r->(((r,()):Int×Unit)=(K7 ((v0,v1,()),al,od,wy,()) p,())):=by rintro r rfl; rfl
  refine ⟨hp,λ _=>⟨λ a=>key _ ?_,λ a=>⟨hp,λ _=>⟨λ b=>key _ ?_,λ b=>key _ ?_⟩⟩⟩⟩
  . exact if_pos a
  . rw [K7,if_neg (by simpa using a),if_neg (by simpa using b)]
  . rw [K7,if_neg (by simpa using a),if_pos (by simpa using b)]
def K8 (w:f8):Int:=(zk w.1).1
def yQ:o7:={ ps:=[.rd H5],rs:=[e8],pre:=λ _=>True,fn:=λ x=>(K8 x.1,()),out:=λ _=>() }
noncomputable def Ft:Env:={ P:=Tryz.prog,tt:=tt,C7:=[(61,CF)],res:=[Go.ResultVar.tmp 2],rs:=[Ty.int IntKind.i64],ps:=[PK.rd H5],B0:=[],nt:=14 }
theorem Nf:w7 Ft:=x8 p7 ⟨b5b,trivial⟩
theorem Nz:C2 Ft Tryz.f44:=⟨rfl,rfl⟩
theorem Tg (aj:Int) (af:Int) (ab:List n7) (ae:List yY) (aa:List yY):exec Ft 1000 [.code (d8 Tryz.prog 44)] (s9 yQ.ps ((((aj,af,()),ab,ae,aa,()),()))) =
  .f7 (True) (.ret ((Prod.fst (zk (aj,af,())),()))):=by kernel_rfl
theorem DP:yQ.Valid Tryz.prog 44:=by
  refine o7.o5 Nf rfl rfl Tryz.func44 (c:=d8 Tryz.prog 44) rfl rfl Nz rfl ?_;rintro ⟨⟨⟨(v0:Int),(v1:Int),⟨⟩⟩,(al:List n7),(od:List yY),(wy:List yY),⟨⟩⟩,⟨⟩⟩ - -
  refine j6 (n:=1000) Nf Nz ?_;refine i6 (Tg v0 v1 al od wy) ?_;exact ⟨trivial,λ _=>rfl⟩
def L7 (w:f8) (k f t s:Int) (x:yY):f8 :=
  let r:=S5 (k,f,t,w.1.1,s,[0,0,0,0,0,0],x,())
  if r.2.1=0/\(w.2.2.2.1.length:Int)<60 then (w.1,w.2.1,w.2.2.1,w.2.2.2.1++[r.1],()) else w
theorem Jd {w:f8} {k f t s:Int} {x:yY} (h:(S5 (k,f,t,w.1.1,s,[0,0,0,0,0,0],x,())).2.1=0) (h2:(w.2.2.2.1.length:Int)<60) :
    L7 w k f t s x=(w.1,w.2.1,w.2.2.1,w.2.2.2.1++[(S5 (k,f,t,w.1.1,s,[0,0,0,0,0,0],x,())).1],()):=by
  unfold L7; exact if_pos ⟨h,h2⟩
theorem DB {w:f8} {k f t s:Int} {x:yY} (h:¬ ((S5 (k,f,t,w.1.1,s,[0,0,0,0,0,0],x,())).2.1=0/\(w.2.2.2.1.length:Int)<60)) :
    L7 w k f t s x=w:=by
  unfold L7; exact if_neg h
def za:o7:={ ps:=[.rw s6,.v e8,.v e8,.v e8,.v e8,.v .str],rs:=[],pre:=λ _=>True,fn:=λ _=>(),out:=λ x=>(L7 x.1 x.2.1 x.2.2.1 x.2.2.2.1 x.2.2.2.2.1 x.2.2.2.2.2.1,()) }
noncomputable def Gf:Env:={ P:=Tryz.prog,tt:=tt,C7:=[(60,FN)],res:=[],rs:=[],ps:=[PK.rw s6,PK.v e8,PK.v e8,PK.v e8,PK.v e8,PK.v Ty.str],B0:=[],nt:=49 }
theorem OO:w7 Gf:=x8 p7 ⟨b7d,trivial⟩
theorem PA:C2 Gf Tryz.f43:=⟨rfl,rfl⟩
theorem VF (aj:Int) (af:Int) (ab:List n7) (ae:List yY) (aa:List yY) (x1:Int) (x2:Int) (x3:Int) (x4:Int) (x5:yY):exec Gf 1000 [.code (d8 Tryz.prog 43)] (s9 za.ps ((((aj,af,()),ab,ae,aa,()),x1,x2,x3,x4,x5,()))) =
  .f7 (True) (cond (decide (Prod.fst (Prod.snd (S5 (x1,x2,x3,aj,x4,[(0:Int),(0:Int),(0:Int),(0:Int),(0:Int),(0:Int)],x5,())))=(0:Int))) (cond (decide ((↑(List.length aa):Int)<(60:Int))) (.f7 (True/\True/\[]++[Step.l6 3]=[]++[Step.l6 3]/\List.length aa+List.length (List.set [[]] (Int.toNat (↑0:Int)) (Prod.fst (S5 (x1,x2,x3,aj,x4,[(0:Int),(0:Int),(0:Int),(0:Int),(0:Int),(0:Int)],x5,()))))<=140737488355328/\(List.length aa+List.length (List.set [[]] (Int.toNat (↑0:Int)) (Prod.fst (S5 (x1,x2,x3,aj,x4,[(0:Int),(0:Int),(0:Int),(0:Int),(0:Int),(0:Int)],x5,())))))*Ty.wb Ty.str<=140737488355328) (.ret ((((aj,af,()),ab,ae,aa++List.set [[]] (Int.toNat (↑0:Int)) (Prod.fst (S5 (x1,x2,x3,aj,x4,[(0:Int),(0:Int),(0:Int),(0:Int),(0:Int),(0:Int)],x5,()))),()),())))) (.ret ((((aj,af,()),ab,ae,aa,()),())))) (.ret ((((aj,af,()),ab,ae,aa,()),())))):=by kernel_rfl
attribute [local irreducible] S5 L7 in
theorem DV:za.Valid Tryz.prog 43:=by
  refine o7.o5 OO rfl rfl Tryz.func43 (c:=d8 Tryz.prog 43) rfl rfl PA rfl ?_;rintro ⟨⟨⟨(v0:Int),(v1:Int),⟨⟩⟩,(al:List n7),(od:List yY),(wy:List yY),⟨⟩⟩,(k:Int),(f:Int),(t:Int),(s:Int),(x:yY),⟨⟩⟩ - -
  refine j6 (n:=1000) OO PA ?_;refine i6 (VF v0 v1 al od wy k f t s x) ?_;simp only [j7,Tree.holds,sL];have key:∀ r:f8,L7 ((v0,v1,()),al,od,wy,()) k f t s x=r->(((r,()):f8×Unit)=(L7 ((v0,v1,()),al,od,wy,()) k f t s x,())):=by rintro r rfl; rfl
  refine ⟨λ a=>⟨λ b=>⟨?_,λ _=>key _ ?_⟩,λ b=>key _ ?_⟩,λ a=>key _ ?_⟩
  . have b':wy.length<60:=by exact_mod_cast b
    refine ⟨?_,?_⟩
    . show wy.length+1<=140737488355328; omega
    . show (wy.length+1)*16<=140737488355328; omega
  . exact Jd a b
  . exact DB (λ h=>b h.2)
  . exact DB (λ h=>a h.1)
def vw (w:f8) (p:Int):f8×Int :=
  if known w p≠0 then (w,known w p) else ((w.1,w.2.1.set p.toNat (true,(w.2.1.getD p.toNat j5).2),w.2.2),0)
def ET:o7:={ ps:=[.rw s6,.v e8],rs:=[e8],pre:=λ x=>List.length (α:=n7) (x.1:f8).2.1<=6,fn:=λ x=>((vw x.1 x.2.1).2,()),out:=λ x=>((vw x.1 x.2.1).1,()) }
noncomputable def Gd:Env:={ P:=Tryz.prog,tt:=tt,C7:=[(49,ze)],res:=[Go.ResultVar.tmp 4],rs:=[Ty.int IntKind.i64],ps:=[PK.rw s6,PK.v e8],B0:=[],nt:=19 }
theorem OM:w7 Gd:=x8 p7 ⟨a12,trivial⟩
theorem PZ:C2 Gd Tryz.f37:=⟨rfl,rfl⟩
theorem VC (aj:Int) (af:Int) (ab:List n7) (ae:List yY) (aa:List yY) (x1:Int):exec Gd 1000 [.code (d8 Tryz.prog 37)] (s9 ET.ps ((((aj,af,()),ab,ae,aa,()),x1,()))) =
  .f7 (List.length ab<=6) (cond (decide (known ((aj,af,()),ab,ae,aa,()) x1≠(0:Int))) (.ret ((known ((aj,af,()),ab,ae,aa,()) x1,((aj,af,()),ab,ae,aa,()),()))) (.f7 ((0:Int)<=x1/\x1<(↑(List.length ab):Int)) (.ret (((0:Int),((aj,af,()),List.set ab (Int.toNat x1) (true,Prod.snd (List.getD ab (Int.toNat x1) (false,[],((0:Int),[],()),((0:Int),[],()),((0:Int),[],()),()))),ae,aa,()),()))))):=by kernel_rfl
theorem ZM:ET.Valid Tryz.prog 37:=by
  refine o7.o5 OM rfl rfl Tryz.func37 (c:=d8 Tryz.prog 37) rfl rfl PZ rfl ?_;rintro ⟨⟨⟨(v0:Int),(v1:Int),⟨⟩⟩,(al:List n7),(od:List yY),(wy:List yY),⟨⟩⟩,(p:Int),⟨⟩⟩ (hp:al.length<=6) -
  refine j6 (n:=1000) OM PZ ?_;refine i6 (VC v0 v1 al od wy p) ?_;simp only [j7,Tree.holds,sL];have key:∀ r:f8×Int,vw ((v0,v1,()),al,od,wy,()) p=r->(((r.2,r.1,()):Int×f8×Unit)=((vw ((v0,v1,()),al,od,wy,()) p).2,(vw ((v0,v1,()),al,od,wy,()) p).1,())):=by rintro r rfl; rfl
  have dv:¬ known ((v0,v1,()),al,od,wy,()) p≠0->0<=p/\p<(al.length:Int):=by
    intro a;unfold known at a;split at a
    . rename_i hb;have:=U1.1 hb;simp only at this; omega
    . exact absurd (by decide) a
  refine ⟨hp,λ _=>⟨λ a=>key (_,_) ?_,λ a=>⟨dv a,λ _=>key (_,_) ?_⟩⟩⟩
  . rw [vw,if_pos a]; rfl
  . rw [vw,if_neg a]; rfl
def ttW:List (TypeId×TI):=(78,TI.mk P0 32)::(83,TI.mk ToT 32)::tt
theorem Lr:ttW.all (wI Tryz.prog)=true:=by kernel_rfl
def Kv:o7:={ ps:=[.v P0,.v .str],rs:=[P0,e8],new:=true,pre:=Fa.pre,fn:=λ x=>P7 x.1 x.2.1,out:=λ _=>() }
theorem Zt:Kv.Valid Tryz.prog 42:=ZV.share (rs':=[P0,e8]) rfl rfl rfl
def KY:o7:={ ps:=[.v P0,.v e8],rs:=[P0,e8],new:=true,pre:=Hp.pre,fn:=λ x=>Q4 x.1 x.2.1,out:=λ _=>() }
theorem b49:KY.Valid Tryz.prog 86:=b3L.share (rs':=[P0,e8]) rfl rfl rfl
def FC:o7:={ ps:=[.v ToT,.v r7],rs:=[ToT,.d0 true .str,e8],new:=true,pre:=GI.pre,fn:=λ x=>D0 x.1 x.2.1,out:=λ _=>() }
theorem Ry:FC.Valid Tryz.prog 83:=b44.share (rs':=[ToT,.d0 true .str,e8]) rfl rfl rfl
end Go.Proofs.YtijlnmgondibnaaGreatDoor
