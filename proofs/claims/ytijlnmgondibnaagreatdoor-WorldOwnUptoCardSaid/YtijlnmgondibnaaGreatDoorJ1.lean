import Derived.Test.YtijlnmgondibnaaGreatDoorProg
import Derived.Test.YtijlnmgondibnaaGreatDoorExW
import Derived.Test.YtijlnmgondibnaaGreatDoorRows
import Derived.Lib.LaidU8
import Derived.LaidMore
import Derived.LaidSub
import Derived.Shelf.Vars
import Derived.JoinedCond
import Derived.WalkKit
import Derived.Lib.Walk
import Derived.Shelf.RegionOpenPlain
import Derived.Lib.SliceRun
import Derived.Lib.Overlaps
import Derived.Lib.AppendZerosOnto
import Derived.Laws.Externs
import Derived.Laws.IdiomCopy
import Derived.Laws.NewBlocks
set_option linter.unusedVariables false
set_option linter.unusedSimpArgs false
set_option linter.unusedSectionVars false
namespace Go.Proofs.YtijlnmgondibnaaGreatDoor
open Go.Ex
set_option maxRecDepth 100000
abbrev e8:Ty:=.int .i64
abbrev U8:Ty:=.int .u8
abbrev Is:Ty:=.d0 true e8
abbrev Y4:Ty:=.arr 6 e8
abbrev MG:Ty:=.pair e8 (.pair e8 .unit)
abbrev vv:Ty:=.arr 10 e8
abbrev View:Ty:=.pair e8 (.pair U8 .unit)
abbrev r8:Ty:=.pair e8 (.pair .str .unit)
abbrev ToT:Ty:=.pair e8 (.pair (.d0 false r8) .unit)
abbrev ToO:Ty:=.pair e8 (.pair (.d0 true r8) .unit)
abbrev Q4:Ty:=.pair e8 (.pair (.d0 false .str) .unit)
abbrev ME:Ty:=.pair e8 (.pair (.d0 true .str) .unit)
abbrev zG:Ty:=.pair e8 (.pair e8 (.pair e8 (.pair e8 (.pair e8 (.pair Y4 (.pair .str .unit))))))
abbrev xn:Ty:=.pair .bool (.pair (.d0 true r8) (.pair Q4 (.pair ToT (.pair ToT .unit))))
abbrev w5:Ty:=.pair View (.pair (.d0 true xn) (.pair (.d0 true .str) (.pair (.d0 true .str) .unit)))
abbrev Va:Ty:=.pair .bool (.pair (.d0 false r8) (.pair Q4 (.pair ToT (.pair ToT .unit))))
abbrev K7:Ty:=.pair View (.pair (.d0 false Va) (.pair (.d0 false .str) (.pair (.d0 false .str) .unit)))
abbrev vJ:Ty:=.pair e8 (.pair e8 (.pair e8 (.pair .str .unit)))
abbrev L8:Ty:=.d0 false r8
abbrev Y7:Ty:=.pair .bool (.pair (.B8 r8) (.pair Q4 (.pair ToT (.pair ToT .unit))))
abbrev Z9:Ty:=.pair View (.pair (.d0 true Y7) (.pair (.d0 true .str) (.pair (.d0 true .str) .unit)))
def tt:List (TypeId×TI):=[(2,TI.mk (Ty.int IntKind.i64) 8),(3,TI.mk (Ty.int IntKind.i64) 8),(4,TI.mk Ty.bool 1),(5,TI.mk (Ty.int IntKind.u8) 1),(6,TI.mk (Ty.int IntKind.u8) 1),(7,TI.mk (Ty.pair (Ty.int IntKind.i64) (Ty.pair (Ty.int IntKind.i64) (Ty.pair Ty.bool (Ty.pair (Ty.int IntKind.u8) Ty.unit)))) 24),(8,TI.mk (Ty.pair (Ty.int IntKind.i64) (Ty.pair (Ty.int IntKind.i64) (Ty.pair Ty.bool (Ty.pair (Ty.int IntKind.u8) Ty.unit)))) 24),(9,TI.mk Ty.str 16),(10,TI.mk Ty.str 16),(11,TI.mk Ty.str 16),(12,TI.mk (Ty.int IntKind.u64) 8),(13,TI.mk (Ty.pair Ty.str (Ty.pair (Ty.int IntKind.u64) Ty.unit)) 24),(14,TI.mk (Ty.pair Ty.str (Ty.pair (Ty.int IntKind.u64) Ty.unit)) 24),(21,TI.mk (Ty.int IntKind.i32) 4),(22,TI.mk (Ty.d0 true Ty.str) 24),(26,TI.mk (Ty.int IntKind.i64) 8),(33,TI.mk (Ty.d0 true (Ty.pair (Ty.int IntKind.i64) (Ty.pair Ty.str Ty.unit))) 24),(39,TI.mk (Ty.pair (Ty.int IntKind.i64) (Ty.pair Ty.str Ty.unit)) 24),(40,TI.mk (Ty.pair (Ty.int IntKind.i64) (Ty.pair Ty.str Ty.unit)) 24),(43,TI.mk (Ty.d0 true (Ty.pair (Ty.int IntKind.i64) (Ty.pair (Ty.int IntKind.i64) (Ty.pair (Ty.int IntKind.i64) (Ty.pair Ty.str Ty.unit))))) 24),(44,TI.mk (Ty.d0 true (Ty.d0 true Ty.str)) 24),(45,TI.mk (Ty.d0 true (Ty.int IntKind.i64)) 24),(53,TI.mk (Ty.arr 6 (Ty.d0 true Ty.str)) 144),(55,TI.mk (Ty.map true (Ty.int IntKind.i64) (Ty.int IntKind.i64)) 8),(56,TI.mk (Ty.pair (Ty.int IntKind.i64) (Ty.pair (Ty.int IntKind.u8) Ty.unit)) 16),(57,TI.mk (Ty.pair (Ty.int IntKind.i64) (Ty.pair (Ty.int IntKind.u8) Ty.unit)) 16),(59,TI.mk (Ty.arr 10 (Ty.int IntKind.i64)) 80),(60,TI.mk (Ty.arr 10 (Ty.int IntKind.i64)) 80),(68,TI.mk (Ty.d0 true (Ty.d0 true (Ty.pair (Ty.int IntKind.i64) (Ty.pair Ty.str Ty.unit)))) 24),(69,TI.mk (Ty.pair (Ty.int IntKind.i64) (Ty.pair (Ty.int IntKind.i64) (Ty.pair (Ty.int IntKind.i64) (Ty.pair Ty.str Ty.unit)))) 40),(70,TI.mk (Ty.pair (Ty.int IntKind.i64) (Ty.pair (Ty.int IntKind.i64) (Ty.pair (Ty.int IntKind.i64) (Ty.pair Ty.str Ty.unit)))) 40),(74,TI.mk (Ty.d0 true (Ty.pair Ty.bool (Ty.pair (Ty.d0 true (Ty.pair (Ty.int IntKind.i64) (Ty.pair Ty.str Ty.unit))) (Ty.pair (Ty.pair (Ty.int IntKind.i64) (Ty.pair (Ty.d0 true Ty.str) Ty.unit)) (Ty.pair (Ty.pair (Ty.int IntKind.i64) (Ty.pair (Ty.d0 true (Ty.pair (Ty.int IntKind.i64) (Ty.pair Ty.str Ty.unit))) Ty.unit)) (Ty.pair (Ty.pair (Ty.int IntKind.i64) (Ty.pair (Ty.d0 true (Ty.pair (Ty.int IntKind.i64) (Ty.pair Ty.str Ty.unit))) Ty.unit)) Ty.unit)))))) 24),(75,TI.mk (Ty.pair (Ty.pair (Ty.int IntKind.i64) (Ty.pair (Ty.int IntKind.u8) Ty.unit)) (Ty.pair (Ty.d0 true (Ty.pair Ty.bool (Ty.pair (Ty.d0 true (Ty.pair (Ty.int IntKind.i64) (Ty.pair Ty.str Ty.unit))) (Ty.pair (Ty.pair (Ty.int IntKind.i64) (Ty.pair (Ty.d0 true Ty.str) Ty.unit)) (Ty.pair (Ty.pair (Ty.int IntKind.i64) (Ty.pair (Ty.d0 true (Ty.pair (Ty.int IntKind.i64) (Ty.pair Ty.str Ty.unit))) Ty.unit)) (Ty.pair (Ty.pair (Ty.int IntKind.i64) (Ty.pair (Ty.d0 true (Ty.pair (Ty.int IntKind.i64) (Ty.pair Ty.str Ty.unit))) Ty.unit)) Ty.unit)))))) (Ty.pair (Ty.d0 true Ty.str) (Ty.pair (Ty.d0 true Ty.str) Ty.unit)))) 88),(76,TI.mk (Ty.pair (Ty.pair (Ty.int IntKind.i64) (Ty.pair (Ty.int IntKind.u8) Ty.unit)) (Ty.pair (Ty.d0 true (Ty.pair Ty.bool (Ty.pair (Ty.d0 true (Ty.pair (Ty.int IntKind.i64) (Ty.pair Ty.str Ty.unit))) (Ty.pair (Ty.pair (Ty.int IntKind.i64) (Ty.pair (Ty.d0 true Ty.str) Ty.unit)) (Ty.pair (Ty.pair (Ty.int IntKind.i64) (Ty.pair (Ty.d0 true (Ty.pair (Ty.int IntKind.i64) (Ty.pair Ty.str Ty.unit))) Ty.unit)) (Ty.pair (Ty.pair (Ty.int IntKind.i64) (Ty.pair (Ty.d0 true (Ty.pair (Ty.int IntKind.i64) (Ty.pair Ty.str Ty.unit))) Ty.unit)) Ty.unit)))))) (Ty.pair (Ty.d0 true Ty.str) (Ty.pair (Ty.d0 true Ty.str) Ty.unit)))) 88),(77,TI.mk (Ty.pair (Ty.int IntKind.i64) (Ty.pair (Ty.d0 true Ty.str) Ty.unit)) 32),(78,TI.mk (Ty.pair (Ty.int IntKind.i64) (Ty.pair (Ty.d0 true Ty.str) Ty.unit)) 32),(81,TI.mk (Ty.d0 true (Ty.pair (Ty.int IntKind.i64) (Ty.pair Ty.str Ty.unit))) 24),(82,TI.mk (Ty.pair (Ty.int IntKind.i64) (Ty.pair (Ty.d0 true (Ty.pair (Ty.int IntKind.i64) (Ty.pair Ty.str Ty.unit))) Ty.unit)) 32),(83,TI.mk (Ty.pair (Ty.int IntKind.i64) (Ty.pair (Ty.d0 true (Ty.pair (Ty.int IntKind.i64) (Ty.pair Ty.str Ty.unit))) Ty.unit)) 32),(84,TI.mk (Ty.pair Ty.bool (Ty.pair (Ty.d0 true (Ty.pair (Ty.int IntKind.i64) (Ty.pair Ty.str Ty.unit))) (Ty.pair (Ty.pair (Ty.int IntKind.i64) (Ty.pair (Ty.d0 true Ty.str) Ty.unit)) (Ty.pair (Ty.pair (Ty.int IntKind.i64) (Ty.pair (Ty.d0 true (Ty.pair (Ty.int IntKind.i64) (Ty.pair Ty.str Ty.unit))) Ty.unit)) (Ty.pair (Ty.pair (Ty.int IntKind.i64) (Ty.pair (Ty.d0 true (Ty.pair (Ty.int IntKind.i64) (Ty.pair Ty.str Ty.unit))) Ty.unit)) Ty.unit))))) 128),(85,TI.mk (Ty.pair Ty.bool (Ty.pair (Ty.d0 true (Ty.pair (Ty.int IntKind.i64) (Ty.pair Ty.str Ty.unit))) (Ty.pair (Ty.pair (Ty.int IntKind.i64) (Ty.pair (Ty.d0 true Ty.str) Ty.unit)) (Ty.pair (Ty.pair (Ty.int IntKind.i64) (Ty.pair (Ty.d0 true (Ty.pair (Ty.int IntKind.i64) (Ty.pair Ty.str Ty.unit))) Ty.unit)) (Ty.pair (Ty.pair (Ty.int IntKind.i64) (Ty.pair (Ty.d0 true (Ty.pair (Ty.int IntKind.i64) (Ty.pair Ty.str Ty.unit))) Ty.unit)) Ty.unit))))) 128),(88,TI.mk (Ty.arr 6 (Ty.int IntKind.i64)) 48),(89,TI.mk (Ty.arr 6 (Ty.int IntKind.i64)) 48),(90,TI.mk (Ty.pair (Ty.int IntKind.i64) (Ty.pair (Ty.int IntKind.i64) (Ty.pair (Ty.int IntKind.i64) (Ty.pair (Ty.int IntKind.i64) (Ty.pair (Ty.int IntKind.i64) (Ty.pair (Ty.arr 6 (Ty.int IntKind.i64)) (Ty.pair Ty.str Ty.unit))))))) 104),(91,TI.mk (Ty.pair (Ty.int IntKind.i64) (Ty.pair (Ty.int IntKind.i64) (Ty.pair (Ty.int IntKind.i64) (Ty.pair (Ty.int IntKind.i64) (Ty.pair (Ty.int IntKind.i64) (Ty.pair (Ty.arr 6 (Ty.int IntKind.i64)) (Ty.pair Ty.str Ty.unit))))))) 104),(103,TI.mk (Ty.pair (Ty.int IntKind.i64) (Ty.pair Ty.str Ty.unit)) 24),(104,TI.mk (Ty.pair (Ty.int IntKind.i64) (Ty.pair Ty.str Ty.unit)) 24),(115,TI.mk (Ty.d0 true (Ty.int IntKind.u8)) 24),(117,TI.mk (Ty.int IntKind.u32) 4),(119,TI.mk (Ty.int IntKind.u64) 8),(125,TI.mk (Ty.pair (Ty.int IntKind.i64) (Ty.pair (Ty.int IntKind.i64) (Ty.pair (Ty.int IntKind.i64) Ty.unit))) 24),(126,TI.mk (Ty.pair (Ty.int IntKind.i64) (Ty.pair (Ty.int IntKind.i64) (Ty.pair (Ty.int IntKind.i64) Ty.unit))) 24),(158,TI.mk (Ty.arr 24 (Ty.int IntKind.u8)) 24),(159,TI.mk (Ty.int IntKind.u64) 8),(169,TI.mk (Ty.int IntKind.i64) 8),(176,TI.mk (Ty.arr 20 (Ty.int IntKind.u64)) 160),(177,TI.mk (Ty.arr 65 (Ty.int IntKind.u8)) 65),(181,TI.mk (Ty.arr 256 Ty.bool) 256),(182,TI.mk (Ty.arr 256 Ty.bool) 256),(206,TI.mk (Ty.pair Ty.str Ty.unit) 16),(207,TI.mk (Ty.pair Ty.str Ty.unit) 16),(208,TI.mk (Ty.arr 32 (Ty.int IntKind.u8)) 32),(209,TI.mk (Ty.arr 64 (Ty.int IntKind.u8)) 64),(211,TI.mk (Ty.arr 256 (Ty.int IntKind.u8)) 256),(212,TI.mk (Ty.pair (Ty.int IntKind.u8) (Ty.pair (Ty.int IntKind.u8) Ty.unit)) 2),(213,TI.mk (Ty.pair (Ty.int IntKind.u8) (Ty.pair (Ty.int IntKind.u8) Ty.unit)) 2),(214,TI.mk (Ty.arr 16 (Ty.pair (Ty.int IntKind.u8) (Ty.pair (Ty.int IntKind.u8) Ty.unit))) 32),(222,TI.mk (Ty.int IntKind.u8) 1),(223,TI.mk (Ty.int IntKind.u8) 1),(225,TI.mk (Ty.int IntKind.i32) 4),(226,TI.mk (Ty.int IntKind.i32) 4),(25,{ ty:=Ty.box true none w5,by_:=8 }),(94,{ ty:=Ty.fn 79,by_:=8 })]
theorem r7:tt.all (xE Tryz.prog)=true:=by kernel_rfl
theorem own:ownKnob Tryz.prog.godebug=none:=by kernel_rfl
theorem laid:laidOutB Tryz.prog=true:=by kernel_rfl
abbrev _root_.Go.Ex.Tree.ctL {ts:List Ty} (q:Code×List Item) (s:St):Tree ts:=.cut q.1 q.2 s
end Go.Proofs.YtijlnmgondibnaaGreatDoor
namespace Go.Proofs.YtijlnmgondibnaaGreatDoor
open Go.Ex Go.ChangeShapes Go.WideShapes Go.ChangeAt Go.RowKit
set_option maxRecDepth 100000
theorem c3K {X:Type} {enc:TypeId×Value->X} {C:Checked} {os:Os} {f:FuncId} {fn:Func} {s:OpenSpec} {k:(H:Type)->List (DataW H)->Bool} (hk:s.cond=some k) {F:Stop.Interp} {conds:List PathCond} {apart fresh handsOn again:Bool} {us:List Ty} {tb:TypeId} {a:Assume} {Y:World->Array Value->Prop}
    (hX:∀ (w w':World) (args:Array Value),w.heap=w'.heap->Y w args->Y w' args)
    (own:ownKnob C.prog.godebug=none) (started:os.Started) (noInit:C.prog.inits.idxOf? f=none) (jA:C.prog.funcs[f]?=some fn)
    (witness:∃ (w:World) (tape:Tape) (i:Input),w.os=os/\(w.forCall tape i).Shaped C.prog/\i.vars=[]/\Input.okWide C.prog (w.forCall tape i) .any w.heap.size f i /\
      ((s.pre enc C.prog fn conds apart (w.forCall tape i).memory i.args/\Y (w.forCall tape i).memory i.args)/\sizedMet enc C.prog fn s apart (w.forCall tape i).memory i.args)/\a.holds C.prog (lone (Frame.enter C.prog f i.args .normal) [] (w.forCall tape i)))
    (sQ:∀ ds:List (DataW X),k X ds=true->U4 ds<=1048576)
    (hl:laidOutB C.prog=true) (da:yV C.prog fn.params.toList us=true) (fH:s.vars=[]) (hs:∀ ds:List (DataW X),ds.length=fn.params.toList.length->s.fn F X ds={ results:=[.lit (.bool true)],args:=ds })
    (du:fn.resultTypes=#[tb]) (nS:C.prog.underlying tb=some .bool) (hv:(MY us).Valid C.prog f) (dJ:∀ W args,W.ShapedOpen C.prog->Y W args->vn C.prog W (λ b=>b<W.heap.size)) :
    ReturnsInHanded a C os f .any (λ w args=>(s.pre enc C.prog fn conds apart w args/\Y w args)/\sizedMet enc C.prog fn s apart w args) ((s.at F).post enc C.prog fn apart fresh handsOn again):=by
  refine returnsInHanded_of_calls own started noInit witness ?_;intro w tape i _ cd _ aM aZ pN;obtain ⟨_,_,_,fn',iI,_,_,_,_,dD⟩:=aM;have e:fn'=fn:=Option.some.inj (iI.symm.trans jA);subst e;obtain ⟨⟨lJ,hx⟩,hz⟩:=aZ;obtain ⟨ds,gs,before,hw,hc,mR⟩:=(OpenSpec.pre_some hk conds apart _ _).1 lJ;have gJ:=DataW.Whole.of_heap (w':=w.forCall tape i) (by rfl) hw;have hg:gs=[]:=by
    obtain ⟨p,q,hA,hV,_⟩:=hw;rw [fH] at hV;exact (trodVars_none hV).1
  subst hg;rw [List.append_nil] at mR;refine (c3L (s:=s.at F) (apart:=apart) (fresh:=fresh) (handsOn:=handsOn) (again:=again) hl da fH hs du nS hv (dJ _ _ cd (hX _ _ _ (by rfl) hx)) (λ x hx=>Nat.le_trans hx (sQ ds mR)) dD gJ).mono λ e W' ⟨v,he,hp⟩=>?_;subst he;exact ChangeSpec.post_blind hp
theorem Nr {P:Program} {W:World} {n:String} {g:Nat} {cs:Array Value} (hg:P.globalNamed n=some g) (h:W.var? P n=some cs):g<W.heap.size:=by
  unfold World.var? at h;rw [hg,Option.bind_some] at h;by_cases bc:g<W.heap.size
  . exact bc
  . rw [Array.getElem?_eq_none (by omega)] at h;cases h
theorem YK {P:Program} {W:World} {n:String} {g:Nat} {v:Value} (hg:P.globalNamed n=some g) (h:W.cell? ⟨g,0,none⟩=some v):∃ cs,W.var? P n=some cs/\cs[0]?=some v:=by
  unfold World.var?;rw [hg,Option.bind_some];unfold World.cell? at h;split at h
  . rename_i cs T fz hh;exact ⟨cs,by rw [hh],h⟩
  . cases h
theorem Xq {l:List (String×DataW Unit)} {W:World} (cd:W.ShapedOpen Tryz.prog) (hl:laidMetH Tryz.prog l W) (hf:(l.filter λ x=>x.2.handleName?.isSome)=[]) (hm:("internal/strconv.uint64pow10",Rows.laid_internal_strconv_uint64pow10)∈l) :
    vn Tryz.prog W (λ b=>b<W.heap.size):=by
  unfold laidMetH at hl;rw [hf] at hl;obtain ⟨g,t,cs,fuel,p,h1,h2,h3,h4⟩:=Lib.laidMet.reads hl hm;intro x hx g' kh;simp only [Ig,List.mem_cons,List.mem_nil_iff,or_false] at hx;rcases hx with rfl|rfl
  . refine ⟨Nr kh h3,cs,h3,?_⟩;obtain rfl:=Option.some.inj ((show Tryz.prog.globalNamed "internal/strconv.uint64pow10"=some 0 by kernel_rfl).symm.trans h1)
    obtain rfl:=Option.some.inj ((show (Tryz.prog.globals[0]?).map (·.type)=some 176 by kernel_rfl).symm.trans h2);have:=Lib.cells_of_tab (n:=20) (e:=159) (k:=.u64) (zs:=(List.range 20).map λ i=>((10^i:Nat):Int)) (by kernel_rfl) (by kernel_rfl) (by kernel_rfl) (by kernel_rfl) h4;rw [<- this]
  . obtain rfl:=Option.some.inj ((show Tryz.prog.globalNamed "internal/bytealg.MaxLen"=some 1 by kernel_rfl).symm.trans kh)
    obtain ⟨m,hm⟩:=cell_of_shapedOpen_int (g:=1) (t:=3) (zero:=#[.int .i64 0]) (k:=.i64) cd (Nat.le_of_ble_eq_true (by kernel_rfl)) (by kernel_rfl) rfl (by kernel_rfl) (by kernel_rfl) (by kernel_rfl);obtain ⟨cs,k1,k2⟩:=YK (show Tryz.prog.globalNamed "internal/bytealg.MaxLen"=some 1 by kernel_rfl) hm
    exact ⟨Nr (show Tryz.prog.globalNamed "internal/bytealg.MaxLen"=some 1 by kernel_rfl) k1,cs,k1,m,k2⟩
end Go.Proofs.YtijlnmgondibnaaGreatDoor
namespace Go.Proofs.YtijlnmgondibnaaGreatDoor
open Go.Ex
set_option maxRecDepth 100000
theorem G5 {n:Int}:r9 .i64 n↔-9223372036854775808<=n/\n<=9223372036854775807:=Iff.rfl
theorem sL:(∀p,(True/\p)=p)/\(∀p:Prop,(True->p)=p)/\(∀(p:Prop)[Decidable p],(decide p=true)=p)/\(∀(p:Prop)[Decidable p],(decide p=false)=¬p)/\(∀b:Bool,((!b)=true)=(b=false))/\(∀b:Bool,((!b)=false)=(b=true))/\(∀n:Nat,Int.toNat (n:Int)=n)/\(∀n,r9 .i64 n=(-9223372036854775808<=n/\n<=9223372036854775807))/\(∀(α:Type)(l:List α)(i:Nat)(a:α),(l.set i a).length=l.length)/\(∀(α:Type)(a:α)(l:List α),(a::l).length=l.length+1)/\(∀α:Type,([]:List α).length=0):=
  ⟨λ _=>true_and _,λ _=>true_implies _,λ _ _=>decide_eq_true_eq,λ _ _=>propext decide_eq_false_iff_not,λ _=>Bool.not_eq_true' _,λ _=>Bool.not_eq_false' _,λ _=>rfl,λ _=>propext G5,λ _ _ _ _=>List.length_set,λ _ _ _=>rfl,λ _=>rfl⟩
theorem Vz:Ty.wb e8=8:=rfl
theorem Hh:Ty.wb U8=1:=rfl
theorem yes:((true,()):Bool×Unit)=(true,()):=rfl
theorem Kv {α:Type} {l:List α} {i:Nat} (h:i<l.length) (d:α):l.drop i=l.getD i d::l.drop (i+1):=by
  rw [List.drop_eq_getElem_cons h,List.getD_eq_getElem?_getD,List.getElem?_eq_getElem h]; rfl
theorem Es {α:Type} {l:List α} {i:Nat} {d:α} (h:i<l.length):l.getD i d∈l:=by
  rw [List.getD_eq_getElem?_getD,List.getElem?_eq_getElem h]; exact List.getElem_mem h
theorem Yv {α:Type} {l:List α} {x d:α} (h:x∈l):∃ i,i<l.length/\l.getD i d=x:=by
  obtain ⟨i,hi,e⟩:=List.getElem_of_mem h;exact ⟨i,hi,by rw [List.getD_eq_getElem?_getD,List.getElem?_eq_getElem hi,e]; rfl⟩
theorem xr {α:Type} {l:List α} {i j:Nat} {x d:α} (h:i<l.length):(l.set i x).getD j d=if j=i then x else l.getD j d:=by
  rw [List.getD_eq_getElem?_getD,List.getD_eq_getElem?_getD,List.getElem?_set];by_cases e:i=j
  . subst e; simp [h]
  . rw [if_neg e,if_neg (λ h=>e h.symm)]
theorem eq_of_getD {α:Type} {l m:List α} {d:α} (hl:l.length=m.length) (h:∀ i,i<l.length->l.getD i d=m.getD i d):l=m:=by
  refine List.ext_getElem hl (λ i h1 h2=>?_);have:=h i h1
  rwa [List.getD_eq_getElem?_getD,List.getD_eq_getElem?_getD,List.getElem?_eq_getElem h1,List.getElem?_eq_getElem h2] at this
theorem b4q {α:Type} {n i:Nat} (f:Nat->α) (x:α) (hi:i<n):((List.range n).map f).set i x=(List.range n).map (λ j=>if j=i then x else f j):=by
  refine List.ext_getElem (by simp) (λ j h1 h2=>?_);rw [List.getElem_set];simp only [List.getElem_map,List.getElem_range];by_cases e:i=j
  . rw [if_pos e,if_pos e.symm]
  . rw [if_neg e,if_neg (λ h=>e h.symm)]
def V5 {α:Type} (p:α->Bool):List α->Nat->Int
  | [],_=>-1
  | x::l,i=>if p x=true then (i:Int) else V5 p l (i+1)
def idxOf {α:Type} (p:α->Bool) (l:List α):Int:=V5 p l 0
theorem Kh {α:Type} {p:α->Bool}:∀ {l:List α} {i:Nat},0<=V5 p l i↔∃ x∈l,p x=true
  | [],i=>by simp [V5]
  | x::l,i=>by
    rw [V5]
    split
    . rename_i h; exact ⟨λ _=>⟨x,by simp,h⟩,λ _=>by omega⟩
    . rename_i h;rw [Kh];constructor
      . rintro ⟨y,h1,h2⟩; exact ⟨y,by simp [h1],h2⟩
      . rintro ⟨y,h1,h2⟩;rcases List.mem_cons.1 h1 with rfl|h1
        . exact absurd h2 h
        . exact ⟨y,h1,h2⟩
theorem NI {α:Type} {p:α->Bool} {l:List α}:decide (0<=idxOf p l)=l.any p:=by
  cases e:l.any p with
  | true =>
    obtain ⟨x,h1,h2⟩:=List.any_eq_true.1 e;exact decide_eq_true (Kh.2 ⟨x,h1,h2⟩)
  | false =>
    refine decide_eq_false (λ h=>?_);obtain ⟨x,h1,h2⟩:=Kh.1 h;rw [List.any_eq_true.2 ⟨x,h1,h2⟩] at e;cases e
end Go.Proofs.YtijlnmgondibnaaGreatDoor
namespace Go.Proofs.YtijlnmgondibnaaGreatDoor
def step (r:Nat):Nat:=if r % 2=1 then (r / 2) ^^^ 2197175160 else r / 2
theorem XX {r:Nat} (h:r<4294967296):step r<4294967296:=by
  unfold step
  split
  . exact Nat.xor_lt_two_pow (n:=32) (by omega) (by decide)
  . omega
def steps:Nat->Nat->Nat
  | 0,r=>r
  | k+1,r=>steps k (step r)
theorem Jo:∀ (k:Nat) {r:Nat},r<4294967296->steps k r<4294967296
  | 0,_,h=>h
  | k+1,_,h=>Jo k (XX h)
theorem Rr:∀ (a b r:Nat),steps (a+b) r=steps b (steps a r)
  | 0,b,r=>by rw [Nat.zero_add]; rfl
  | a+1,b,r=>by rw [show a+1+b=(a+b)+1 by omega]; simp only [steps]; exact Rr a b _
def byt (r b:Nat):Nat:=steps 8 (r ^^^ b)
def reg (r:Nat) (s:yY):Nat:=s.foldl (λ r b=>byt r b.toNat) r
def vB (s:yY):Nat:=reg 4294967295 s ^^^ 4294967295
theorem WM (r:Nat) (s t:yY):reg r (s++t)=reg (reg r s) t:=by simp [reg]
theorem Wo {r:Nat} (h:r<4294967296) (b:UInt8):byt r b.toNat<4294967296:=Jo 8 (Nat.xor_lt_two_pow (n:=32) h (by have:=b.toNat_lt; omega))
theorem MW:∀ {s:yY} {r:Nat},r<4294967296->reg r s<4294967296
  | [],_,h=>h
  | b::s,r,h=>show reg (byt r b.toNat) s<_ from MW (Wo h b)
def le4 (x:Nat):yY:=[UInt8.ofNat x,UInt8.ofNat (x / 2^8),UInt8.ofNat (x / 2^16),UInt8.ofNat (x / 2^24)]
end Go.Proofs.YtijlnmgondibnaaGreatDoor
namespace Go.Proofs.YtijlnmgondibnaaGreatDoor
open Go.Ex
set_option maxRecDepth 100000
def Y9 (n a b:Int):Bool:=decide (a<=n) && decide (n<=b)
theorem wX {n a b:Int}:Y9 n a b=true↔a<=n/\n<=b:=by simp [Y9]
theorem Ir {α:Type} {l:List α} {i j:Int} (h0:0<=i) (h1:i<=j) (h2:j<=(l.length:Int)):o5 j (l.length:Int) l=l.drop j.toNat:=by
  rw [o5]; exact List.take_of_length_le (by rw [List.length_drop]; omega)
theorem NC {α:Type} {l:List α} {i j:Int} (h0:0<=i) (h1:i<=j) (h2:j<=(l.length:Int)):((o5 j (l.length:Int) l).length:Int)=(l.length:Int) - j/\(List.take i.toNat l++o5 j (l.length:Int) l++List.drop (i.toNat+(o5 j (l.length:Int) l).length) l).length=l.length:=by
  rw [Ir h0 h1 h2];simp only [List.length_append,List.length_take,List.length_drop];omega
theorem Xl {α:Type} {l:List α} {d:List α} {i j:Int} (h0:0<=i) (h1:i<=j) (h2:j<=(l.length:Int)) {r:Nat} :
    o5 (0:Int) (i+(↑(List.length (o5 j (↑(List.length l):Int) l)):Int)) (List.take (Int.toNat ((0:Int)+(i+(↑(List.length (o5 j (↑(List.length l):Int) l)):Int) - (0:Int)))) (List.take (Int.toNat i) l++o5 j (↑(List.length l):Int) l++List.drop (Int.toNat i+List.length (o5 j (↑(List.length l):Int) l)) l)++d++List.drop r (List.take (Int.toNat i) l++o5 j (↑(List.length l):Int) l++List.drop (Int.toNat i+List.length (o5 j (↑(List.length l):Int) l)) l))=List.take i.toNat l++List.drop j.toNat l:=by
  obtain ⟨e1,e2⟩:=NC h0 h1 h2 (l:=l);rw [Ir h0 h1 h2] at e1 e2 ⊢;generalize hX:List.take i.toNat l++List.drop j.toNat l++List.drop (i.toNat+(List.drop j.toNat l).length) l=X at e2 ⊢;have em:(0+(i+((List.drop j.toNat l).length:Int) - 0)).toNat=(List.take i.toNat l++List.drop j.toNat l).length:=by
    simp only [List.length_append,List.length_take]; omega
  have en:(i+((List.drop j.toNat l).length:Int) - 0).toNat=(List.take i.toNat l++List.drop j.toNat l).length:=by
    simp only [List.length_append,List.length_take]; omega
  rw [o5,em,en,Int.toNat_zero,List.drop_zero,List.append_assoc,List.take_append_of_le_length (by
    rw [List.length_take,e2];simp only [List.length_append,List.length_take,List.length_drop]; omega),List.take_take,Nat.min_self,<- hX,List.take_left]
def rest (a n:Int):Int:=if n<=0 then 0 else Int.tmod (Int.tmod a n+n) n
def GP:p9:={ ps:=[.v e8,.v e8],rs:=[e8],pre:=λ x=>LE.le (α:=Int) x.2.1 1000000000,fn:=λ x=>(rest x.1 x.2.1,()),out:=λ _=>() }
noncomputable def Gr:Env:={ P:=Tryz.prog,tt:=tt,C7:=[],res:=[Go.ResultVar.tmp 4],rs:=[Ty.int IntKind.i64],ps:=[PK.v e8,PK.v e8],B9:=[],nt:=14 }
theorem PV:w7 Gr:=x8 r7 trivial
theorem PQ:C0 Gr Tryz.f39:=⟨rfl,rfl⟩
theorem XA (x0:Int) (x1:Int):exec Gr 1000 [.code (d8 Tryz.prog 39)] (s8 GP.ps ((x0,x1,()))) =
  cond (decide (x1<=(0:Int))) (.ret (((0:Int),()))) (.f7 ((0:Int)<x1) (.f7 (r9 IntKind.i64 (Int.tmod x0 x1+x1)) (.f7 ((0:Int)<x1) (.ret ((Int.tmod (Int.tmod x0 x1+x1) x1,())))))):=by kernel_rfl
theorem b8b:GP.Valid Tryz.prog 39:=by
  refine p9.n9 PV rfl rfl Tryz.func39 (c:=d8 Tryz.prog 39) rfl rfl PQ rfl ?_;rintro ⟨(x0:Int),(x1:Int),⟨⟩⟩ hp -
  refine j7 (n:=1000) PV PQ ?_;refine i8 (XA x0 x1) ?_;have hp:x1<=1000000000:=hp;simp only [j8,Tree.holds,sL];refine ⟨λ a=>?_,λ a=>?_⟩
  . show ((0,()):Int×Unit)=(rest x0 x1,());rw [rest,if_pos a]
  . have h0:0<x1:=by omega
    have h1:=Int.tmod_lt_of_pos x0 h0;have h2:-x1<Int.tmod x0 x1:=by
      have:=Int.tmod_lt_of_pos (-x0) h0;rw [Int.neg_tmod] at this;omega
    refine ⟨h0,λ _=>⟨by omega,λ _=>⟨h0,λ _=>?_⟩⟩⟩;show ((_,()):Int×Unit)=(rest x0 x1,());rw [rest,if_neg a]
theorem OF {a n:Int} (h:0<n):0<=rest a n/\rest a n<n:=by
  have h1:=Int.tmod_lt_of_pos (-a) h;rw [Int.neg_tmod] at h1;rw [rest,if_neg (by omega)];exact ⟨Int.tmod_nonneg _ (by omega),Int.tmod_lt_of_pos _ h⟩
end Go.Proofs.YtijlnmgondibnaaGreatDoor
namespace Go.Proofs.YtijlnmgondibnaaGreatDoor
open Go.Ex
instance {k:IntKind} {n:Int}:Decidable (r9 k n):=inferInstanceAs (Decidable (_/\_))
def bit (x:Int) (i:Nat):Bool:=x.toNat.testBit i
section
variable {k:IntKind} {x y:Int}
theorem Bx (hk:k.signed=false):r9 k x↔0<=x/\x<2^k.bits:=by
  cases k<;>simp [IntKind.signed] at hk<;>simp [r9,IntKind.min,IntKind.max,IntKind.signed,IntKind.bits]<;>omega
theorem Dp (hk:k.signed=false) (b:BitVec k.bits):k.wrap (b.toNat:Int)=(b.toNat:Int):=by
  refine Q9 ((Bx hk).2 ⟨Int.natCast_nonneg _,?_⟩);have:=b.isLt
  exact_mod_cast this
theorem yl (hk:k.signed=false) (hx:r9 k x) (i:Nat):(BitVec.ofInt k.bits x).getLsbD i=bit x i:=by
  obtain ⟨h0,h1⟩:=(Bx hk).1 hx;obtain ⟨n,rfl⟩:=Int.eq_ofNat_of_zero_le h0;have hn:n<2^k.bits:=by exact_mod_cast h1
  rw [BitVec.ofInt_natCast,BitVec.getLsbD_ofNat];simp only [bit,Int.toNat_natCast];by_cases hi:i<k.bits
  . simp [hi]
  . have:n.testBit i=false:=Nat.testBit_lt_two_pow (Nat.lt_of_lt_of_le hn (Nat.pow_le_pow_right (by omega) (by omega)));simp [this]
theorem Nv (hk:k.signed=false) (hx:r9 k x) {i:Nat} (hi:k.bits<=i):bit x i=false:=by
  obtain ⟨h0,h1⟩:=(Bx hk).1 hx;obtain ⟨n,rfl⟩:=Int.eq_ofNat_of_zero_le h0;have hn:n<2^k.bits:=by exact_mod_cast h1
  exact Nat.testBit_lt_two_pow (Nat.lt_of_lt_of_le hn (Nat.pow_le_pow_right (by omega) hi))
theorem Nu (hk:k.signed=false) (hx:r9 k x) (hy:r9 k y) (i:Nat):bit (T7 k x y) i=(bit x i && bit y i):=by
  rw [T7,Dp hk,bit,Int.toNat_natCast,BitVec.testBit_toNat,BitVec.getLsbD_and,yl hk hx,yl hk hy]
theorem MQ (hk:k.signed=false) (hx:r9 k x) (hy:r9 k y) (i:Nat):bit (bOr k x y) i=(bit x i || bit y i):=by
  rw [bOr,Dp hk,bit,Int.toNat_natCast,BitVec.testBit_toNat,BitVec.getLsbD_or,yl hk hx,yl hk hy]
theorem Xe (hk:k.signed=false) (hx:r9 k x) (hy:r9 k y) (i:Nat):bit (vK k x y) i=(bit x i ^^ bit y i):=by
  rw [vK,Dp hk,bit,Int.toNat_natCast,BitVec.testBit_toNat,BitVec.getLsbD_xor,yl hk hx,yl hk hy]
theorem Sm (hk:k.signed=false) (hx:r9 k x) (hy:r9 k y) (i:Nat):bit (R6 k x y) i=(bit x i && !bit y i):=by
  rw [R6,Dp hk,bit,Int.toNat_natCast,BitVec.testBit_toNat,BitVec.getLsbD_and,BitVec.getLsbD_not,yl hk hx,yl hk hy];by_cases hi:i<k.bits
  . simp [hi]
  . rw [Nv hk hx (by omega)]; simp
theorem ML:r9 k (T7 k x y):=U2 _ _
theorem Ho:r9 k (bOr k x y):=U2 _ _
theorem VB:r9 k (vK k x y):=U2 _ _
theorem AE:r9 k (R6 k x y):=U2 _ _
theorem Jz (hx:0<=x) (hy:0<=y) (h:∀ i,bit x i=bit y i):x=y:=by
  have:x.toNat=y.toNat:=Nat.eq_of_testBit_eq h;omega
theorem c2S (hx:0<=x):x=0↔∀ i,bit x i=false:=by
  constructor
  . rintro rfl i; simp [bit]
  . intro h; exact Jz hx (by omega) (λ i=>by rw [h i]; simp [bit])
end
theorem u8s:IntKind.u8.signed=false:=rfl
theorem u8_in {x:Int}:r9 .u8 x↔0<=x/\x<=255:=Iff.rfl
def Mw (n:Nat):Nat:=((List.range 8).map λ i=>(n.testBit i).toNat).sum
def vM (m:Int):Int:=(Mw m.toNat:Int)
theorem WD (m:Int):vM m=((bit m 0).toNat+(bit m 1).toNat+(bit m 2).toNat+(bit m 3).toNat+(bit m 4).toNat+(bit m 5).toNat+(bit m 6).toNat+(bit m 7).toNat:Nat):=by
  simp only [vM,Mw,List.range,List.range.loop,List.map_cons,List.map_nil,List.sum_cons,List.sum_nil,bit];omega
theorem toNat_le (b:Bool):b.toNat<=1:=by cases b<;>decide
theorem OS (m:Int):0<=vM m/\vM m<=8:=by
  rw [WD];have:=toNat_le (bit m 0); have:=toNat_le (bit m 1); have:=toNat_le (bit m 2); have:=toNat_le (bit m 3);have:=toNat_le (bit m 4); have:=toNat_le (bit m 5); have:=toNat_le (bit m 6); have:=toNat_le (bit m 7);omega
end Go.Proofs.YtijlnmgondibnaaGreatDoor
namespace Go.Proofs.YtijlnmgondibnaaGreatDoor
open Go.Ex
set_option maxRecDepth 100000
theorem Ap {n:Int}:r9 .u32 n↔0<=n/\n<=4294967295:=Iff.rfl
theorem YF {k:IntKind} (hk:k.signed=false) {a b:Nat} (ha:r9 k a) (hb:r9 k b):vK k (a:Int) (b:Int)=((a ^^^ b:Nat):Int) :=
  Jz ((Bx hk).1 VB).1 (Int.natCast_nonneg _) (λ i=>by rw [Xe hk ha hb]; simp [bit,Nat.testBit_xor])
theorem YE {k:IntKind} (hk:k.signed=false) {a b:Nat} (ha:r9 k a) (hb:r9 k b):T7 k (a:Int) (b:Int)=((a &&& b:Nat):Int) :=
  Jz ((Bx hk).1 ML).1 (Int.natCast_nonneg _) (λ i=>by rw [Nu hk ha hb]; simp [bit,Nat.testBit_and])
theorem Ht {a b:Nat} (ha:a<4294967296) (hb:b<4294967296):vK .u32 (a:Int) (b:Int)=((a ^^^ b:Nat):Int):=YF rfl (Ap.2 ⟨by omega,by omega⟩) (Ap.2 ⟨by omega,by omega⟩)
theorem Vg {a:Nat} (ha:a<4294967296):T7 .u32 (a:Int) 1=((a % 2:Nat):Int):=by
  have:=YE (k:=.u32) rfl (a:=a) (b:=1) (Ap.2 ⟨by omega,by omega⟩) (Ap.2 ⟨by omega,by omega⟩);rw [Nat.and_one_is_mod] at this;exact this
def CZ:p9:={ ps:=[.v .str],rs:=[.int .u32],pre:=λ _=>True,fn:=λ x=>(((vB x.1:Nat):Int),()),out:=λ _=>() }
noncomputable def AM:Env:={ P:=Tryz.prog,tt:=tt,C7:=[],res:=[Go.ResultVar.tmp 2],rs:=[Ty.int IntKind.u32],ps:=[PK.v Ty.str],B9:=[(3,[(0,none),(3,none),(7,none),(8,none)]),(7,[(0,none),(3,none),(7,none),(8,none),(17,none)])],nt:=31 }
theorem Ei:w7 AM:=x8 r7 trivial
theorem Ek:C0 AM Tryz.f63:=⟨rfl,rfl⟩
theorem Vr (x0:yY):exec AM 1000 [.code (d8 Tryz.prog 63)] (s8 CZ.ps ((x0,()))) =
  .ctL (g9 (d8 Tryz.prog 63) 3) (St.mk [(0,AV.val Ty.str x0),(3,AV.val (Ty.int IntKind.u32) (4294967295:Int)),(7,AV.val e8 (↑(List.length x0):Int)),(8,AV.val e8 (0:Int))] []):=by kernel_rfl
def OC (v0:yY) (v3:Int) (v7:Int) (v8:Int):St:=St.mk [(0,AV.val Ty.str v0),(3,AV.val (Ty.int IntKind.u32) v3),(7,AV.val e8 v7),(8,AV.val e8 v8)] []
theorem VD (v0:yY) (v3:Int) (v7:Int) (v8:Int):exec AM 1000 (.code (g9 (d8 Tryz.prog 63) 3).1::.inLoop (g9 (d8 Tryz.prog 63) 3).1::(g9 (d8 Tryz.prog 63) 3).2) (OC v0 v3 v7 v8) =
  cond (decide (v8<v7)) (.f7 ((0:Int)<=v8/\v8<(↑(List.length v0):Int)) (.ctL (g9 (d8 Tryz.prog 63) 7) (St.mk [(0,AV.val Ty.str v0),(3,AV.val (Ty.int IntKind.u32) (vK IntKind.u32 v3 (IntKind.wrap IntKind.u32 (↑(UInt8.toNat (List.getD v0 (Int.toNat v8) (0:UInt8))):Int)))),(7,AV.val e8 v7),(8,AV.val e8 v8),(17,AV.val e8 (0:Int))] []))) (.ret ((vK IntKind.u32 (if IntKind.signed IntKind.u32=true then (-1:Int) else IntKind.max IntKind.u32) v3,()))):=by kernel_rfl
def OD (v0:yY) (v3:Int) (v7:Int) (v8:Int) (vu:Int):St:=St.mk [(0,AV.val Ty.str v0),(3,AV.val (Ty.int IntKind.u32) v3),(7,AV.val e8 v7),(8,AV.val e8 v8),(17,AV.val e8 vu)] []
theorem VE (v0:yY) (v3:Int) (v7:Int) (v8:Int) (vu:Int):exec AM 1000 (.code (g9 (d8 Tryz.prog 63) 7).1::.inLoop (g9 (d8 Tryz.prog 63) 7).1::(g9 (d8 Tryz.prog 63) 7).2) (OD v0 v3 v7 v8 vu) =
  cond (decide (vu<(8:Int))) (.f7 ((0:Int)<=(1:Int)) (cond (decide (T7 IntKind.u32 v3 (1:Int)=(1:Int))) (.f7 (r9 IntKind.i64 (vu+(1:Int))) (.ctL (g9 (d8 Tryz.prog 63) 7) (St.mk [(0,AV.val Ty.str v0),(3,AV.val (Ty.int IntKind.u32) (vK IntKind.u32 (v3 / (2:Int)^min (Int.toNat (1:Int)) (IntKind.bits IntKind.u32)) (2197175160:Int))),(7,AV.val e8 v7),(8,AV.val e8 v8),(17,AV.val e8 (vu+(1:Int)))] []))) (.f7 (r9 IntKind.i64 (vu+(1:Int))) (.ctL (g9 (d8 Tryz.prog 63) 7) (St.mk [(0,AV.val Ty.str v0),(3,AV.val (Ty.int IntKind.u32) (v3 / (2:Int)^min (Int.toNat (1:Int)) (IntKind.bits IntKind.u32))),(7,AV.val e8 v7),(8,AV.val e8 v8),(17,AV.val e8 (vu+(1:Int)))] []))))) (.f7 (r9 IntKind.i64 (v8+(1:Int))) (.ctL (g9 (d8 Tryz.prog 63) 3) (St.mk [(0,AV.val Ty.str v0),(3,AV.val (Ty.int IntKind.u32) v3),(7,AV.val e8 v7),(8,AV.val e8 (v8+(1:Int)))] []))):=by kernel_rfl
theorem c0p (k r:Nat):steps (k+1) r=step (steps k r):=by rw [Rr k 1]; rfl
theorem ZH {s:yY} {i:Nat} (h:i<s.length) (r:Nat):reg r (s.take (i+1))=steps 8 (reg r (s.take i) ^^^ (s.getD i 0).toNat):=by
  rw [List.take_add_one,List.getElem?_eq_getElem h,WM,List.getD_eq_getElem?_getD,List.getElem?_eq_getElem h];rfl
theorem Sx:CZ.Valid Tryz.prog 63:=by
  refine p9.n9 Ei rfl rfl Tryz.func63 (c:=d8 Tryz.prog 63) rfl rfl Ek rfl ?_;rintro ⟨(s:yY),⟨⟩⟩ - ⟨hl,-⟩;have hl:s.length<=9223372036854775807:=hl;refine j7 (n:=1000) Ei Ek ?_;refine i8 (Vr s) ?_;refine Reach.M8 Ei Ek (λ i:Nat=>OC s ((reg 4294967295 (s.take i):Nat):Int) (s.length:Int) (i:Int)) (λ i=>i<=s.length)
    (λ i=>s.length - i) 1000 (λ i=>⟨u6 rfl,u6 rfl⟩) ?_ 0 (by omega)
  rintro i hi - ih;refine i8 (VD ..) ?_;simp only [j8,Tree.holds,sL];have hr:=MW (s:=s.take i) (r:=4294967295) (by decide);have hb:(s.getD i 0).toNat<256:=UInt8.toNat_lt _;refine ⟨λ a=>⟨⟨by omega,by omega⟩,λ _=>?_⟩,λ a=>?_⟩
  . have uq:reg 4294967295 (s.take i) ^^^ (s.getD i 0).toNat<4294967296:=Nat.xor_lt_two_pow (n:=32) hr (by omega);rw [show IntKind.wrap IntKind.u32 ((s.getD i 0).toNat:Int)=((s.getD i 0).toNat:Int) from Q9 (Ap.2 ⟨by omega,by omega⟩),Ht hr (by omega)];refine Reach.M8 Ei Ek (λ j:Nat=>OD s ((steps j (reg 4294967295 (s.take i) ^^^ (s.getD i 0).toNat):Nat):Int) (s.length:Int) (i:Int) (j:Int)) (λ j=>j<=8)
      (λ j=>8 - j) 1000 (λ i=>⟨u6 rfl,u6 rfl⟩) ?_ 0 (by omega)
    rintro j hj - ih2;refine i8 (VE ..) ?_;have hs:=Jo j uq;have hn:=c0p j (reg 4294967295 (s.take i) ^^^ (s.getD i 0).toNat);have he:steps 8 (reg 4294967295 (s.take i) ^^^ (s.getD i 0).toNat)=reg 4294967295 (s.take (i+1))\/¬ i<s.length:=by
      by_cases h:i<s.length
      . exact .inl (ZH h _).symm
      . exact .inr h
    generalize hR:steps j (reg 4294967295 (s.take i) ^^^ (s.getD i 0).toNat)=r at *
    have hd:((r:Nat):Int) / 2^min (Int.toNat 1) (IntKind.bits IntKind.u32)=((r / 2:Nat):Int):=by
      show ((r:Nat):Int) / 2^1=_;omega
    rw [hd,Vg hs,show (2197175160:Int)=((2197175160:Nat):Int) from rfl,Ht (by omega) (by decide)];simp only [j8,Tree.holds,decide_eq_true_eq,decide_eq_false_iff_not];have hk:r9 .i64 ((j:Int)+1):=G5.2 ⟨by omega,by omega⟩;refine ⟨λ b=>⟨by decide,λ _=>⟨λ c=>⟨hk,λ _=>?_⟩,λ c=>⟨hk,λ _=>?_⟩⟩⟩,λ b=>⟨G5.2 ⟨by omega,by omega⟩,λ _=>?_⟩⟩
    . have h9:=ih2 (j+1) (by omega) (by omega);rw [hn,step,if_pos (by omega)] at h9;exact h9
    . have h9:=ih2 (j+1) (by omega) (by omega);rw [hn,step,if_neg (by omega)] at h9;exact h9
    . have sX:j=8:=by omega
      subst sX;rw [hR] at he;have h9:=ih (i+1) (by omega) (by omega);rw [<- he.resolve_right (λ h=>h (by omega))] at h9;exact h9
  . have hi:i=s.length:=by omega
    subst hi;rw [List.take_length] at hr ⊢;show (vK .u32 4294967295 ((reg 4294967295 s:Nat):Int),())=(((vB s:Nat):Int),());rw [show (4294967295:Int)=((4294967295:Nat):Int) from rfl,Ht (by decide) hr,vB,Nat.xor_comm]
end Go.Proofs.YtijlnmgondibnaaGreatDoor
namespace Go.Proofs.YtijlnmgondibnaaGreatDoor
open Go.Ex
section
variable {α:Type} {p:α->Bool} {d:α}
theorem Qy:∀ {l:List α} {j:Nat},V5 p l j≠-1->∃ k:Nat,V5 p l j=((j+k:Nat):Int)/\k<l.length/\p (l.getD k d)=true/\∀ i,i<k->p (l.getD i d)=false
  | [],_,h=>absurd rfl h
  | y::l,j,h=>by
    by_cases hy:p y=true
    . exact ⟨0,by rw [V5,if_pos hy]; rfl,by simp,hy,λ i hi=>by omega⟩
    . rw [V5,if_neg hy] at h ⊢;obtain ⟨k,h1,h2,h3,h4⟩:=Qy h;refine ⟨k+1,by rw [h1]; congr 1; omega,by simp; omega,h3,λ i hi=>?_⟩;cases i with
      | zero=>simpa using hy
      | succ i=>exact h4 i (by omega)
structure vO (p:α->Bool) (l m:List α) (i j:Nat):Prop where
  tk:m.take i=(l.take j).filter (λ x=>!p x)
  dr:m.drop j=l.drop j
  len:m.length=l.length
  lt:i<j
  le:j<=l.length
theorem DT {l:List α} {i:Nat} (h:i<l.length) (d:α):l.take (i+1)=l.take i++[l.getD i d]:=by
  rw [List.getD_eq_getElem?_getD,List.getElem?_eq_getElem h]; simp
theorem c04:∀ {l:List α},(∀ x∈l,p x=false)->l.filter (λ x=>!p x)=l:=λ h=>List.filter_eq_self.2 (λ x hx=>by rw [h x hx]; rfl)
theorem vO.start (d:α) {l:List α} (h:idxOf p l≠-1):∃ k:Nat,idxOf p l=(k:Int)/\k<l.length/\vO p l l k (k+1):=by
  obtain ⟨k,h1,h2,h3,h4⟩:=Qy (d:=d) h;refine ⟨k,by rw [idxOf,h1]; congr 1; omega,h2,⟨?_,rfl,rfl,by omega,by omega⟩⟩;rw [DT h2 d,List.filter_append,c04]
  . simp only [List.filter_cons,List.filter_nil,h3]; simp
  . intro x hx;obtain ⟨i,hi,rfl⟩:=Yv (d:=d) hx;rw [List.length_take] at hi;have:=h4 i (by omega);rw [List.getD_eq_getElem?_getD,List.getElem?_take,if_pos (by omega),<- List.getD_eq_getElem?_getD];exact this
theorem vO.at_ {l m:List α} {i j:Nat} (h:vO p l m i j) (d:α):m.getD j d=l.getD j d:=by
  have:=congrArg (λ q:List α=>q.getD 0 d) h.dr;simpa [List.getD_eq_getElem?_getD,List.getElem?_drop] using this
theorem vO.Mo {l m:List α} {i j:Nat} (h:vO p l m i j):m.drop (j+1)=l.drop (j+1):=by
  rw [<- List.drop_drop,<- List.drop_drop,h.dr]
theorem vO.xy {l m:List α} {i j:Nat} (h:vO p l m i j) (hj:j<l.length) (hp:p (m.getD j d)=false):vO p l (m.set i (m.getD j d)) (i+1) (j+1):=by
  have hl:=h.len;have bc:=h.lt;refine ⟨?_,?_,by rw [List.length_set,hl],by omega,by omega⟩
  . rw [DT hj d,List.filter_append,<- h.tk,DT (by rw [List.length_set]; omega) d];rw [h.at_ d] at hp ⊢;congr 1
    . rw [List.take_set_of_le (Nat.le_refl i)]
    . rw [xr (by omega),if_pos rfl]; generalize l.getD j d=x at hp ⊢; simp [hp]
  . rw [List.drop_set_of_lt (by omega)]; exact h.Mo
theorem vO.skip {l m:List α} {i j:Nat} (h:vO p l m i j) (hj:j<l.length) (hp:p (m.getD j d)=true):vO p l m i (j+1):=by
  refine ⟨?_,h.Mo,h.len,by have:=h.lt; omega,by omega⟩;rw [DT hj d,List.filter_append,<- h.tk];rw [h.at_ d] at hp;generalize l.getD j d=x at hp ⊢;simp [hp]
theorem vO.fin {l m A B:List α} {i j:Nat} (h:vO p l m i j) (hj:j=l.length):o5 0 (i:Int) (m.take i++A++B)=l.filter (λ x=>!p x):=by
  have h1:=h.tk;rw [hj,List.take_of_length_le (Nat.le_refl _)] at h1;have hi:(m.take i).length=i:=by rw [List.length_take]; have:=h.len; have:=h.lt; omega
  rw [o5,show ((i:Int) - 0).toNat=i by omega,Int.toNat_zero,List.drop_zero,List.append_assoc,List.take_append_of_le_length (by omega),List.take_of_length_le (by omega),h1]
end
end Go.Proofs.YtijlnmgondibnaaGreatDoor
namespace Go.Proofs.YtijlnmgondibnaaGreatDoor
open Go.Ex
set_option maxRecDepth 100000
theorem Fj {α:Type} {l:List α} {i:Nat} (h:i<l.length) (d:α):l.take (i+1)=l.take i++[l.getD i d]:=by
  rw [List.take_succ_eq_append_getElem h,List.getD_eq_getElem?_getD,List.getElem?_eq_getElem h]; rfl
abbrev C1:=Int×Int×Int×Int×Int×List Int×yY×Unit
def I6 (n a b:Int):Bool:=decide (a<=n) && decide (n<=b)
theorem V4 {n a b:Int}:I6 n a b=true↔a<=n/\n<=b:=by simp [I6]
def Dc:p9:={ ps:=[.v e8,.v e8,.v e8],rs:=[.bool],pre:=λ _=>True,fn:=λ x=>(I6 x.1 x.2.1 x.2.2.1,()),out:=λ _=>() }
noncomputable def FH:Env:={ P:=Tryz.prog,tt:=tt,C7:=[],res:=[Go.ResultVar.tmp 6],rs:=[Ty.bool],ps:=[PK.v e8,PK.v e8,PK.v e8],B9:=[],nt:=15 }
theorem NV:w7 FH:=x8 r7 trivial
theorem Oh:C0 FH Tryz.f80:=⟨rfl,rfl⟩
theorem UH (x0:Int) (x1:Int) (x2:Int):exec FH 1000 [.code (d8 Tryz.prog 80)] (s8 Dc.ps ((x0,x1,x2,()))) =
  cond (decide (x1<=x0)) (.ret ((decide (x0<=x2),()))) (.ret ((false,()))):=by kernel_rfl
theorem Sp:Dc.Valid Tryz.prog 80:=by
  refine p9.n9 NV rfl rfl Tryz.func80 (c:=d8 Tryz.prog 80) rfl rfl Oh rfl ?_;rintro ⟨(n:Int),(a:Int),(b:Int),⟨⟩⟩ - -
  refine j7 (n:=1000) NV Oh ?_;refine i8 (UH n a b) ?_;simp only [j8,Tree.holds,sL];refine ⟨λ c=>?_,λ c=>?_⟩
  . show ((decide _,()):Bool×Unit)=(I6 n a b,()); rw [I6,decide_eq_true c,Bool.true_and]
  . show ((false,()):Bool×Unit)=(I6 n a b,()); rw [I6,decide_eq_false c,Bool.false_and]
def CX:p9:={ ps:=[.v e8],rs:=[.bool],pre:=λ _=>True,fn:=λ x=>(I6 x.1 0 16777215,()),out:=λ _=>() }
noncomputable def FZ:Env:={ P:=Tryz.prog,tt:=tt,C7:=[(80,Dc)],res:=[Go.ResultVar.tmp 2],rs:=[Ty.bool],ps:=[PK.v e8],B9:=[],nt:=5 }
theorem NY:w7 FZ:=x8 r7 ⟨Sp,trivial⟩
theorem Ol:C0 FZ Tryz.f79:=⟨rfl,rfl⟩
theorem UK (x0:Int):exec FZ 1000 [.code (d8 Tryz.prog 79)] (s8 CX.ps ((x0,()))) =
  .f7 (True) (.ret ((I6 x0 (0:Int) (16777215:Int),()))):=by kernel_rfl
theorem Ss:CX.Valid Tryz.prog 79:=by
  refine p9.n9 NY rfl rfl Tryz.func79 (c:=d8 Tryz.prog 79) rfl rfl Ol rfl ?_;rintro ⟨(n:Int),⟨⟩⟩ - -
  refine j7 (n:=1000) NY Ol ?_;refine i8 (UK n) ?_;exact ⟨trivial,λ _=>rfl⟩
def U1 (n:Int):Bool:=!I6 n 0 16777215
def Il:p9:={ ps:=[.v e8,.rd (.fn 79)],rs:=[.bool],pre:=λ x=>Eq (α:=Bool) x.2.1 true,fn:=λ x=>(U1 x.1,()),out:=λ _=>() }
noncomputable def IJ:Env:={ P:=Tryz.prog,tt:=tt,C7:=[(79,CX)],res:=[Go.ResultVar.tmp 3],rs:=[Ty.bool],ps:=[PK.v e8,PK.rd (Ty.fn 79)],B9:=[],nt:=8 }
theorem SD:w7 IJ:=x8 r7 ⟨Ss,trivial⟩
theorem SI:C0 IJ Tryz.f82:=⟨rfl,rfl⟩
theorem ZA (x0:Int) (x1:Bool):exec IJ 1000 [.code (d8 Tryz.prog 82)] (s8 Il.ps ((x0,x1,()))) =
  .f7 (x1=true/\True) (.ret ((!I6 x0 (0:Int) (16777215:Int),()))):=by kernel_rfl
theorem b4E:Il.Valid Tryz.prog 82:=by
  refine p9.n9 SD rfl rfl Tryz.func82 (c:=d8 Tryz.prog 82) rfl rfl SI rfl ?_;rintro ⟨(n:Int),(b:Bool),⟨⟩⟩ (hp:b=true) -
  refine j7 (n:=1000) SD SI ?_;refine i8 (ZA n b) ?_;exact ⟨⟨hp,trivial⟩,λ _=>rfl⟩
def Hd:p9:={ ps:=[.v (.d0 false e8),.C5 82 [.fn 79]],rs:=[e8],pre:=λ x=>Eq (α:=Bool) x.2.1.1 true,fn:=λ x=>(idxOf (U1) x.1,()),out:=λ _=>() }
noncomputable def DF:Env:={ P:=Tryz.prog,tt:=tt,C7:=[(82,Il)],res:=[Go.ResultVar.tmp 4],rs:=[Ty.int IntKind.i64],ps:=[PK.v (Ty.d0 false e8),PK.C5 82 [Ty.fn 79]],B9:=[(2,[(0,none),(1,none),(7,none),(8,none)])],nt:=19 }
theorem Jg:w7 DF:=x8 r7 ⟨b4E,trivial⟩
theorem JT:C0 DF Tryz.f95:=⟨rfl,rfl⟩
theorem VV (x0:List Int) (x1c0:Bool):exec DF 1000 [.code (d8 Tryz.prog 95)] (s8 Hd.ps ((x0,(x1c0,()),()))) =
  .ctL (g9 (d8 Tryz.prog 95) 2) (St.mk [(0,AV.val (Ty.d0 false e8) x0),(1,AV.C5 82 (AV.cons (AV.O5 (Ty.fn 79) x1c0) AV.nil)),(7,AV.val e8 (↑(List.length x0):Int)),(8,AV.val e8 (0:Int))] []):=by kernel_rfl
def Pk (v0:List Int) (AK:Bool) (v7:Int) (v8:Int):St:=St.mk [(0,AV.val (Ty.d0 false e8) v0),(1,AV.C5 82 (AV.cons (AV.O5 (Ty.fn 79) AK) AV.nil)),(7,AV.val e8 v7),(8,AV.val e8 v8)] []
theorem XT (v0:List Int) (AK:Bool) (v7:Int) (v8:Int):exec DF 1000 (.code (g9 (d8 Tryz.prog 95) 2).1::.inLoop (g9 (d8 Tryz.prog 95) 2).1::(g9 (d8 Tryz.prog 95) 2).2) (Pk v0 AK v7 v8) =
  cond (decide (v8<v7)) (.f7 ((0:Int)<=v8/\v8<(↑(List.length v0):Int)) (.f7 (AK=true) (cond (U1 (List.getD v0 (Int.toNat v8) (0:Int))) (.ret ((v8,()))) (.f7 (r9 IntKind.i64 (v8+(1:Int))) (.ctL (g9 (d8 Tryz.prog 95) 2) (St.mk [(0,AV.val (Ty.d0 false e8) v0),(1,AV.C5 82 (AV.cons (AV.O5 (Ty.fn 79) AK) AV.nil)),(7,AV.val e8 v7),(8,AV.val e8 (v8+(1:Int)))] [])))))) (.ret (((-1:Int),()))):=by kernel_rfl
theorem b8p:Hd.Valid Tryz.prog 95:=by
  refine p9.n9 Jg rfl rfl Tryz.func95 (c:=d8 Tryz.prog 95) rfl rfl JT rfl ?_;rintro ⟨(l:List (Int)),⟨(b:Bool),⟨⟩⟩,⟨⟩⟩ hp ⟨⟨hl,-⟩,-⟩;have hl:l.length<=9223372036854775807:=hl;have hp:b=true:=hp;refine j7 (n:=1000) Jg JT ?_;refine i8 (VV l b) ?_;refine Reach.M8 Jg JT (λ i:Nat=>Pk l b (l.length:Int) (i:Int)) (λ i=>i<=l.length/\idxOf (U1) l=V5 (U1) (l.drop i) i)
    (λ i=>l.length - i) 1000 (λ _=>⟨u6 rfl,u6 rfl⟩) ?_ 0 ⟨by omega,rfl⟩
  rintro i ⟨k1,k2⟩ - ih;refine i8 (XT ..) ?_;simp only [j8,Tree.holds,sL];refine ⟨λ h=>?_,λ h=>?_⟩
  . rw [Kv (show i<l.length by omega) 0,V5] at k2;refine ⟨by omega,λ _=>⟨hp,λ _=>⟨λ c=>?_,λ c=>⟨by omega,λ _=>ih (i+1) ⟨by omega,?_⟩ (by omega)⟩⟩⟩⟩
    . show (((i:Int),()):Int×Unit)=(idxOf (U1) l,());rw [k2,if_pos (show (U1) (l.getD i 0)=true from c)]
    . rw [k2,if_neg (show ¬ (U1) (l.getD i 0)=true from λ h9=>Bool.noConfusion (Eq.trans (Eq.symm h9) c))]
  . rw [List.drop_eq_nil_of_le (by omega)] at k2;show (((-1:Int),()):Int×Unit)=(idxOf (U1) l,());rw [k2]; rfl
def HO:p9:={ ps:=[.v (.d0 false e8),.C5 82 [.fn 79]],rs:=[.bool],pre:=λ x=>Eq (α:=Bool) x.2.1.1 true,fn:=λ x=>(List.any (α:=Int) x.1 (U1),()),out:=λ _=>() }
noncomputable def HH:Env:={ P:=Tryz.prog,tt:=tt,C7:=[(95,Hd)],res:=[Go.ResultVar.tmp 4],rs:=[Ty.bool],ps:=[PK.v (Ty.d0 false e8),PK.C5 82 [Ty.fn 79]],B9:=[],nt:=9 }
theorem QI:w7 HH:=x8 r7 ⟨b8p,trivial⟩
theorem RU:C0 HH Tryz.f81:=⟨rfl,rfl⟩
theorem XE (x0:List Int) (x1c0:Bool):exec HH 1000 [.code (d8 Tryz.prog 81)] (s8 HO.ps ((x0,(x1c0,()),()))) =
  .f7 (x1c0=true) (.ret ((decide ((0:Int)<=idxOf U1 x0),()))):=by kernel_rfl
theorem b6i:HO.Valid Tryz.prog 81:=by
  refine p9.n9 QI rfl rfl Tryz.func81 (c:=d8 Tryz.prog 81) rfl rfl RU rfl ?_;rintro ⟨(l:List (Int)),⟨(b:Bool),⟨⟩⟩,⟨⟩⟩ hp -
  refine j7 (n:=1000) QI RU ?_;refine i8 (XE l b) ?_;refine ⟨hp,λ _=>?_⟩;show ((decide (0<=idxOf (U1) l),()):Bool×Unit)=(l.any (U1),());rw [NI]
def wB (n:C1):Bool:=I6 n.1 0 255 && I6 n.2.1 0 5 && I6 n.2.2.1 0 5 && I6 n.2.2.2.1 0 16777215 && I6 n.2.2.2.2.1 0 16777215
def I0 (n:C1):Int :=
  if wB n=false then 1 else if n.2.2.2.2.2.1.any U1=true then 1 else if 200<n.2.2.2.2.2.2.1.length then 2 else 0
def En:p9:={ ps:=[.v zG],rs:=[e8],pre:=λ _=>True,fn:=λ x=>(I0 x.1,()),out:=λ _=>() }
noncomputable def IM:Env:={ P:=Tryz.prog,tt:=tt,C7:=[(80,Dc),(79,CX),(81,HO)],res:=[Go.ResultVar.tmp 2],rs:=[Ty.int IntKind.i64],ps:=[PK.v (Ty.pair e8 (Ty.pair e8 (Ty.pair e8 (Ty.pair e8 (Ty.pair e8 (Ty.pair Y4 (Ty.pair Ty.str Ty.unit)))))))],B9:=[],nt:=45 }
theorem SF:w7 IM:=x8 r7 ⟨Sp,Ss,b6i,trivial⟩
theorem Sj:C0 IM Tryz.f65:=⟨rfl,rfl⟩
theorem ZD (aN:Int) (ab:Int) (ae:Int) (aa:Int) (aY:Int) (aU:List Int) (bd:yY):exec IM 1000 [.code (d8 Tryz.prog 65)] (s8 En.ps (((aN,ab,ae,aa,aY,aU,bd,()),()))) =
  .f7 (True) (cond (!I6 aN (0:Int) (255:Int)) (.ret (((1:Int),()))) (.f7 (True) (cond (!I6 ab (0:Int) (5:Int)) (.ret (((1:Int),()))) (.f7 (True) (cond (!I6 ae (0:Int) (5:Int)) (.ret (((1:Int),()))) (.f7 (true=true/\True) (cond (!I6 aa (0:Int) (16777215:Int)) (.ret (((1:Int),()))) (.f7 (true=true/\True) (cond (!I6 aY (0:Int) (16777215:Int)) (.ret (((1:Int),()))) (.f7 ((0:Int)<=(0:Int)/\(0:Int)<=(↑6:Int)/\(↑6:Int)<=(↑6:Int)) (.f7 (true=true) (cond (List.any (o5 (0:Int) (↑6:Int) aU) U1) (.ret (((1:Int),()))) (cond (decide ((200:Int)<(↑(List.length bd):Int))) (.ret (((2:Int),()))) (.ret (((0:Int),())))))))))))))))):=by kernel_rfl
theorem NA {α:Type} {l:List α} {n:Nat} (h:l.length=n):o5 0 (n:Int) l=l:=by subst h; simp [o5]
theorem Ul:En.Valid Tryz.prog 65:=by
  refine p9.n9 SF rfl rfl Tryz.func65 (c:=d8 Tryz.prog 65) rfl rfl Sj rfl ?_;rintro ⟨⟨(a:Int),(b:Int),(c:Int),(d:Int),(e:Int),(v:List Int),(t:yY),⟨⟩⟩,⟨⟩⟩ - ⟨⟨-,-,-,-,-,⟨hv,-⟩,-⟩,-⟩;have hv:v.length=6:=hv;refine j7 (n:=1000) SF Sj ?_;refine i8 (ZD a b c d e v t) ?_;have hc:o5 0 6 v=v:=NA hv;have bad:wB (a,b,c,d,e,v,t,())=false->(((1:Int),()):Int×Unit)=(I0 (a,b,c,d,e,v,t,()),()):=λ h=>by rw [I0,if_pos h]
  simp only [j8,Tree.holds,hc,sL];refine ⟨λ h=>bad (by simp [wB,h]),λ h1=>⟨λ h=>bad (by simp [wB,h]),λ h2=>⟨λ h=>bad (by simp [wB,h]),λ h3=>⟨λ h=>bad (by simp [wB,h]),λ h4=>⟨λ h=>bad (by simp [wB,h]),λ h5=>⟨by omega,λ _=>⟨λ h=>?_,λ h6=>⟨λ h=>?_,λ h=>?_⟩⟩⟩⟩⟩⟩⟩⟩
  all_goals have hw:wB (a,b,c,d,e,v,t,())≠false:=by simp [wB,h1,h2,h3,h4,h5]
  . show (((1:Int),()):Int×Unit)=(I0 (a,b,c,d,e,v,t,()),());rw [I0,if_neg hw,if_pos h]
  . show (((2:Int),()):Int×Unit)=(I0 (a,b,c,d,e,v,t,()),());rw [I0,if_neg hw,if_neg (λ h9=>Bool.noConfusion (Eq.trans (Eq.symm h9) h6)),if_pos (by show 200<t.length; omega)]
  . show (((0:Int),()):Int×Unit)=(I0 (a,b,c,d,e,v,t,()),());rw [I0,if_neg hw,if_neg (λ h9=>Bool.noConfusion (Eq.trans (Eq.symm h9) h6)),if_neg (by show ¬ 200<t.length; omega)]
structure HT (n:C1):Prop where
  kind:0<=n.1/\n.1<=255
  from_:0<=n.2.1/\n.2.1<=5
  to:0<=n.2.2.1/\n.2.2.1<=5
  view:0<=n.2.2.2.1/\n.2.2.2.1<=16777215
  seq:0<=n.2.2.2.2.1/\n.2.2.2.2.1<=16777215
  at_:∀ x∈n.2.2.2.2.2.1,0<=x/\x<=16777215
  text:n.2.2.2.2.2.2.1.length<=200
theorem KV {n:C1} (h:I0 n=0):HT n:=by
  unfold I0 at h;split at h
  . cases h
  split at h
  . cases h
  split at h
  . cases h
  . rename_i h1 h2 h3;have h1:wB n=true:=by cases e:wB n with|true=>rfl|false=>exact absurd e h1
    simp only [wB,Bool.and_eq_true,V4] at h1;obtain ⟨⟨⟨⟨a,b⟩,c⟩,d⟩,e⟩:=h1;refine ⟨a,b,c,d,e,λ x hx=>?_,by omega⟩;have h2:n.2.2.2.2.2.1.any U1=false:=by cases e:n.2.2.2.2.2.1.any U1 with|false=>rfl|true=>exact absurd e h2
    have:=List.any_eq_false.1 h2 x hx;rw [U1,Bool.not_eq_true,Bool.not_eq_false'] at this;exact V4.1 this
def U7 (n:Int):List Int:=[IntKind.wrap .u8 n,IntKind.wrap .u8 (n / 256),IntKind.wrap .u8 (n / 65536)]
def DO:p9:={ ps:=[.v e8],rs:=[.d0 true (.int .u8)],pre:=λ _=>True,fn:=λ x=>(U7 x.1,()),out:=λ _=>() }
noncomputable def HY:Env:={ P:=Tryz.prog,tt:=tt,C7:=[],res:=[Go.ResultVar.tmp 2],rs:=[Ty.d0 true U8],ps:=[PK.v e8],B9:=[],nt:=12 }
theorem QV:w7 HY:=x8 r7 trivial
theorem Rz:C0 HY Tryz.f77:=⟨rfl,rfl⟩
theorem YS (x0:Int):exec HY 1000 [.code (d8 Tryz.prog 77)] (s8 DO.ps ((x0,()))) =
  .f7 ((0:Int)<=(8:Int)) (.f7 ((0:Int)<=(16:Int)) (.ret ((List.set (List.set (List.set [(0:Int),(0:Int),(0:Int)] (Int.toNat (↑0:Int)) (IntKind.wrap IntKind.u8 x0)) (Int.toNat (↑1:Int)) (IntKind.wrap IntKind.u8 (x0 / (2:Int)^min (Int.toNat (8:Int)) (IntKind.bits IntKind.i64)))) (Int.toNat (↑2:Int)) (IntKind.wrap IntKind.u8 (x0 / (2:Int)^min (Int.toNat (16:Int)) (IntKind.bits IntKind.i64))),())))):=by kernel_rfl
theorem TZ:DO.Valid Tryz.prog 77:=by
  refine p9.n9 QV rfl rfl Tryz.func77 (c:=d8 Tryz.prog 77) rfl rfl Rz rfl ?_;rintro ⟨(n:Int),⟨⟩⟩ - -
  refine j7 (n:=1000) QV Rz ?_;refine i8 (YS n) ?_;exact ⟨Int.le.intro 8 rfl,λ _=>⟨Int.le.intro 16 rfl,λ _=>rfl⟩⟩
def wk (x:Nat):List Int:=(le4 x).map (λ b=>(b.toNat:Int))
theorem EG (x:Nat):(UInt8.ofNat x).toNat=x % 256:=by simp
theorem Wr (x:Nat):wk x=[(x:Int) % 256,(x:Int) / 256 % 256,(x:Int) / 65536 % 256,(x:Int) / 16777216 % 256]:=by
  simp only [wk,le4,List.map_cons,List.map_nil,EG];simp only [List.cons.injEq,and_true];refine ⟨by omega,by omega,by omega,by omega⟩
theorem c3f (n:Int):U7 n=[n % 256,n / 256 % 256,n / 65536 % 256]:=rfl
def Dr:p9:={ ps:=[.v (.int .u32)],rs:=[.d0 true (.int .u8)],pre:=λ _=>True,fn:=λ x=>(wk (Int.toNat x.1),()),out:=λ _=>() }
noncomputable def Gy:Env:={ P:=Tryz.prog,tt:=tt,C7:=[(77,DO)],res:=[Go.ResultVar.tmp 2],rs:=[Ty.d0 true U8],ps:=[PK.v (Ty.int IntKind.u32)],B9:=[],nt:=11 }
theorem Pb:w7 Gy:=x8 r7 ⟨TZ,trivial⟩
theorem PA:C0 Gy Tryz.f62:=⟨rfl,rfl⟩
theorem VL (x0:Int):exec Gy 1000 [.code (d8 Tryz.prog 62)] (s8 Dr.ps ((x0,()))) =
  .f7 (True) (.f7 ((0:Int)<=(24:Int)) (.f7 (List.length (U7 (IntKind.wrap IntKind.i64 x0))+List.length (List.set [(0:Int)] (Int.toNat (↑0:Int)) (IntKind.wrap IntKind.u8 (x0 / (2:Int)^min (Int.toNat (24:Int)) (IntKind.bits IntKind.u32))))<=140737488355328/\(List.length (U7 (IntKind.wrap IntKind.i64 x0))+List.length (List.set [(0:Int)] (Int.toNat (↑0:Int)) (IntKind.wrap IntKind.u8 (x0 / (2:Int)^min (Int.toNat (24:Int)) (IntKind.bits IntKind.u32)))))*Ty.wb U8<=140737488355328) (.ret ((U7 (IntKind.wrap IntKind.i64 x0)++List.set [(0:Int)] (Int.toNat (↑0:Int)) (IntKind.wrap IntKind.u8 (x0 / (2:Int)^min (Int.toNat (24:Int)) (IntKind.bits IntKind.u32))),()))))):=by kernel_rfl
theorem Tt:Dr.Valid Tryz.prog 62:=by
  refine p9.n9 Pb rfl rfl Tryz.func62 (c:=d8 Tryz.prog 62) rfl rfl PA rfl ?_;rintro ⟨(n:Int),⟨⟩⟩ - ⟨hr,-⟩;have hr:0<=n/\n<=4294967295:=Ap.1 hr;refine j7 (n:=1000) Pb PA ?_;refine i8 (VL n) ?_;have hw:IntKind.wrap .i64 n=n:=Q9 (G5.2 ⟨by omega,by omega⟩);simp only [j8,Tree.holds,hw,Hh,c3f,sL];refine ⟨by omega,λ _=>⟨by omega,λ _=>?_⟩⟩;obtain ⟨x,rfl⟩:=Int.eq_ofNat_of_zero_le hr.1;show (([(x:Int) % 256,(x:Int) / 256 % 256,(x:Int) / 65536 % 256,(x:Int) / 16777216 % 256],()):List Int×Unit)=(wk (Int.toNat (x:Int)),());rw [Int.toNat_natCast,Wr]
def xj (l:List Int):yY:=l.map (λ n=>UInt8.ofNat n.toNat)
theorem KP (t:yY):xj (t.map (λ b=>(b.toNat:Int)))=t:=by
  rw [xj,List.map_map];have:((λ n:Int=>UInt8.ofNat n.toNat) ∘ λ b:UInt8=>(b.toNat:Int))=id:=by
    funext b
    simp
  rw [this,List.map_id]
theorem EU (l m:List Int):xj (l++m)=xj l++xj m:=List.map_append
def Bo (n:C1):List Int:=[IntKind.wrap .u8 n.1,IntKind.wrap .u8 n.2.1,IntKind.wrap .u8 n.2.2.1]
def Z2 (n:C1):List Int:=n.2.2.2.1::n.2.2.2.2.1::n.2.2.2.2.2.1
def yS (n:C1):List Int:=Bo n++(Z2 n).flatMap U7++n.2.2.2.2.2.2.1.map (λ b=>(b.toNat:Int))
def we (n:C1):yY:=xj (yS n)
def vA (n:C1):yY:=we n++le4 (vB (we n))
def U5 (n:C1):yY×Int×Unit:=if I0 n≠0 then ([],I0 n,()) else (vA n,0,())
def GM:p9:={ ps:=[.v zG],rs:=[.str,e8],pre:=λ _=>True,fn:=λ x=>U5 x.1,out:=λ _=>() }
noncomputable def Bc:Env:={ P:=Tryz.prog,tt:=tt,C7:=[(65,En),(77,DO),(62,Dr),(63,CZ)],res:=[Go.ResultVar.tmp 2,Go.ResultVar.tmp 3],rs:=[Ty.str,Ty.int IntKind.i64],ps:=[PK.v (Ty.pair e8 (Ty.pair e8 (Ty.pair e8 (Ty.pair e8 (Ty.pair e8 (Ty.pair Y4 (Ty.pair Ty.str Ty.unit)))))))],B9:=[(6,[(1,none),(5,some (Ty.d0 true U8)),(30,some Is),(31,none),(32,none)])],nt:=52 }
theorem Jj:w7 Bc:=x8 r7 ⟨Ul,TZ,Tt,Sx,trivial⟩
theorem a93:C0 Bc Tryz.f60:=⟨rfl,rfl⟩
theorem Xx (aN:Int) (ab:Int) (ae:Int) (aa:Int) (aY:Int) (aU:List Int) (bd:yY):exec Bc 1000 [.code (d8 Tryz.prog 60)] (s8 GM.ps (((aN,ab,ae,aa,aY,aU,bd,()),()))) =
  .f7 (True) (cond (decide (I0 (aN,ab,ae,aa,aY,aU,bd,())≠(0:Int))) (.ret ((Array.toList (ByteArray.data (ByteArray.mk #[])),I0 (aN,ab,ae,aa,aY,aU,bd,()),()))) (.f7 ((0:Int)<=(0:Int)/\(0:Int)<=(↑6:Int)/\(↑6:Int)<=(↑6:Int)) (.f7 (List.length (List.set (List.set [(0:Int),(0:Int)] (Int.toNat (↑0:Int)) aa) (Int.toNat (↑1:Int)) aY)+List.length (o5 (0:Int) (↑6:Int) aU)<=140737488355328/\(List.length (List.set (List.set [(0:Int),(0:Int)] (Int.toNat (↑0:Int)) aa) (Int.toNat (↑1:Int)) aY)+List.length (o5 (0:Int) (↑6:Int) aU))*Ty.wb e8<=140737488355328) (.ctL (g9 (d8 Tryz.prog 60) 6) (St.mk [(1,AV.ptr 1 []),(5,AV.at_ 1000005 []),(30,AV.at_ 1000030 []),(31,AV.val e8 (↑(List.length (List.set (List.set [(0:Int),(0:Int)] (Int.toNat (↑0:Int)) aa) (Int.toNat (↑1:Int)) aY++o5 (0:Int) (↑6:Int) aU)):Int)),(32,AV.val e8 (0:Int))] [(1,i7.var (Ty.pair e8 (Ty.pair e8 (Ty.pair e8 (Ty.pair e8 (Ty.pair e8 (Ty.pair Y4 (Ty.pair Ty.str Ty.unit))))))) (aN,ab,ae,aa,aY,aU,bd,())),(1000005,i7.own (Ty.d0 true U8) (List.set (List.set (List.set [(0:Int),(0:Int),(0:Int)] (Int.toNat (↑0:Int)) (IntKind.wrap IntKind.u8 aN)) (Int.toNat (↑1:Int)) (IntKind.wrap IntKind.u8 ab)) (Int.toNat (↑2:Int)) (IntKind.wrap IntKind.u8 ae))),(1000030,i7.own Is (List.set (List.set [(0:Int),(0:Int)] (Int.toNat (↑0:Int)) aa) (Int.toNat (↑1:Int)) aY++o5 (0:Int) (↑6:Int) aU))]))))):=by kernel_rfl
def Jk (v31:Int) (wD:Int) (eF:Int) (cU:Int) (dU:Int) (cT:Int) (cx:Int) (bS:List Int) (aL:yY) (cG:List Int) (ec:List Int):St:=St.mk [(1,AV.ptr 1 []),(5,AV.at_ 1000005 []),(30,AV.at_ 1000030 []),(31,AV.val e8 v31),(32,AV.val e8 wD)] [(1,i7.var (Ty.pair e8 (Ty.pair e8 (Ty.pair e8 (Ty.pair e8 (Ty.pair e8 (Ty.pair Y4 (Ty.pair Ty.str Ty.unit))))))) (eF,cU,dU,cT,cx,bS,aL,())),(1000005,i7.own (Ty.d0 true U8) cG),(1000030,i7.own Is ec)]
theorem YQ (v31:Int) (wD:Int) (eF:Int) (cU:Int) (dU:Int) (cT:Int) (cx:Int) (bS:List Int) (aL:yY) (cG:List Int) (ec:List Int):exec Bc 1000 (.code (g9 (d8 Tryz.prog 60) 6).1::.inLoop (g9 (d8 Tryz.prog 60) 6).1::(g9 (d8 Tryz.prog 60) 6).2) (Jk v31 wD eF cU dU cT cx bS aL cG ec) =
  cond (decide (wD<v31)) (.f7 ((0:Int)<=wD/\wD<(↑(List.length ec):Int)) (.f7 (True) (.f7 (List.length cG+List.length (U7 (List.getD ec (Int.toNat wD) (0:Int)))<=140737488355328/\(List.length cG+List.length (U7 (List.getD ec (Int.toNat wD) (0:Int))))*Ty.wb U8<=140737488355328) (.f7 (r9 IntKind.i64 (wD+(1:Int))) (.ctL (g9 (d8 Tryz.prog 60) 6) (St.mk [(1,AV.ptr 1 []),(5,AV.at_ 1000005 []),(30,AV.at_ 1000030 []),(31,AV.val e8 v31),(32,AV.val e8 (wD+(1:Int)))] [(1,i7.var (Ty.pair e8 (Ty.pair e8 (Ty.pair e8 (Ty.pair e8 (Ty.pair e8 (Ty.pair Y4 (Ty.pair Ty.str Ty.unit))))))) (eF,cU,dU,cT,cx,bS,aL,())),(1000005,i7.own (Ty.d0 true U8) (cG++U7 (List.getD ec (Int.toNat wD) (0:Int)))),(1000030,i7.own Is ec)])))))) (.f7 (List.length cG+List.length (List.map (λ b=>(↑(UInt8.toNat b):Int)) aL)<=140737488355328/\(List.length cG+List.length (List.map (λ b=>(↑(UInt8.toNat b):Int)) aL))*Ty.wb U8<=140737488355328) (.f7 (True) (.f7 (True) (.f7 (List.length (cG++List.map (λ b=>(↑(UInt8.toNat b):Int)) aL)+List.length (wk (Int.toNat (↑(vB (List.map (λ n=>UInt8.ofNat (Int.toNat n)) (cG++List.map (λ b=>(↑(UInt8.toNat b):Int)) aL))):Int)))<=140737488355328/\(List.length (cG++List.map (λ b=>(↑(UInt8.toNat b):Int)) aL)+List.length (wk (Int.toNat (↑(vB (List.map (λ n=>UInt8.ofNat (Int.toNat n)) (cG++List.map (λ b=>(↑(UInt8.toNat b):Int)) aL))):Int))))*Ty.wb U8<=140737488355328) (.ret ((List.map (λ n=>UInt8.ofNat (Int.toNat n)) (cG++List.map (λ b=>(↑(UInt8.toNat b):Int)) aL++wk (Int.toNat (↑(vB (List.map (λ n=>UInt8.ofNat (Int.toNat n)) (cG++List.map (λ b=>(↑(UInt8.toNat b):Int)) aL))):Int))),(0:Int),()))))))):=by kernel_rfl
theorem Ru (l:List Int):(l.flatMap U7).length=3*l.length:=by
  induction l with
  | nil=>rfl
  | cons x l ih=>rw [List.flatMap_cons,List.length_append,ih,U7]; simp; omega
theorem b8e:GM.Valid Tryz.prog 60:=by
  refine p9.n9 Jj rfl rfl Tryz.func60 (c:=d8 Tryz.prog 60) rfl rfl a93 rfl ?_;rintro ⟨⟨(a:Int),(b:Int),(c:Int),(d:Int),(e:Int),(v:List Int),(t:yY),⟨⟩⟩,⟨⟩⟩ - ⟨⟨-,-,-,-,-,⟨hv,-⟩,-⟩,-⟩;have hv:v.length=6:=hv;obtain ⟨n,hn⟩:∃ n:C1,n=(a,b,c,d,e,v,t,()):=⟨_,rfl⟩;refine j7 (n:=1000) Jj a93 ?_;refine i8 (Xx a b c d e v t) ?_;have hc:o5 0 6 v=v:=NA hv;have h0:List.set (List.set [(0:Int),0] (Int.toNat ((0:Nat):Int)) d) (Int.toNat ((1:Nat):Int)) e++v=Z2 n:=by rw [hn]; rfl
  have uW:∀ m:List Int,List.set (List.set [(0:Int),0] (Int.toNat 0) d) (Int.toNat 1) e++m=d::e::m:=λ m=>rfl;rw [<- hn];have e6:o5 0 6 v=v:=hc;simp only [j8,Tree.holds,hc,Hh,Vz,sL];refine ⟨λ h=>?_,λ h=>⟨by omega,λ _=>⟨by omega,λ _=>?_⟩⟩⟩
  . show (([],I0 n,()):yY×Int×Unit)=U5 n;rw [U5,if_pos h]
  have aM:=KV (n:=n) (by omega);have ht:t.length<=200:=by have:=aM.text; rw [hn] at this; exact this
  have mE:(Z2 n).length=8:=by rw [hn]; show (d::e::v).length=8; simp [hv]
  suffices go:Go.Ex.Reach Bc Tryz.f60 (U5 n) () (.code (g9 (d8 Tryz.prog 60) 6).1::.inLoop (g9 (d8 Tryz.prog 60) 6).1::(g9 (d8 Tryz.prog 60) 6).2) (Jk ((Z2 n).length:Int) ((0:Nat):Int) a b c d e v t (Bo n++((Z2 n).take 0).flatMap U7) (Z2 n)) by
    subst hn;exact go
  refine Reach.M8 Jj a93 (λ i:Nat=>Jk ((Z2 n).length:Int) (i:Int) a b c d e v t (Bo n++((Z2 n).take i).flatMap U7) (Z2 n)) (λ i=>i<=(Z2 n).length)
    (λ i=>(Z2 n).length - i) 1000 (λ _=>⟨u6 rfl,u6 rfl⟩) ?_ 0 (Nat.zero_le _)
  . rintro i k1 - ih;have k1:i<=(Z2 n).length:=k1;refine i8 (YQ ..) ?_;have hl:(Bo n++((Z2 n).take i).flatMap U7).length=3+3*i:=by
      rw [List.length_append,Ru,List.length_take];show 3+_=_;omega
    have sO:∀ x,(U7 x).length=3:=λ _=>rfl;simp only [j8,Tree.holds,Hh,hl,sO,sL];refine ⟨λ c1=>⟨by omega,λ _=>⟨by omega,λ _=>⟨by omega,λ _=>?_⟩⟩⟩,λ c1=>?_⟩
    . have:=ih (i+1) (by show i+1<=(Z2 n).length; omega) (by omega);rw [Fj (show i<(Z2 n).length by omega) 0,List.flatMap_append,<- List.append_assoc] at this;simp only [List.flatMap_cons,List.flatMap_nil,List.append_nil] at this;exact this
    . rw [List.take_of_length_le (by omega)] at hl ⊢;have hb:Bo n++(Z2 n).flatMap U7++List.map (λ b:UInt8=>(b.toNat:Int)) t=yS n:=by rw [yS,hn]
      have bM:(yS n).length=27+t.length:=by rw [<- hb,List.length_append,hl,List.length_map]; omega
      have h4:∀ x,(wk x).length=4:=λ _=>rfl;rw [hb];simp only [j8,Tree.holds,bM,h4,List.length_map,sL];refine ⟨by omega,λ _=>⟨by omega,λ _=>?_⟩⟩;show ((xj (yS n++wk (vB (xj (yS n)))),0,()):yY×Int×Unit)=U5 n;rw [U5,if_neg h,EU,vA,wk,KP];rfl
def wa (s:yY) (i:Nat):Int:=((s.getD i 0).toNat:Int)
def vk (s:yY) (k:Nat):Int:=wa s (3+3*k)+wa s (4+3*k)*256+wa s (5+3*k)*65536
def GK:p9:={ ps:=[.v e8,.rd .str],rs:=[e8],pre:=λ x=>LE.le (α:=Int) 0 x.1/\LT.lt (α:=Int) (5+3*(show Int from x.1)) (List.length x.2.1),fn:=λ x=>(vk x.2.1 (Int.toNat x.1),()),out:=λ _=>() }
noncomputable def Gn:Env:={ P:=Tryz.prog,tt:=tt,C7:=[],res:=[Go.ResultVar.tmp 3],rs:=[Ty.int IntKind.i64],ps:=[PK.v e8,PK.rd Ty.str],B9:=[],nt:=26 }
theorem PS:w7 Gn:=x8 r7 trivial
theorem PM:C0 Gn Tryz.f64:=⟨rfl,rfl⟩
theorem Xv (x0:Int) (x1:yY):exec Gn 1000 [.code (d8 Tryz.prog 64)] (s8 GK.ps ((x0,x1,()))) =
  .f7 (r9 IntKind.i64 ((3:Int)*x0)) (.f7 (r9 IntKind.i64 ((3:Int)+(3:Int)*x0)) (.f7 ((0:Int)<=(3:Int)+(3:Int)*x0/\(3:Int)+(3:Int)*x0<(↑(List.length x1):Int)) (.f7 (r9 IntKind.i64 ((3:Int)+(3:Int)*x0+(1:Int))) (.f7 ((0:Int)<=(3:Int)+(3:Int)*x0+(1:Int)/\(3:Int)+(3:Int)*x0+(1:Int)<(↑(List.length x1):Int)) (.f7 ((0:Int)<=(8:Int)) (.f7 (r9 IntKind.i64 ((3:Int)+(3:Int)*x0+(2:Int))) (.f7 ((0:Int)<=(3:Int)+(3:Int)*x0+(2:Int)/\(3:Int)+(3:Int)*x0+(2:Int)<(↑(List.length x1):Int)) (.f7 ((0:Int)<=(16:Int)) (.ret ((bOr IntKind.i64 (bOr IntKind.i64 (IntKind.wrap IntKind.i64 (↑(UInt8.toNat (List.getD x1 (Int.toNat ((3:Int)+(3:Int)*x0)) (0:UInt8))):Int)) (IntKind.wrap IntKind.i64 (IntKind.wrap IntKind.i64 (↑(UInt8.toNat (List.getD x1 (Int.toNat ((3:Int)+(3:Int)*x0+(1:Int))) (0:UInt8))):Int)*(2:Int)^min (Int.toNat (8:Int)) (IntKind.bits IntKind.i64)))) (IntKind.wrap IntKind.i64 (IntKind.wrap IntKind.i64 (↑(UInt8.toNat (List.getD x1 (Int.toNat ((3:Int)+(3:Int)*x0+(2:Int))) (0:UInt8))):Int)*(2:Int)^min (Int.toNat (16:Int)) (IntKind.bits IntKind.i64))),()))))))))))):=by kernel_rfl
theorem Mc {x y:Nat} (hx:x<9223372036854775808) (hy:y<9223372036854775808):bOr .i64 (x:Int) (y:Int)=((x ||| y:Nat):Int):=by
  unfold bOr;have e1:(BitVec.ofInt (IntKind.bits .i64) (x:Int) ||| BitVec.ofInt (IntKind.bits .i64) (y:Int)).toNat=x ||| y:=by
    show (BitVec.ofInt 64 (x:Int) ||| BitVec.ofInt 64 (y:Int)).toNat=x ||| y
    rw [BitVec.toNat_or,BitVec.toNat_ofInt,BitVec.toNat_ofInt];congr 1<;>omega
  rw [e1];have:=Nat.or_lt_two_pow (n:=63) hx hy;exact Q9 (G5.2 ⟨by omega,by omega⟩)
theorem MV {x y k:Nat} (hx:x<2^k):x ||| (y*2^k)=x+y*2^k:=by
  rw [Nat.or_comm,<- Nat.shiftLeft_eq,<- Nat.shiftLeft_add_eq_or_of_lt hx,Nat.add_comm]
theorem b8h:GK.Valid Tryz.prog 64:=by
  refine p9.n9 PS rfl rfl Tryz.func64 (c:=d8 Tryz.prog 64) rfl rfl PM rfl ?_;rintro ⟨(k:Int),(s:yY),⟨⟩⟩ ⟨h0,h1⟩ ⟨-,hs,-⟩;have h0:0<=k:=h0;have h1:5+3*k<(s.length:Int):=h1;have hs:s.length<=9223372036854775807:=hs;obtain ⟨m,rfl⟩:=Int.eq_ofNat_of_zero_le h0;refine j7 (n:=1000) PS PM ?_;refine i8 (Xv (m:Int) s) ?_;simp only [j8,Tree.holds,sL];refine ⟨by omega,λ _=>⟨by omega,λ _=>⟨by omega,λ _=>⟨by omega,λ _=>⟨by omega,λ _=>⟨Int.le.intro 8 rfl,λ _=>⟨by omega,λ _=>⟨by omega,λ _=>⟨Int.le.intro 16 rfl,λ _=>?_⟩⟩⟩⟩⟩⟩⟩⟩⟩;have e1:Int.toNat (3+3*(m:Int))=3+3*m:=by omega
  have e2:Int.toNat (3+3*(m:Int)+1)=4+3*m:=by omega
  have e3:Int.toNat (3+3*(m:Int)+2)=5+3*m:=by omega
  rw [e1,e2,e3];show ((_,()):Int×Unit)=(vk s (Int.toNat (m:Int)),());rw [Int.toNat_natCast];have a1:=(s.getD (3+3*m) 0).toNat_lt;have a2:=(s.getD (4+3*m) 0).toNat_lt;have a3:=(s.getD (5+3*m) 0).toNat_lt;unfold vk wa;generalize (s.getD (3+3*m) 0).toNat=x at *
  generalize (s.getD (4+3*m) 0).toNat=y at *
  generalize (s.getD (5+3*m) 0).toNat=z at *
  have w:∀ q:Nat,q<16777216->IntKind.wrap .i64 (q:Int)=(q:Int):=λ q hq=>Q9 (G5.2 ⟨by omega,by omega⟩);have p8:(2:Int)^min (Int.toNat 8) (IntKind.bits .i64)=256:=rfl;have UD:(2:Int)^min (Int.toNat 16) (IntKind.bits .i64)=65536:=rfl;rw [w x (by omega),w y (by omega),w z (by omega),p8,UD,show (y:Int)*256=((y*2^8:Nat):Int) by omega,show (z:Int)*65536=((z*2^16:Nat):Int) by omega,w _ (by omega),w _ (by omega),Mc (by omega) (by omega),MV (k:=8) (by omega),Mc (by omega) (by omega),MV (k:=16) (by omega)];congr 1
def xt:C1:=(0,0,0,0,0,[0,0,0,0,0,0],[],())
def parse (s:yY):C1:=(wa s 0,wa s 1,wa s 2,vk s 0,vk s 1,[vk s 2,vk s 3,vk s 4,vk s 5,vk s 6,vk s 7],s.drop 27,())
def x6 (s:yY):C1×Int×Unit :=
  if 231<s.length then (xt,2,()) else if s.length<31 then (xt,3,()) else if le4 (vB (s.take (s.length - 4)))≠s.drop (s.length - 4) then (xt,5,())
  else if I0 (parse (s.take (s.length - 4)))≠0 then (xt,I0 (parse (s.take (s.length - 4))),()) else (parse (s.take (s.length - 4)),0,())
def GO:p9:={ ps:=[.v .str],rs:=[zG,e8],pre:=λ _=>True,fn:=λ x=>x6 x.1,out:=λ _=>() }
noncomputable def DH:Env:={ P:=Tryz.prog,tt:=tt,C7:=[(63,CZ),(62,Dr),(64,GK),(65,En)],res:=[Go.ResultVar.cell 2 91,Go.ResultVar.tmp 3],rs:=[Ty.pair e8 (Ty.pair e8 (Ty.pair e8 (Ty.pair e8 (Ty.pair e8 (Ty.pair Y4 (Ty.pair Ty.str Ty.unit)))))),Ty.int IntKind.i64],ps:=[PK.v Ty.str],B9:=[(11,[(2,none),(6,none),(7,none),(54,none)])],nt:=72 }
theorem Jl:w7 DH:=x8 r7 ⟨Sx,Tt,b8h,Ul,trivial⟩
theorem JV:C0 DH Tryz.f46:=⟨rfl,rfl⟩
theorem Xz (x0:yY):exec DH 1000 [.code (d8 Tryz.prog 46)] (s8 GO.ps ((x0,()))) =
  cond (decide ((231:Int)<(↑(List.length x0):Int))) (.ret ((((0:Int),(0:Int),(0:Int),(0:Int),(0:Int),[(0:Int),(0:Int),(0:Int),(0:Int),(0:Int),(0:Int)],[],()),(2:Int),()))) (cond (decide ((↑(List.length x0):Int)<(31:Int))) (.ret ((((0:Int),(0:Int),(0:Int),(0:Int),(0:Int),[(0:Int),(0:Int),(0:Int),(0:Int),(0:Int),(0:Int)],[],()),(3:Int),()))) (.f7 (r9 IntKind.i64 ((↑(List.length x0):Int) - (4:Int))) (.f7 ((0:Int)<=(0:Int)/\(0:Int)<=(↑(List.length x0):Int) - (4:Int)/\(↑(List.length x0):Int) - (4:Int)<=(↑(List.length x0):Int)) (.f7 (r9 IntKind.i64 ((↑(List.length x0):Int) - (4:Int))) (.f7 ((0:Int)<=(↑(List.length x0):Int) - (4:Int)/\(↑(List.length x0):Int) - (4:Int)<=(↑(List.length x0):Int)/\(↑(List.length x0):Int)<=(↑(List.length x0):Int)) (.f7 (True) (.f7 (True) (cond (decide (List.map (λ n=>UInt8.ofNat (Int.toNat n)) (wk (Int.toNat (↑(vB (o5 (0:Int) ((↑(List.length x0):Int) - (4:Int)) x0)):Int)))≠o5 ((↑(List.length x0):Int) - (4:Int)) (↑(List.length x0):Int) x0)) (.ret ((((0:Int),(0:Int),(0:Int),(0:Int),(0:Int),[(0:Int),(0:Int),(0:Int),(0:Int),(0:Int),(0:Int)],[],()),(5:Int),()))) (.f7 ((0:Int)<=(0:Int)/\(0:Int)<(↑(List.length (o5 (0:Int) ((↑(List.length x0):Int) - (4:Int)) x0)):Int)) (.f7 ((0:Int)<=(1:Int)/\(1:Int)<(↑(List.length (o5 (0:Int) ((↑(List.length x0):Int) - (4:Int)) x0)):Int)) (.f7 ((0:Int)<=(2:Int)/\(2:Int)<(↑(List.length (o5 (0:Int) ((↑(List.length x0):Int) - (4:Int)) x0)):Int)) (.f7 ((0:Int)<=(0:Int)/\(5:Int)+(3:Int)*(0:Int)<(↑(List.length (o5 (0:Int) ((↑(List.length x0):Int) - (4:Int)) x0)):Int)) (.f7 ((0:Int)<=(1:Int)/\(5:Int)+(3:Int)*(1:Int)<(↑(List.length (o5 (0:Int) ((↑(List.length x0):Int) - (4:Int)) x0)):Int)) (.f7 ((0:Int)<=(27:Int)/\(27:Int)<=(↑(List.length (o5 (0:Int) ((↑(List.length x0):Int) - (4:Int)) x0)):Int)/\(↑(List.length (o5 (0:Int) ((↑(List.length x0):Int) - (4:Int)) x0)):Int)<=(↑(List.length (o5 (0:Int) ((↑(List.length x0):Int) - (4:Int)) x0)):Int)) (.ctL (g9 (d8 Tryz.prog 46) 11) (St.mk [(2,AV.ptr 2 []),(6,AV.C5 64 (AV.cons (AV.ptr 4 []) AV.nil)),(7,AV.ptr 7 []),(54,AV.val e8 (0:Int))] [(2,i7.var (Ty.pair e8 (Ty.pair e8 (Ty.pair e8 (Ty.pair e8 (Ty.pair e8 (Ty.pair Y4 (Ty.pair Ty.str Ty.unit))))))) ((0:Int),(0:Int),(0:Int),(0:Int),(0:Int),[(0:Int),(0:Int),(0:Int),(0:Int),(0:Int),(0:Int)],[],())),(4,i7.var Ty.str (o5 (0:Int) ((↑(List.length x0):Int) - (4:Int)) x0)),(7,i7.var (Ty.pair e8 (Ty.pair e8 (Ty.pair e8 (Ty.pair e8 (Ty.pair e8 (Ty.pair Y4 (Ty.pair Ty.str Ty.unit))))))) (IntKind.wrap IntKind.i64 (↑(UInt8.toNat (List.getD (o5 (0:Int) ((↑(List.length x0):Int) - (4:Int)) x0) (Int.toNat (0:Int)) (0:UInt8))):Int),IntKind.wrap IntKind.i64 (↑(UInt8.toNat (List.getD (o5 (0:Int) ((↑(List.length x0):Int) - (4:Int)) x0) (Int.toNat (1:Int)) (0:UInt8))):Int),IntKind.wrap IntKind.i64 (↑(UInt8.toNat (List.getD (o5 (0:Int) ((↑(List.length x0):Int) - (4:Int)) x0) (Int.toNat (2:Int)) (0:UInt8))):Int),vk (o5 (0:Int) ((↑(List.length x0):Int) - (4:Int)) x0) (Int.toNat (0:Int)),vk (o5 (0:Int) ((↑(List.length x0):Int) - (4:Int)) x0) (Int.toNat (1:Int)),[(0:Int),(0:Int),(0:Int),(0:Int),(0:Int),(0:Int)],o5 (27:Int) (↑(List.length (o5 (0:Int) ((↑(List.length x0):Int) - (4:Int)) x0)):Int) (o5 (0:Int) ((↑(List.length x0):Int) - (4:Int)) x0),()))])))))))))))))))):=by kernel_rfl
def QU (vY:Int) (dS:Int) (cL:Int) (dR:Int) (cS:Int) (cw:Int) (bR:List Int) (bJ:yY) (o4:yY) (cK:Int) (bp:Int) (cA:Int) (bO:Int) (bu:Int) (bn:List Int) (bf:yY):St:=St.mk [(2,AV.ptr 2 []),(6,AV.C5 64 (AV.cons (AV.ptr 4 []) AV.nil)),(7,AV.ptr 7 []),(54,AV.val e8 vY)] [(2,i7.var (Ty.pair e8 (Ty.pair e8 (Ty.pair e8 (Ty.pair e8 (Ty.pair e8 (Ty.pair Y4 (Ty.pair Ty.str Ty.unit))))))) (dS,cL,dR,cS,cw,bR,bJ,())),(4,i7.var Ty.str o4),(7,i7.var (Ty.pair e8 (Ty.pair e8 (Ty.pair e8 (Ty.pair e8 (Ty.pair e8 (Ty.pair Y4 (Ty.pair Ty.str Ty.unit))))))) (cK,bp,cA,bO,bu,bn,bf,()))]
theorem ZB (vY:Int) (dS:Int) (cL:Int) (dR:Int) (cS:Int) (cw:Int) (bR:List Int) (bJ:yY) (o4:yY) (cK:Int) (bp:Int) (cA:Int) (bO:Int) (bu:Int) (bn:List Int) (bf:yY):exec DH 1000 (.code (g9 (d8 Tryz.prog 46) 11).1::.inLoop (g9 (d8 Tryz.prog 46) 11).1::(g9 (d8 Tryz.prog 46) 11).2) (QU vY dS cL dR cS cw bR bJ o4 cK bp cA bO bu bn bf) =
  cond (decide (vY<(6:Int))) (.f7 (r9 IntKind.i64 ((2:Int)+vY)) (.f7 ((0:Int)<=(2:Int)+vY/\(5:Int)+(3:Int)*((2:Int)+vY)<(↑(List.length o4):Int)) (.f7 ((0:Int)<=vY/\vY<(↑6:Int)) (.f7 (r9 IntKind.i64 (vY+(1:Int))) (.ctL (g9 (d8 Tryz.prog 46) 11) (St.mk [(2,AV.ptr 2 []),(6,AV.C5 64 (AV.cons (AV.ptr 4 []) AV.nil)),(7,AV.ptr 7 []),(54,AV.val e8 (vY+(1:Int)))] [(2,i7.var (Ty.pair e8 (Ty.pair e8 (Ty.pair e8 (Ty.pair e8 (Ty.pair e8 (Ty.pair Y4 (Ty.pair Ty.str Ty.unit))))))) (dS,cL,dR,cS,cw,bR,bJ,())),(4,i7.var Ty.str o4),(7,i7.var (Ty.pair e8 (Ty.pair e8 (Ty.pair e8 (Ty.pair e8 (Ty.pair e8 (Ty.pair Y4 (Ty.pair Ty.str Ty.unit))))))) (cK,bp,cA,bO,bu,List.set bn (Int.toNat vY) (vk o4 (Int.toNat ((2:Int)+vY))),bf,()))])))))) (.f7 (True) (cond (decide (I0 (cK,bp,cA,bO,bu,bn,bf,())≠(0:Int))) (.ret ((((0:Int),(0:Int),(0:Int),(0:Int),(0:Int),[(0:Int),(0:Int),(0:Int),(0:Int),(0:Int),(0:Int)],[],()),I0 (cK,bp,cA,bO,bu,bn,bf,()),()))) (.ret (((cK,bp,cA,bO,bu,bn,bf,()),(0:Int),()))))):=by kernel_rfl
def atL (s:yY) (i:Nat):List Int:=(List.range 6).map (λ j=>if j<i then vk s (2+j) else 0)
theorem b8c:GO.Valid Tryz.prog 46:=by
  refine p9.n9 Jl rfl rfl Tryz.func46 (c:=d8 Tryz.prog 46) rfl rfl JV rfl ?_;rintro ⟨(s:yY),⟨⟩⟩ - -
  refine j7 (n:=1000) Jl JV ?_;refine i8 (Xz s) ?_;simp only [j8,Tree.holds,sL];refine ⟨λ h=>?_,λ h1=>⟨λ h=>?_,λ h2=>⟨by omega,λ _=>⟨by omega,λ _=>⟨by omega,λ _=>⟨by omega,λ _=>?_⟩⟩⟩⟩⟩⟩
  . show ((xt,2,()):C1×Int×Unit)=x6 s;rw [x6,if_pos (by omega)]
  . show ((xt,3,()):C1×Int×Unit)=x6 s;rw [x6,if_neg (by omega),if_pos (by omega)]
  obtain ⟨n,hn⟩:∃ n:Nat,(s.length:Int) - 4=n:=⟨s.length - 4,by omega⟩;have sH:s.length - 4=n:=by omega
  have b1:o5 0 ((s.length:Int) - 4) s=s.take n:=by rw [hn,o5]; simp
  have b2:o5 ((s.length:Int) - 4) (s.length:Int) s=s.drop n:=by rw [hn,o5,Int.toNat_natCast,List.take_of_length_le (by rw [List.length_drop]; omega)]
  have bM:(s.take n).length=n:=by rw [List.length_take]; omega
  have b3:o5 27 (n:Int) (s.take n)=(s.take n).drop 27:=by rw [o5,List.take_of_length_le (by rw [List.length_drop,bM]; show n - 27<=((n:Int) - 27).toNat; omega)]; rfl
  have b4:List.map (λ n:Int=>UInt8.ofNat n.toNat) (wk (vB (s.take n)))=le4 (vB (s.take n)):=KP _;have hR:x6 s=if le4 (vB (s.take n))≠s.drop n then (xt,5,()) else if I0 (parse (s.take n))≠0 then (xt,I0 (parse (s.take n)),()) else (parse (s.take n),0,()):=by
    rw [x6,if_neg (by omega),if_neg (by omega),sH]
  generalize gQ:s.take n=body at *
  have w:∀ q:UInt8,IntKind.wrap .i64 (q.toNat:Int)=(q.toNat:Int):=λ q=>by have:=q.toNat_lt; exact Q9 (G5.2 ⟨by omega,by omega⟩)
  simp only [j8,Tree.holds,b1,b2,b4,bM,b3,w,sL];refine ⟨λ h=>?_,λ h=>⟨by omega,λ _=>⟨by omega,λ _=>⟨by omega,λ _=>⟨by omega,λ _=>⟨by omega,λ _=>⟨by omega,λ _=>?_⟩⟩⟩⟩⟩⟩⟩
  . show ((xt,5,()):C1×Int×Unit)=x6 s;rw [hR,if_pos h]
  rw [if_neg h] at hR;refine Reach.M8 Jl JV (λ i:Nat=>QU (i:Int) 0 0 0 0 0 [0,0,0,0,0,0] [] body (wa body 0) (wa body 1) (wa body 2) (vk body 0) (vk body 1) (atL body i) (body.drop 27)) (λ i=>i<=6)
    (λ i=>6 - i) 1000 (λ _=>⟨u6 rfl,u6 rfl⟩) ?_ 0 (Nat.zero_le _)
  rintro i k1 - ih;have k1:i<=6:=k1;refine i8 (ZB ..) ?_;simp only [j8,Tree.holds,bM,sL];refine ⟨λ c=>⟨by omega,λ _=>⟨by omega,λ _=>⟨by omega,λ _=>⟨by omega,λ _=>?_⟩⟩⟩⟩,λ c=>?_⟩
  . have hi:i<6:=by omega
    have:=ih (i+1) (by show i+1<=6; omega) (by omega);have e2:Int.toNat (2+(i:Int))=2+i:=by omega
    have:(atL body i).set i (vk body (2+i))=atL body (i+1):=by
      rw [atL,b4q _ _ hi,atL];refine List.map_congr_left (λ j hj=>?_);by_cases e:j=i
      . rw [if_pos e,if_pos (by omega),e]
      . rw [if_neg e];by_cases e2:j<i
        . rw [if_pos e2,if_pos (by omega)]
        . rw [if_neg e2,if_neg (by omega)]
    rw [e2,this]
    assumption
  . obtain rfl:i=6:=by omega
    have hp:(wa body 0,wa body 1,wa body 2,vk body 0,vk body 1,atL body 6,body.drop 27,())=parse body:=rfl;rw [hp];refine ⟨λ h=>?_,λ h=>?_⟩
    . show ((xt,I0 (parse body),()):C1×Int×Unit)=x6 s;rw [hR,if_pos h]
    . show ((parse body,0,()):C1×Int×Unit)=x6 s;rw [hR,if_neg h]
abbrev vR:=Int×Int×Unit
def outside (m:Int):Bool:=decide (64<=m)
def half (p o:Int):Bool:=decide (vM o<2*vM (T7 .u8 p o))
def S5 (v:vR):Int:=if v.1<0\/16777215<v.1\/v.2.1=0\/64<=v.2.1 then 1 else 0
def R8 (v:vR) (g c:Int):vR×Int×Unit :=
  if S5 v≠0 then ((0,0,()),S5 v,()) else if outside (bOr .u8 g c)=true then ((0,0,()),1,()) else if T7 .u8 g c≠0 then ((0,0,()),1,())
  else if v.1=16777215 then ((0,0,()),8,()) else if (!half (R6 .u8 v.2.1 g) v.2.1)=true then ((0,0,()),11,()) else ((v.1+1,bOr .u8 (R6 .u8 v.2.1 g) c,()),0,())
def ED:p9:={ ps:=[.v U8],rs:=[.bool],pre:=λ _=>True,fn:=λ x=>(outside x.1,()),out:=λ _=>() }
def BO:p9:={ ps:=[.v View],rs:=[e8],pre:=λ _=>True,fn:=λ x=>(S5 x.1,()),out:=λ _=>() }
def GL:p9:={ ps:=[.v U8],rs:=[e8],pre:=λ _=>True,fn:=λ x=>(vM x.1,()),out:=λ _=>() }
def Hc:p9:={ ps:=[.v U8,.v U8],rs:=[.bool],pre:=λ _=>True,fn:=λ x=>(half x.1 x.2.1,()),out:=λ _=>() }
def BF:p9:={ ps:=[.v View,.v U8,.v U8],rs:=[View,e8],pre:=λ _=>True,fn:=λ x=>R8 x.1 x.2.1 x.2.2.1,out:=λ _=>() }
noncomputable def Ji:Env:={ P:=Tryz.prog,tt:=tt,C7:=[],res:=[Go.ResultVar.tmp 2],rs:=[Ty.bool],ps:=[PK.v U8],B9:=[],nt:=6 }
theorem Th:w7 Ji:=x8 r7 trivial
theorem Ti:C0 Ji Tryz.f71:=⟨rfl,rfl⟩
theorem c2p (x0:Int):exec Ji 1000 [.code (d8 Tryz.prog 71)] (s8 ED.ps ((x0,()))) =
  .f7 ((0:Int)<=(6:Int)) (.ret ((decide (x0 / (2:Int)^min (Int.toNat (6:Int)) (IntKind.bits IntKind.u8)≠(0:Int)),()))):=by kernel_rfl
theorem Us:ED.Valid Tryz.prog 71:=by
  refine p9.n9 Th rfl rfl Tryz.func71 (c:=d8 Tryz.prog 71) rfl rfl Ti rfl ?_;rintro ⟨(x0:Int),⟨⟩⟩ - ⟨h0,-⟩;refine j7 (n:=1000) Th Ti ?_;refine i8 (c2p x0) ?_;refine ⟨by decide,λ _=>?_⟩;have h:0<=x0/\x0<=255:=h0;show (decide (x0 / 2^6≠0),())=(outside x0,());unfold outside;congr 1;exact decide_eq_decide.2 (by omega)
noncomputable def IL:Env:={ P:=Tryz.prog,tt:=tt,C7:=[(71,ED)],res:=[Go.ResultVar.tmp 2],rs:=[Ty.int IntKind.i64],ps:=[PK.v View],B9:=[],nt:=21 }
theorem SE:w7 IL:=x8 r7 ⟨Us,trivial⟩
theorem Si:C0 IL Tryz.f70:=⟨rfl,rfl⟩
theorem ZC (aN:Int) (ab:Int):exec IL 1000 [.code (d8 Tryz.prog 70)] (s8 BO.ps (((aN,ab,()),()))) =
  cond (decide (aN<(0:Int))) (.ret (((1:Int),()))) (cond (decide ((16777215:Int)<aN)) (.ret (((1:Int),()))) (cond (decide (ab=(0:Int))) (.ret (((1:Int),()))) (.f7 (True) (cond (outside ab) (.ret (((1:Int),()))) (.ret (((0:Int),()))))))):=by kernel_rfl
theorem Uk:BO.Valid Tryz.prog 70:=by
  refine p9.n9 SE rfl rfl Tryz.func70 (c:=d8 Tryz.prog 70) rfl rfl Si rfl ?_;rintro ⟨⟨(x0:Int),(x1:Int),⟨⟩⟩,⟨⟩⟩ - ⟨⟨h0,h1,-⟩,-⟩;refine j7 (n:=1000) SE Si ?_;refine i8 (ZC x0 x1) ?_;have g0:-9223372036854775808<=x0/\x0<=9223372036854775807:=h0;have g1:0<=x1/\x1<=255:=h1;simp only [j8,Tree.holds,decide_eq_true_eq,decide_eq_false_iff_not];have key:∀ r:Int,r=S5 (x0,x1,())->((r,()):DL [Ty.int .i64])=BO.fn ((x0,x1,()),()):=by rintro r rfl; rfl
  refine ⟨λ a=>key _ ?_,λ a=>⟨λ b=>key _ ?_,λ b=>⟨λ c=>key _ ?_,λ c=>⟨trivial,λ _=>⟨λ d=>key _ ?_,λ d=>key _ ?_⟩⟩⟩⟩⟩
  all_goals simp only [S5,outside,decide_eq_true_eq,decide_eq_false_iff_not] at *
  all_goals (first|rw [if_pos (by omega)]|rw [if_neg (by omega)])
noncomputable def Gp:Env:={ P:=Tryz.prog,tt:=tt,C7:=[],res:=[Go.ResultVar.tmp 2],rs:=[Ty.int IntKind.i64],ps:=[PK.v U8],B9:=[],nt:=6 }
theorem PT:w7 Gp:=x8 r7 trivial
theorem PN:C0 Gp Tryz.f88:=⟨rfl,rfl⟩
theorem Xw (x0:Int):exec Gp 1000 [.code (d8 Tryz.prog 88)] (s8 GL.ps ((x0,()))) =
  .f7 ((0:Int)<=x0/\x0<(↑(List.length (Array.toList (ByteArray.data (ByteArray.mk (List.toArray (List.append (List.append ([0,1,1,2,1,2,2,3,1,2,2,3,2,3,3,4,1,2,2,3,2,3,3,4,2,3,3,4,3,4,4,5,1,2,2,3,2,3,3,4,2,3,3,4,3,4,4,5,2,3,3,4,3,4,4,5,3,4,4,5,4,5,5,6]:yY) ([1,2,2,3,2,3,3,4,2,3,3,4,3,4,4,5,2,3,3,4,3,4,4,5,3,4,4,5,4,5,5,6,2,3,3,4,3,4,4,5,3,4,4,5,4,5,5,6,3,4,4,5,4,5,5,6,4,5,5,6,5,6,6,7]:yY)) (List.append ([1,2,2,3,2,3,3,4,2,3,3,4,3,4,4,5,2,3,3,4,3,4,4,5,3,4,4,5,4,5,5,6,2,3,3,4,3,4,4,5,3,4,4,5,4,5,5,6,3,4,4,5,4,5,5,6,4,5,5,6,5,6,6,7]:yY) ([2,3,3,4,3,4,4,5,3,4,4,5,4,5,5,6,3,4,4,5,4,5,5,6,4,5,5,6,5,6,6,7,3,4,4,5,4,5,5,6,4,5,5,6,5,6,6,7,4,5,5,6,5,6,6,7,5,6,6,7,6,7,7,8]:yY)))))))):Int)) (.ret ((IntKind.wrap IntKind.i64 (↑(UInt8.toNat (List.getD (Array.toList (ByteArray.data (ByteArray.mk (List.toArray (List.append (List.append ([0,1,1,2,1,2,2,3,1,2,2,3,2,3,3,4,1,2,2,3,2,3,3,4,2,3,3,4,3,4,4,5,1,2,2,3,2,3,3,4,2,3,3,4,3,4,4,5,2,3,3,4,3,4,4,5,3,4,4,5,4,5,5,6]:yY) ([1,2,2,3,2,3,3,4,2,3,3,4,3,4,4,5,2,3,3,4,3,4,4,5,3,4,4,5,4,5,5,6,2,3,3,4,3,4,4,5,3,4,4,5,4,5,5,6,3,4,4,5,4,5,5,6,4,5,5,6,5,6,6,7]:yY)) (List.append ([1,2,2,3,2,3,3,4,2,3,3,4,3,4,4,5,2,3,3,4,3,4,4,5,3,4,4,5,4,5,5,6,2,3,3,4,3,4,4,5,3,4,4,5,4,5,5,6,3,4,4,5,4,5,5,6,4,5,5,6,5,6,6,7]:yY) ([2,3,3,4,3,4,4,5,3,4,4,5,4,5,5,6,3,4,4,5,4,5,5,6,4,5,5,6,5,6,6,7,3,4,4,5,4,5,5,6,4,5,5,6,5,6,6,7,4,5,5,6,5,6,6,7,5,6,6,7,6,7,7,8]:yY))))))) (Int.toNat x0) (0:UInt8))):Int),()))):=by kernel_rfl
theorem b8g:GL.Valid Tryz.prog 88:=by
  refine p9.n9 PT rfl rfl Tryz.func88 (c:=d8 Tryz.prog 88) rfl rfl PN rfl ?_;rintro ⟨(x0:Int),⟨⟩⟩ - ⟨h0,-⟩;refine j7 (n:=1000) PT PN ?_;refine i8 (Xw x0) ?_;have g0:0<=x0/\x0<=255:=h0;obtain ⟨n,rfl⟩:∃ n:Fin 256,x0=((n.val:Nat):Int):=⟨⟨x0.toNat,by omega⟩,by simp; omega⟩;refine ⟨?_,λ _=>?_⟩
  . clear h0 g0; revert n; decide +kernel
  . show ((_,()):Int×Unit)=(vM n,());clear h0 g0; revert n; decide +kernel
noncomputable def Gi:Env:={ P:=Tryz.prog,tt:=tt,C7:=[(88,GL)],res:=[Go.ResultVar.tmp 4],rs:=[Ty.bool],ps:=[PK.v U8,PK.v U8],B9:=[],nt:=13 }
theorem Pj:w7 Gi:=x8 r7 ⟨b8g,trivial⟩
theorem PH:C0 Gi Tryz.f72:=⟨rfl,rfl⟩
theorem VU (x0:Int) (x1:Int):exec Gi 1000 [.code (d8 Tryz.prog 72)] (s8 Hc.ps ((x0,x1,()))) =
  .f7 (True) (.f7 (r9 IntKind.i64 ((2:Int)*vM (T7 IntKind.u8 x0 x1))) (.f7 (True) (.ret ((decide (vM x1<(2:Int)*vM (T7 IntKind.u8 x0 x1)),()))))):=by kernel_rfl
theorem b8r:Hc.Valid Tryz.prog 72:=by
  refine p9.n9 Pj rfl rfl Tryz.func72 (c:=d8 Tryz.prog 72) rfl rfl PH rfl ?_;rintro ⟨(x0:Int),(x1:Int),⟨⟩⟩ - ⟨h0,h1,-⟩;refine j7 (n:=1000) Pj PH ?_;refine i8 (VU x0 x1) ?_;have hb:∀ a b:Int,0<=vM (T7 .u8 a b)/\vM (T7 .u8 a b)<=8:=λ a b=>OS _;refine ⟨trivial,λ _=>⟨?_,λ _=>⟨trivial,λ _=>rfl⟩⟩⟩;have:=hb x0 x1;show -9223372036854775808<=_/\_<=9223372036854775807;omega
theorem c0j {v:vR} (h:S5 v=0):0<=v.1/\v.1<=16777215/\v.2.1≠0/\v.2.1<64:=by
  unfold S5 at h;split at h
  . cases h
  . omega
noncomputable def HX:Env:={ P:=Tryz.prog,tt:=tt,C7:=[(71,ED),(70,BO),(72,Hc)],res:=[Go.ResultVar.cell 6 57,Go.ResultVar.tmp 7],rs:=[Ty.pair e8 (Ty.pair U8 Ty.unit),Ty.int IntKind.i64],ps:=[PK.v View,PK.v U8,PK.v U8],B9:=[],nt:=52 }
theorem QT:w7 HX:=x8 r7 ⟨Us,Uk,b8r,trivial⟩
theorem Ry:C0 HX Tryz.f53:=⟨rfl,rfl⟩
theorem YP (aN:Int) (ab:Int) (x1:Int) (x2:Int):exec HX 1000 [.code (d8 Tryz.prog 53)] (s8 BF.ps (((aN,ab,()),x1,x2,()))) =
  .f7 (True) (cond (decide (S5 (aN,ab,())≠(0:Int))) (.ret ((((0:Int),(0:Int),()),S5 (aN,ab,()),()))) (.f7 (True) (cond (outside (bOr IntKind.u8 x1 x2)) (.ret ((((0:Int),(0:Int),()),(1:Int),()))) (cond (decide (T7 IntKind.u8 x1 x2≠(0:Int))) (.ret ((((0:Int),(0:Int),()),(1:Int),()))) (cond (decide (aN=(16777215:Int))) (.ret ((((0:Int),(0:Int),()),(8:Int),()))) (.f7 (True) (cond (!half (R6 IntKind.u8 ab x1) ab) (.ret ((((0:Int),(0:Int),()),(11:Int),()))) (.f7 (r9 IntKind.i64 (aN+(1:Int))) (.ret (((aN+(1:Int),bOr IntKind.u8 (R6 IntKind.u8 ab x1) x2,()),(0:Int),()))))))))))):=by kernel_rfl
theorem TY:BF.Valid Tryz.prog 53:=by
  refine p9.n9 QT rfl rfl Tryz.func53 (c:=d8 Tryz.prog 53) rfl rfl Ry rfl ?_;rintro ⟨⟨(x0:Int),(x1:Int),⟨⟩⟩,(g:Int),(c:Int),⟨⟩⟩ - ⟨⟨h0,h1,-⟩,h2,h3,-⟩;refine j7 (n:=1000) QT Ry ?_;refine i8 (YP x0 x1 g c) ?_;have g0:-9223372036854775808<=x0/\x0<=9223372036854775807:=h0;have key:∀ r:vR×Int×Unit,R8 (x0,x1,()) g c=r->((r:DL [View,.int .i64])=BF.fn ((x0,x1,()),g,c,())):=by rintro r rfl; rfl
  simp only [j8,Tree.holds,decide_eq_true_eq,decide_eq_false_iff_not];refine ⟨trivial,λ _=>⟨λ a=>key _ ?_,λ a=>⟨trivial,λ _=>⟨λ b=>key _ ?_,λ b=>⟨λ d=>key _ ?_,λ d=>⟨λ e=>key _ ?_,λ e=>⟨trivial,λ _=>⟨λ f=>key _ ?_,λ f=>⟨⟨?_,?_⟩,λ _=>key _ ?_⟩⟩⟩⟩⟩⟩⟩⟩⟩
  . rw [R8,if_pos a]; rfl
  . rw [R8,if_neg a,if_pos b]; rfl
  . rw [R8,if_neg a,if_neg (by simpa using b),if_pos d]; rfl
  . rw [R8,if_neg a,if_neg (by simpa using b),if_neg d,if_pos e]; rfl
  . rw [R8,if_neg a,if_neg (by simpa using b),if_neg d,if_neg e,if_pos f]; rfl
  . show -9223372036854775808<=_; omega
  . have:=(c0j (v:=(x0,x1,())) (by simpa using a)).2.1;show x0+1<=9223372036854775807; simp only at this; omega
  . rw [R8,if_neg a,if_neg (by simpa using b),if_neg d,if_neg e,if_neg (by simpa using f)]; rfl
def S9 (f:Nat->Int):Nat->Int
  | 0=>0
  | k+1=>if S9 f k≠0 then S9 f k else f k
theorem Tw {f:Nat->Int} {k:Nat} (h0:S9 f k=0) (h1:f k≠0):∀ {n:Nat},k<n->S9 f n=f k
  | 0,h=>by omega
  | n+1,h=>by
    by_cases e:k=n
    . subst e; simp [S9,h0]
    . have:=Tw h0 h1 (n:=n) (by omega);simp [S9,this,h1]
theorem a80 {f:Nat->Int} {k:Nat} (h0:S9 f k=0) (h1:f k=0):S9 f (k+1)=0:=by simp [S9,h0,h1]
theorem Fw {f:Nat->Int}:∀ {n:Nat},S9 f n=0↔∀ k,k<n->f k=0
  | 0=>by simp [S9]
  | n+1=>by
    constructor
    . intro h k hk;have h2:S9 f n=0:=by
        by_cases e:S9 f n=0
        . exact e
        . rw [S9,if_pos e] at h; exact absurd h e
      by_cases e:k=n
      . subst e; simpa [S9,h2] using h
      . exact Fw.1 h2 k (by omega)
    . intro h;exact a80 (Fw.2 (λ k hk=>h k (by omega))) (h n (by omega))
abbrev u7:=Int×yY×Unit
abbrev vP:=Int×List yY×Unit
abbrev ToD:=Int×List u7×Unit
def AN:p9:={ ps:=[.v e8,.v e8,.v e8],rs:=[.bool],pre:=λ _=>True,fn:=λ x=>(Y9 x.1 x.2.1 x.2.2.1,()),out:=λ _=>() }
noncomputable def FJ:Env:={ P:=Tryz.prog,tt:=tt,C7:=[],res:=[Go.ResultVar.tmp 6],rs:=[Ty.bool],ps:=[PK.v e8,PK.v e8,PK.v e8],B9:=[],nt:=15 }
theorem NX:w7 FJ:=x8 r7 trivial
theorem Oj:C0 FJ Tryz.f75:=⟨rfl,rfl⟩
theorem UJ (x0:Int) (x1:Int) (x2:Int):exec FJ 1000 [.code (d8 Tryz.prog 75)] (s8 AN.ps ((x0,x1,x2,()))) =
  cond (decide (x1<=x0)) (.ret ((decide (x0<=x2),()))) (.ret ((false,()))):=by kernel_rfl
theorem KS:AN.Valid Tryz.prog 75:=by
  refine p9.n9 NX rfl rfl Tryz.func75 (c:=d8 Tryz.prog 75) rfl rfl Oj rfl ?_;rintro ⟨(a:Int),(b:Int),(c:Int),⟨⟩⟩ - -
  refine j7 (n:=1000) NX Oj ?_;refine i8 (UJ a b c) ?_;simp only [j8,Tree.holds,sL]
  repeat' first|exact trivial|(refine And.intro ?_ ?_)|(intro _)
  all_goals (show ((_,()):Bool×Unit)=(Y9 a b c,()); simp [Y9, *])
def E4 (s:yY):Bool:=decide ((200:Int)<s.length)
def Ae:p9:={ ps:=[.v .str],rs:=[.bool],pre:=λ _=>True,fn:=λ x=>(E4 x.1,()),out:=λ _=>() }
noncomputable def HD:Env:={ P:=Tryz.prog,tt:=tt,C7:=[],res:=[Go.ResultVar.tmp 2],rs:=[Ty.bool],ps:=[PK.v Ty.str],B9:=[],nt:=6 }
theorem QS:w7 HD:=x8 r7 trivial
theorem Rx:C0 HD Tryz.f59:=⟨rfl,rfl⟩
theorem XV (x0:yY):exec HD 1000 [.code (d8 Tryz.prog 59)] (s8 Ae.ps ((x0,()))) =
  .ret ((decide ((200:Int)<(↑(List.length x0):Int)),())):=by kernel_rfl
theorem Fm:Ae.Valid Tryz.prog 59:=by
  refine p9.n9 QS rfl rfl Tryz.func59 (c:=d8 Tryz.prog 59) rfl rfl Rx rfl ?_;rintro ⟨(s:yY),⟨⟩⟩ - -
  refine j7 (n:=1000) QS Rx ?_;refine i8 (XV s) ?_;rfl
def He:p9:={ ps:=[.v (.d0 false .str),.C5 59 []],rs:=[e8],pre:=λ x=>True,fn:=λ x=>(idxOf (E4) x.1,()),out:=λ _=>() }
noncomputable def DG:Env:={ P:=Tryz.prog,tt:=tt,C7:=[(59,Ae)],res:=[Go.ResultVar.tmp 4],rs:=[Ty.int IntKind.i64],ps:=[PK.v (Ty.d0 false Ty.str),PK.C5 59 []],B9:=[(2,[(0,none),(1,none),(7,none),(8,none)])],nt:=19 }
theorem Jh:w7 DG:=x8 r7 ⟨Fm,trivial⟩
theorem JU:C0 DG Tryz.f94:=⟨rfl,rfl⟩
theorem VW (x0:List yY):exec DG 1000 [.code (d8 Tryz.prog 94)] (s8 He.ps ((x0,(),()))) =
  .ctL (g9 (d8 Tryz.prog 94) 2) (St.mk [(0,AV.val (Ty.d0 false Ty.str) x0),(1,AV.C5 59 AV.nil),(7,AV.val e8 (↑(List.length x0):Int)),(8,AV.val e8 (0:Int))] []):=by kernel_rfl
def Pl (v0:List yY) (v7:Int) (v8:Int):St:=St.mk [(0,AV.val (Ty.d0 false Ty.str) v0),(1,AV.C5 59 AV.nil),(7,AV.val e8 v7),(8,AV.val e8 v8)] []
theorem XU (v0:List yY) (v7:Int) (v8:Int):exec DG 1000 (.code (g9 (d8 Tryz.prog 94) 2).1::.inLoop (g9 (d8 Tryz.prog 94) 2).1::(g9 (d8 Tryz.prog 94) 2).2) (Pl v0 v7 v8) =
  cond (decide (v8<v7)) (.f7 ((0:Int)<=v8/\v8<(↑(List.length v0):Int)) (.f7 (True) (cond (E4 (List.getD v0 (Int.toNat v8) [])) (.ret ((v8,()))) (.f7 (r9 IntKind.i64 (v8+(1:Int))) (.ctL (g9 (d8 Tryz.prog 94) 2) (St.mk [(0,AV.val (Ty.d0 false Ty.str) v0),(1,AV.C5 59 AV.nil),(7,AV.val e8 v7),(8,AV.val e8 (v8+(1:Int)))] [])))))) (.ret (((-1:Int),()))):=by kernel_rfl
theorem b8o:He.Valid Tryz.prog 94:=by
  refine p9.n9 Jh rfl rfl Tryz.func94 (c:=d8 Tryz.prog 94) rfl rfl JU rfl ?_;rintro ⟨(l:List yY),⟨⟩,⟨⟩⟩ - ⟨⟨hl,-⟩,-⟩;have hl:l.length<=9223372036854775807:=hl;refine j7 (n:=1000) Jh JU ?_;refine i8 (VW l ) ?_;refine Reach.M8 Jh JU (λ i:Nat=>Pl l  (l.length:Int) (i:Int)) (λ i=>i<=l.length/\idxOf (E4) l=V5 (E4) (l.drop i) i)
    (λ i=>l.length - i) 1000 (λ _=>⟨u6 rfl,u6 rfl⟩) ?_ 0 ⟨by omega,rfl⟩
  rintro i ⟨k1,k2⟩ - ih;refine i8 (XU ..) ?_;simp only [j8,Tree.holds,sL];refine ⟨λ h=>?_,λ h=>?_⟩
  . rw [Kv (show i<l.length by omega) [],V5] at k2;refine ⟨by omega,λ _=>⟨λ c=>?_,λ c=>⟨by omega,λ _=>ih (i+1) ⟨by omega,?_⟩ (by omega)⟩⟩⟩
    . show (((i:Int),()):Int×Unit)=(idxOf (E4) l,());rw [k2,if_pos (show (E4) (l.getD i [])=true from c)]
    . rw [k2,if_neg (show ¬ (E4) (l.getD i [])=true from λ h9=>Bool.noConfusion (Eq.trans (Eq.symm h9) c))]
  . rw [List.drop_eq_nil_of_le (by omega)] at k2;show (((-1:Int),()):Int×Unit)=(idxOf (E4) l,());rw [k2]; rfl
def HP:p9:={ ps:=[.v (.d0 false .str),.C5 59 []],rs:=[.bool],pre:=λ x=>True,fn:=λ x=>(List.any (α:=yY) x.1 (E4),()),out:=λ _=>() }
noncomputable def HI:Env:={ P:=Tryz.prog,tt:=tt,C7:=[(94,He)],res:=[Go.ResultVar.tmp 4],rs:=[Ty.bool],ps:=[PK.v (Ty.d0 false Ty.str),PK.C5 59 []],B9:=[],nt:=9 }
theorem QJ:w7 HI:=x8 r7 ⟨b8o,trivial⟩
theorem RV:C0 HI Tryz.f76:=⟨rfl,rfl⟩
theorem XF (x0:List yY):exec HI 1000 [.code (d8 Tryz.prog 76)] (s8 HP.ps ((x0,(),()))) =
  .f7 (True) (.ret ((decide ((0:Int)<=idxOf E4 x0),()))):=by kernel_rfl
theorem b6g:HP.Valid Tryz.prog 76:=by
  refine p9.n9 QJ rfl rfl Tryz.func76 (c:=d8 Tryz.prog 76) rfl rfl RV rfl ?_;rintro ⟨(l:List yY),⟨⟩,⟨⟩⟩ - -
  refine j7 (n:=1000) QJ RV ?_;refine i8 (XF l ) ?_;refine ⟨trivial,λ _=>?_⟩;show ((decide (0<=idxOf (E4) l),()):Bool×Unit)=(l.any (E4),());rw [NI]
theorem Vm:Ty.wb .str=16:=rfl
def CY:p9:={ ps:=[.v (.d0 false .str)],rs:=[.d0 true .str],pre:=λ x=>List.length (α:=yY) x.1<=1048576,fn:=λ x=>x,out:=λ _=>() }
noncomputable def Gb:Env:={ P:=Tryz.prog,tt:=tt,C7:=[],res:=[Go.ResultVar.tmp 2],rs:=[Ty.d0 true Ty.str],ps:=[PK.v (Ty.d0 false Ty.str)],B9:=[],nt:=8 }
theorem Oa:w7 Gb:=x8 r7 trivial
theorem Oo:C0 Gb Tryz.f32:=⟨rfl,rfl⟩
theorem UM (x0:List yY):exec Gb 1000 [.code (d8 Tryz.prog 32)] (s8 CY.ps ((x0,()))) =
  .both (x0=[]) (.ret (([],()))) (.f7 ((0:Nat)+List.length x0<=140737488355328/\((0:Nat)+List.length x0)*Ty.wb Ty.str<=140737488355328) (.ret (([]++x0,())))):=by kernel_rfl
theorem Sw:CY.Valid Tryz.prog 32:=by
  refine p9.n9 Oa rfl rfl Tryz.func32 (c:=d8 Tryz.prog 32) rfl rfl Oo rfl ?_;rintro ⟨(l:List yY),⟨⟩⟩ hp -
  have hp:l.length<=1048576:=hp;refine j7 (n:=1000) Oa Oo ?_;refine i8 (UM l) ?_;simp only [j8,Tree.holds,Vm,sL];refine ⟨λ h=>?_,by omega,λ _=>rfl⟩;show (([],()):List yY×Unit)=(l,());rw [show l=[] from h]
def f00:vP:=(0,[],())
def I1 (s:vP):Int:=if Y9 s.1 0 16777215=false then 1 else if (16:Int)<s.2.1.length then 1 else if s.2.1.any E4=true then 2 else 0
def BE:p9:={ ps:=[.v Q4],rs:=[e8],pre:=λ _=>True,fn:=λ x=>(I1 x.1,()),out:=λ _=>() }
noncomputable def Hw:Env:={ P:=Tryz.prog,tt:=tt,C7:=[(75,AN),(76,HP)],res:=[Go.ResultVar.tmp 2],rs:=[Ty.int IntKind.i64],ps:=[PK.v Q4],B9:=[],nt:=18 }
theorem QL:w7 Hw:=x8 r7 ⟨KS,b6g,trivial⟩
theorem RX:C0 Hw Tryz.f58:=⟨rfl,rfl⟩
theorem XJ (aN:Int) (ab:List yY):exec Hw 1000 [.code (d8 Tryz.prog 58)] (s8 BE.ps (((aN,ab,()),()))) =
  .f7 (True) (cond (!Y9 aN (0:Int) (16777215:Int)) (.ret (((1:Int),()))) (cond (decide ((16:Int)<(↑(List.length ab):Int))) (.ret (((1:Int),()))) (.f7 (True) (cond (List.any ab E4) (.ret (((2:Int),()))) (.ret (((0:Int),()))))))):=by kernel_rfl
theorem lnf {b:Bool} (h:b=true):¬ b=false:=by rw [h]; simp
theorem Lw:BE.Valid Tryz.prog 58:=by
  refine p9.n9 QL rfl rfl Tryz.func58 (c:=d8 Tryz.prog 58) rfl rfl RX rfl ?_;rintro ⟨⟨(b:Int),(l:List yY),⟨⟩⟩,⟨⟩⟩ - -
  refine j7 (n:=1000) QL RX ?_;refine i8 (XJ b l) ?_;have key:∀ {x:Int},I1 (b,l,())=x->((x,()):Int×Unit)=(I1 (b,l,()),()):=by rintro x rfl; rfl
  have hd:I1 (b,l,())=if Y9 b 0 16777215=false then 1 else if (16:Int)<l.length then 1 else if l.any E4=true then 2 else 0:=rfl
  simp only [j8,Tree.holds,sL];refine ⟨λ a=>key (by rw [hd,if_pos a]),λ a=>⟨λ c=>key (by rw [hd,if_neg (lnf a),if_pos c]),λ c=>⟨λ d=>key (by rw [hd,if_neg (lnf a),if_neg c,if_pos d]),λ d=>key (by rw [hd,if_neg (lnf a),if_neg c,if_neg (by rw [d]; simp)])⟩⟩⟩
theorem xS {s:vP} (h:I1 s=0):(0<=s.1/\s.1<=16777215)/\s.2.1.length<=16/\s.2.1.any E4=false:=by
  unfold I1 at h;split at h
  . cases h
  rename_i c1;split at h
  . cases h
  rename_i c2;split at h
  . cases h
  rename_i c3;exact ⟨wX.1 (Bool.not_eq_false _▸c1),by omega,by simpa using c3⟩
def Q7 (s:vP) (x:yY):vP×Int×Unit :=
  if I1 s≠0 then (f00,I1 s,()) else if E4 x=true then (f00,2,()) else if (s.2.1.length:Int)=16\/16777215<=s.1+s.2.1.length then (f00,8,()) else ((s.1,s.2.1++[x],()),0,())
def GI:p9:={ ps:=[.v Q4,.v .str],rs:=[ME,e8],pre:=λ _=>True,fn:=λ x=>Q7 x.1 x.2.1,out:=λ _=>() }
noncomputable def Gl:Env:={ P:=Tryz.prog,tt:=tt,C7:=[(58,BE),(59,Ae),(32,CY)],res:=[Go.ResultVar.cell 4 78,Go.ResultVar.tmp 5],rs:=[Ty.pair e8 (Ty.pair (Ty.d0 true Ty.str) Ty.unit),Ty.int IntKind.i64],ps:=[PK.v Q4,PK.v Ty.str],B9:=[],nt:=41 }
theorem Po:w7 Gl:=x8 r7 ⟨Lw,Fm,Sw,trivial⟩
theorem PL:C0 Gl Tryz.f42:=⟨rfl,rfl⟩
theorem Xu (aN:Int) (ab:List yY) (x1:yY):exec Gl 1000 [.code (d8 Tryz.prog 42)] (s8 GI.ps (((aN,ab,()),x1,()))) =
  .f7 (True) (cond (decide (I1 (aN,ab,())≠(0:Int))) (.ret ((((0:Int),[],()),I1 (aN,ab,()),()))) (.f7 (True) (cond (E4 x1) (.ret ((((0:Int),[],()),(2:Int),()))) (cond (decide ((↑(List.length ab):Int)=(16:Int))) (.ret ((((0:Int),[],()),(8:Int),()))) (.f7 (r9 IntKind.i64 (aN+(↑(List.length ab):Int))) (cond (decide ((16777215:Int)<=aN+(↑(List.length ab):Int))) (.ret ((((0:Int),[],()),(8:Int),()))) (.f7 (List.length ab<=1048576) (.f7 (List.length ab+List.length (List.set [[]] (Int.toNat (↑0:Int)) x1)<=140737488355328/\(List.length ab+List.length (List.set [[]] (Int.toNat (↑0:Int)) x1))*Ty.wb Ty.str<=140737488355328) (.ret (((aN,ab++List.set [[]] (Int.toNat (↑0:Int)) x1,()),(0:Int),()))))))))))):=by kernel_rfl
theorem b8j:GI.Valid Tryz.prog 42:=by
  refine p9.n9 Po rfl rfl Tryz.func42 (c:=d8 Tryz.prog 42) rfl rfl PL rfl ?_;rintro ⟨⟨(b:Int),(l:List yY),⟨⟩⟩,(x:yY),⟨⟩⟩ - -
  refine j7 (n:=1000) Po PL ?_;refine i8 (Xu b l x) ?_;have key:∀ {y:vP×Int×Unit},Q7 (b,l,()) x=y->y=Q7 (b,l,()) x:=λ h=>h.symm;have hd:Q7 (b,l,()) x=if I1 (b,l,())≠0 then (f00,I1 (b,l,()),()) else if E4 x=true then (f00,2,()) else if (l.length:Int)=16\/16777215<=b+l.length then (f00,8,()) else ((b,l++[x],()),0,()):=rfl
  have hw:Ty.wb .str=16:=rfl;simp only [j8,Tree.holds,hw,sL];refine ⟨λ a=>key (by rw [hd,if_pos a]<;>rfl),λ a=>?_⟩;have aM:=xS (Decidable.not_not.1 a);simp only at aM;rw [if_neg a] at hd;refine ⟨λ c=>key (by rw [hd,if_pos c]<;>rfl),λ c=>?_⟩;rw [if_neg (by rw [c]; simp)] at hd;refine ⟨λ d=>key (by rw [hd,if_pos (.inl d)]<;>rfl),λ d=>⟨by omega,λ _=>⟨λ e=>key (by rw [hd,if_pos (.inr e)]<;>rfl),λ e=>⟨by omega,λ _=>⟨⟨by omega,by omega⟩,λ _=>key ?_⟩⟩⟩⟩⟩;rw [hd,if_neg (by rintro (h|h); exact d h; exact e h)]; rfl
def ahd (b x:Int):Int:=if x - b<0 then 0 else x - b
def R4 (s:vP) (x:Int):vP×Int×Unit :=
  if I1 s≠0 then (f00,I1 s,()) else if s.1+s.2.1.length<x then (f00,1,()) else ((s.1+ahd s.1 x,s.2.1.drop (ahd s.1 x).toNat,()),0,())
def IU:p9:={ ps:=[.v Q4,.v e8],rs:=[ME,e8],pre:=λ x=>LE.le (α:=Int) 0 x.2.1,fn:=λ x=>R4 x.1 x.2.1,out:=λ _=>() }
noncomputable def II:Env:={ P:=Tryz.prog,tt:=tt,C7:=[(58,BE),(32,CY)],res:=[Go.ResultVar.cell 4 78,Go.ResultVar.tmp 5],rs:=[Ty.pair e8 (Ty.pair (Ty.d0 true Ty.str) Ty.unit),Ty.int IntKind.i64],ps:=[PK.v Q4,PK.v e8],B9:=[],nt:=38 }
theorem SA:w7 II:=x8 r7 ⟨Lw,Sw,trivial⟩
theorem SH:C0 II Tryz.f86:=⟨rfl,rfl⟩
theorem Zy (aN:Int) (ab:List yY) (x1:Int):exec II 1000 [.code (d8 Tryz.prog 86)] (s8 IU.ps (((aN,ab,()),x1,()))) =
  .f7 (True) (cond (decide (I1 (aN,ab,())≠(0:Int))) (.ret ((((0:Int),[],()),I1 (aN,ab,()),()))) (.f7 (r9 IntKind.i64 (aN+(↑(List.length ab):Int))) (cond (decide (aN+(↑(List.length ab):Int)<x1)) (.ret ((((0:Int),[],()),(1:Int),()))) (.f7 (r9 IntKind.i64 (x1 - aN)) (.f7 (r9 IntKind.i64 (aN+if x1 - aN<(0:Int) then (0:Int) else x1 - aN)) (.f7 (((0:Int)<=if x1 - aN<(0:Int) then (0:Int) else x1 - aN)/\(if x1 - aN<(0:Int) then (0:Int) else x1 - aN)<=(↑(List.length ab):Int)/\(↑(List.length ab):Int)<=(↑(List.length ab):Int)) (.f7 (List.length (o5 (if x1 - aN<(0:Int) then (0:Int) else x1 - aN) (↑(List.length ab):Int) ab)<=1048576) (.ret (((aN+if x1 - aN<(0:Int) then (0:Int) else x1 - aN,o5 (if x1 - aN<(0:Int) then (0:Int) else x1 - aN) (↑(List.length ab):Int) ab,()),(0:Int),())))))))))):=by kernel_rfl
theorem b4G:IU.Valid Tryz.prog 86:=by
  refine p9.n9 SA rfl rfl Tryz.func86 (c:=d8 Tryz.prog 86) rfl rfl SH rfl ?_;rintro ⟨⟨(b:Int),(l:List yY),⟨⟩⟩,(x:Int),⟨⟩⟩ (h0:0<=x) -
  refine j7 (n:=1000) SA SH ?_;refine i8 (Zy b l x) ?_;have key:∀ {y:vP×Int×Unit},R4 (b,l,()) x=y->y=R4 (b,l,()) x:=λ h=>h.symm;have hd:R4 (b,l,()) x=if I1 (b,l,())≠0 then (f00,I1 (b,l,()),()) else if b+l.length<x then (f00,1,()) else ((b+ahd b x,l.drop (ahd b x).toNat,()),0,()):=rfl
  have ha:(if x - b<0 then 0 else x - b)=ahd b x:=rfl;have tI:0<=ahd b x/\(x<=b+l.length->ahd b x<=l.length)/\(ahd b x=0\/ahd b x=x - b):=by rw [ahd]; split<;>omega
  have jC:0<=ahd b x->o5 (ahd b x) (l.length:Int) l=l.drop (ahd b x).toNat:=λ h=>by
    rw [o5,List.take_of_length_le (by rw [List.length_drop]; omega)]
  rw [ha];generalize ahd b x=n at *
  rw [jC tI.1];simp only [j8,Tree.holds,sL];refine ⟨λ a=>key (by rw [hd,if_pos a]<;>rfl),λ a=>?_⟩;have aM:=xS (Decidable.not_not.1 a);simp only at aM;rw [if_neg a] at hd;refine ⟨by omega,λ _=>⟨λ c=>key (by rw [hd,if_pos c]<;>rfl),λ c=>?_⟩⟩;rw [if_neg c] at hd;refine ⟨by omega,λ _=>⟨by omega,λ _=>⟨by omega,λ _=>⟨?_,λ _=>key (by rw [hd]<;>rfl)⟩⟩⟩⟩;rw [List.length_drop]; omega
def xQ (b most:Int) (l:List yY):Nat->List u7
  | 0=>[]
  | i+1=>xQ b most l i++(if (i:Int)<most then [(b+i,l.getD i [],())] else [])
theorem Ls {b most:Int} {l:List yY}:∀ {i:Nat},(xQ b most l i).length<=i
  | 0=>Nat.le_refl _
  | i+1=>by
    have:=Ls (b:=b) (most:=most) (l:=l) (i:=i);rw [xQ,List.length_append]
    split<;>simp<;>omega
def wQ (s:vP) (most:Int):List u7×Int×Unit:=if I1 s≠0 then ([],I1 s,()) else (xQ s.1 most s.2.1 s.2.1.length,0,())
def Ik:p9:={ ps:=[.v Q4,.v e8],rs:=[.d0 true r8,e8],pre:=λ _=>True,fn:=λ x=>wQ x.1 x.2.1,out:=λ _=>() }
noncomputable def Ej:Env:={ P:=Tryz.prog,tt:=tt,C7:=[(58,BE)],res:=[Go.ResultVar.tmp 4,Go.ResultVar.tmp 5],rs:=[Ty.d0 true r8,Ty.int IntKind.i64],ps:=[PK.v Q4,PK.v e8],B9:=[(6,[(1,none),(2,none),(7,some (Ty.d0 true r8)),(16,none),(17,none),(18,none)])],nt:=37 }
theorem KL:w7 Ej:=x8 r7 ⟨Lw,trivial⟩
theorem KN:C0 Ej Tryz.f54:=⟨rfl,rfl⟩
theorem Zz (aN:Int) (ab:List yY) (x1:Int):exec Ej 1000 [.code (d8 Tryz.prog 54)] (s8 Ik.ps (((aN,ab,()),x1,()))) =
  .f7 (True) (cond (decide (I1 (aN,ab,())≠(0:Int))) (.ret (([],I1 (aN,ab,()),()))) (.ctL (g9 (d8 Tryz.prog 54) 6) (St.mk [(1,AV.val e8 x1),(2,AV.ptr 2 []),(7,AV.at_ 1000007 []),(16,AV.val (Ty.d0 false Ty.str) ab),(17,AV.val e8 (↑(List.length ab):Int)),(18,AV.val e8 (0:Int))] [(2,i7.var Q4 (aN,ab,())),(1000007,i7.own (Ty.d0 true r8) [])]))):=by kernel_rfl
def SB (v1:Int) (wG:List yY) (vu:Int) (va:Int) (dS:Int) (cL:List yY) (eg:List (Int×yY×Unit)):St:=St.mk [(1,AV.val e8 v1),(2,AV.ptr 2 []),(7,AV.at_ 1000007 []),(16,AV.val (Ty.d0 false Ty.str) wG),(17,AV.val e8 vu),(18,AV.val e8 va)] [(2,i7.var Q4 (dS,cL,())),(1000007,i7.own (Ty.d0 true r8) eg)]
theorem c2t (v1:Int) (wG:List yY) (vu:Int) (va:Int) (dS:Int) (cL:List yY) (eg:List (Int×yY×Unit)):exec Ej 1000 (.code (g9 (d8 Tryz.prog 54) 6).1::.inLoop (g9 (d8 Tryz.prog 54) 6).1::(g9 (d8 Tryz.prog 54) 6).2) (SB v1 wG vu va dS cL eg) =
  cond (decide (va<vu)) (.f7 ((0:Int)<=va/\va<(↑(List.length wG):Int)) (cond (decide (va<v1)) (.f7 (r9 IntKind.i64 (dS+va)) (.f7 (List.length eg+List.length (List.set [((0:Int),[],())] (Int.toNat (↑0:Int)) (dS+va,List.getD wG (Int.toNat va) [],()))<=140737488355328/\(List.length eg+List.length (List.set [((0:Int),[],())] (Int.toNat (↑0:Int)) (dS+va,List.getD wG (Int.toNat va) [],())))*Ty.wb r8<=140737488355328) (.f7 (r9 IntKind.i64 (va+(1:Int))) (.ctL (g9 (d8 Tryz.prog 54) 6) (St.mk [(1,AV.val e8 v1),(2,AV.ptr 2 []),(7,AV.at_ 1000007 []),(16,AV.val (Ty.d0 false Ty.str) wG),(17,AV.val e8 vu),(18,AV.val e8 (va+(1:Int)))] [(2,i7.var Q4 (dS,cL,())),(1000007,i7.own (Ty.d0 true r8) (eg++List.set [((0:Int),[],())] (Int.toNat (↑0:Int)) (dS+va,List.getD wG (Int.toNat va) [],())))]))))) (.f7 (r9 IntKind.i64 (va+(1:Int))) (.ctL (g9 (d8 Tryz.prog 54) 6) (St.mk [(1,AV.val e8 v1),(2,AV.ptr 2 []),(7,AV.at_ 1000007 []),(16,AV.val (Ty.d0 false Ty.str) wG),(17,AV.val e8 vu),(18,AV.val e8 (va+(1:Int)))] [(2,i7.var Q4 (dS,cL,())),(1000007,i7.own (Ty.d0 true r8) eg)]))))) (.ret ((eg,(0:Int),()))):=by kernel_rfl
theorem b4F:Ik.Valid Tryz.prog 54:=by
  refine p9.n9 KL rfl rfl Tryz.func54 (c:=d8 Tryz.prog 54) rfl rfl KN rfl ?_;rintro ⟨⟨(b:Int),(l:List yY),⟨⟩⟩,(m:Int),⟨⟩⟩ - -
  refine j7 (n:=1000) KL KN ?_;refine i8 (Zz b l m) ?_;have key:∀ {y:List u7×Int×Unit},wQ (b,l,()) m=y->y=wQ (b,l,()) m:=λ h=>h.symm;have hd:wQ (b,l,()) m=if I1 (b,l,())≠0 then ([],I1 (b,l,()),()) else (xQ b m l l.length,0,()):=rfl
  have hw:Ty.wb r8=24:=rfl;simp only [j8,Tree.holds,sL];refine ⟨λ a=>key (by rw [hd,if_pos a]<;>rfl),λ a=>?_⟩;have aM:=xS (Decidable.not_not.1 a);simp only at aM;rw [if_neg a] at hd;refine Reach.M8 KL KN (λ i:Nat=>SB m l (l.length:Int) (i:Int) b l (xQ b m l i)) (λ i=>i<=l.length) (λ i=>l.length - i) 1000 (λ _=>⟨u6 rfl,u6 rfl⟩) ?_ 0 (by omega);rintro i k1 - ih;have k1:i<=l.length:=k1;refine i8 (c2t ..) ?_;have jL:=Ls (b:=b) (most:=m) (l:=l) (i:=i);simp only [j8,Tree.holds,hw,sL];refine ⟨λ c=>⟨by omega,λ _=>?_⟩,λ c=>key (by rw [hd,show i=l.length by omega]<;>rfl)⟩;have next:=ih (i+1) (by show i+1<=l.length; omega) (by omega)
  rw [xQ] at next
  refine ⟨λ d=>⟨by omega,λ _=>⟨⟨by omega,by omega⟩,λ _=>⟨by omega,λ _=>?_⟩⟩⟩,λ d=>⟨by omega,λ _=>?_⟩⟩
  . rw [if_pos d] at next; exact next
  . rw [if_neg d,List.append_nil] at next; exact next
def p00:u7:=(0,[],())
def t00:ToD:=(0,[],())
def zH (r:Int) (l:List u7):Nat->Int
  | 0=>r
  | i+1=>(l.getD i p00).1
def xJ (r:Int) (l:List u7) (i:Nat):Int:=if (l.getD i p00).1<=zH r l i then 4 else if r+16<=(l.getD i p00).1 then 4 else if E4 (l.getD i p00).2.1=true then 4 else 0
def toE (s:ToD):Int:=if Y9 s.1 0 16777215=false then 1 else if (16:Int)<s.2.1.length then 2 else S9 (xJ s.1 s.2.1) s.2.1.length
def FW:p9:={ ps:=[.v ToT],rs:=[e8],pre:=λ _=>True,fn:=λ x=>(toE x.1,()),out:=λ _=>() }
noncomputable def CT:Env:={ P:=Tryz.prog,tt:=tt,C7:=[(75,AN),(59,Ae)],res:=[Go.ResultVar.tmp 2],rs:=[Ty.int IntKind.i64],ps:=[PK.v ToT],B9:=[(7,[(1,none),(3,none),(19,none),(20,none),(21,none)])],nt:=45 }
theorem IK:w7 CT:=x8 r7 ⟨KS,Fm,trivial⟩
theorem IQ:C0 CT Tryz.f96:=⟨rfl,rfl⟩
theorem UO (aN:Int) (ab:List (Int×yY×Unit)):exec CT 1000 [.code (d8 Tryz.prog 96)] (s8 FW.ps (((aN,ab,()),()))) =
  .f7 (True) (cond (!Y9 aN (0:Int) (16777215:Int)) (.ret (((1:Int),()))) (cond (decide ((16:Int)<(↑(List.length ab):Int))) (.ret (((2:Int),()))) (.ctL (g9 (d8 Tryz.prog 96) 7) (St.mk [(1,AV.ptr 1 []),(3,AV.val e8 aN),(19,AV.val L8 ab),(20,AV.val e8 (↑(List.length ab):Int)),(21,AV.val e8 (0:Int))] [(1,i7.var ToT (aN,ab,()))])))):=by kernel_rfl
def Oc (v3:Int) (uX:List (Int×yY×Unit)) (v20:Int) (v21:Int) (eF:Int) (cU:List (Int×yY×Unit)):St:=St.mk [(1,AV.ptr 1 []),(3,AV.val e8 v3),(19,AV.val L8 uX),(20,AV.val e8 v20),(21,AV.val e8 v21)] [(1,i7.var ToT (eF,cU,()))]
theorem XC (v3:Int) (uX:List (Int×yY×Unit)) (v20:Int) (v21:Int) (eF:Int) (cU:List (Int×yY×Unit)):exec CT 1000 (.code (g9 (d8 Tryz.prog 96) 7).1::.inLoop (g9 (d8 Tryz.prog 96) 7).1::(g9 (d8 Tryz.prog 96) 7).2) (Oc v3 uX v20 v21 eF cU) =
  cond (decide (v21<v20)) (.f7 ((0:Int)<=v21/\v21<(↑(List.length uX):Int)) (cond (decide (Prod.fst (List.getD uX (Int.toNat v21) ((0:Int),[],()))<=v3)) (.ret (((4:Int),()))) (.f7 (r9 IntKind.i64 (eF+(16:Int))) (cond (decide (eF+(16:Int)<=Prod.fst (List.getD uX (Int.toNat v21) ((0:Int),[],())))) (.ret (((4:Int),()))) (.f7 (True) (cond (E4 (Prod.fst (Prod.snd (List.getD uX (Int.toNat v21) ((0:Int),[],()))))) (.ret (((4:Int),()))) (.f7 (r9 IntKind.i64 (v21+(1:Int))) (.ctL (g9 (d8 Tryz.prog 96) 7) (St.mk [(1,AV.ptr 1 []),(3,AV.val e8 (Prod.fst (List.getD uX (Int.toNat v21) ((0:Int),[],())))),(19,AV.val L8 uX),(20,AV.val e8 v20),(21,AV.val e8 (v21+(1:Int)))] [(1,i7.var ToT (eF,cU,()))]))))))))) (.ret (((0:Int),()))):=by kernel_rfl
theorem c1e:FW.Valid Tryz.prog 96:=by
  refine p9.n9 IK rfl rfl Tryz.func96 (c:=d8 Tryz.prog 96) rfl rfl IQ rfl ?_;rintro ⟨⟨(r:Int),(l:List u7),⟨⟩⟩,⟨⟩⟩ - -
  refine j7 (n:=1000) IK IQ ?_;refine i8 (UO r l) ?_;have key:∀ {x:Int},toE (r,l,())=x->((x,()):Int×Unit)=(toE (r,l,()),()):=by rintro x rfl; rfl
  have hd:toE (r,l,())=if Y9 r 0 16777215=false then 1 else if (16:Int)<l.length then 2 else S9 (xJ r l) l.length:=rfl
  simp only [j8,Tree.holds,sL];refine ⟨λ a=>key (by rw [hd,if_pos a]),λ a=>?_⟩;have hr:=wX.1 a;rw [if_neg (lnf a)] at hd;refine ⟨λ a=>key (by rw [hd,if_pos a]),λ a=>?_⟩;rw [if_neg a] at hd;refine Reach.M8 IK IQ (λ i:Nat=>Oc (zH r l i) l (l.length:Int) (i:Int) r l) (λ i=>i<=l.length/\S9 (xJ r l) i=0) (λ i=>l.length - i) 1000 (λ _=>⟨u6 rfl,u6 rfl⟩) ?_ 0 ⟨by omega,rfl⟩;rintro i ⟨k1,k2⟩ - ih;have k1:i<=l.length:=k1;refine i8 (XC ..) ?_;simp only [j8,Tree.holds,sL];have hE:xJ r l i=if (l.getD i (0,[],())).1<=zH r l i then 4 else if r+16<=(l.getD i (0,[],())).1 then 4 else if E4 (l.getD i (0,[],())).2.1=true then 4 else 0:=rfl
  have hB:zH r l (i+1)=(l.getD i (0,[],())).1:=rfl;have stop:xJ r l i=4->i<l.length->toE (r,l,())=4:=λ h9 hi=>by rw [hd,Tw k2 (by rw [h9]; decide) hi,h9]
  have next:=λ(h:xJ r l i=0) (hi:i<l.length)=>ih (i+1) ⟨by omega,a80 k2 h⟩ (by omega)
  rw [hB] at next
  generalize l.getD i (0,[],())=w at *
  obtain ⟨q,x,u⟩:=w;simp only at hE next ⊢
  refine ⟨λ c=>⟨by omega,λ _=>⟨λ c1=>key (stop (by rw [hE,if_pos c1]) (by omega)),λ c1=>⟨by omega,λ _=>⟨λ c2=>key (stop (by rw [hE,if_neg c1,if_pos c2]) (by omega)),λ c2=>⟨λ c3=>key (stop (by rw [hE,if_neg c1,if_neg c2,if_pos c3]) (by omega)),λ c3=>⟨by omega,λ _=>next (by rw [hE,if_neg c1,if_neg c2,if_neg (by rw [c3]; simp)]) (by omega)⟩⟩⟩⟩⟩⟩,λ c=>key (by rw [hd,show l.length=i by omega,k2])⟩
def FL (p:u7) (n:Int):Int:=p.1 - n
def GH:p9:={ ps:=[.v r8,.v e8],rs:=[e8],pre:=λ x=>(LE.le (α:=Int) (-100000000) x.1.1/\LE.le (α:=Int) x.1.1 100000000)/\(LE.le (α:=Int) (-100000000) x.2.1/\LE.le (α:=Int) x.2.1 100000000),fn:=λ x=>(FL x.1 x.2.1,()),out:=λ _=>() }
noncomputable def Gk:Env:={ P:=Tryz.prog,tt:=tt,C7:=[],res:=[Go.ResultVar.tmp 4],rs:=[Ty.int IntKind.i64],ps:=[PK.v r8,PK.v e8],B9:=[],nt:=9 }
theorem Pn:w7 Gk:=x8 r7 trivial
theorem PJ:C0 Gk Tryz.f99:=⟨rfl,rfl⟩
theorem Xt (aN:Int) (ab:yY) (x1:Int):exec Gk 1000 [.code (d8 Tryz.prog 99)] (s8 GH.ps (((aN,ab,()),x1,()))) =
  .f7 (r9 IntKind.i64 (aN - x1)) (.ret ((aN - x1,()))):=by kernel_rfl
theorem b8l:GH.Valid Tryz.prog 99:=by
  refine p9.n9 Pn rfl rfl Tryz.func99 (c:=d8 Tryz.prog 99) rfl rfl PJ rfl ?_;rintro ⟨⟨(q:Int),(s:yY),⟨⟩⟩,(n:Int),⟨⟩⟩ ⟨⟨(h1:-100000000<=q),(h2:q<=100000000)⟩,(h3:-100000000<=n),(h4:n<=100000000)⟩ -
  refine j7 (n:=1000) Pn PJ ?_;refine i8 (Xt q s n) ?_;simp only [j8,Tree.holds,sL];exact ⟨by omega,λ _=>rfl⟩
def atF (n:Int) (l:List u7):Nat:=(l.takeWhile λ p=>decide (p.1<n)).length
theorem MO {n:Int}:∀ {l:List u7} {i:Nat},i<=l.length->(∀ k,k<i->(l.getD k p00).1<n)->(i<l.length->n<=(l.getD i p00).1)->atF n l=i
  | [],i,hi,_,_=>by simp at hi; subst hi; rfl
  | p::l,0,_,_,h=>by
    have:=h (by simp);rw [atF,List.takeWhile_cons,if_neg]
    . rfl
    . rw [decide_eq_true_eq]; show ¬ p.1<n; exact Int.not_lt.2 this
  | p::l,i+1,hi,h1,h2=>by
    have h0:p.1<n:=h1 0 (by omega);have:=MO (l:=l) (i:=i) (by simpa using hi) (λ k hk=>h1 (k+1) (by omega)) (λ hk=>h2 (by simpa using hk));rw [atF,List.takeWhile_cons,if_pos (decide_eq_true h0),List.length_cons];rw [atF] at this; omega
def sorted (l:List u7):Prop:=(∀ i j,i<j->j<l.length->(l.getD i p00).1<(l.getD j p00).1)/\(∀ i,i<l.length->-100000000<=(l.getD i p00).1/\(l.getD i p00).1<=100000000)
def Z4 (n:Int) (l:List u7):Bool:=decide (atF n l<l.length) && decide ((l.getD (atF n l) p00).1 - n=0)
def FP:p9:={ ps:=[.v (.d0 false r8),.v e8,.C5 99 []],rs:=[e8,.bool],pre:=λ x=>(List.length (α:=u7) x.1<=1000/\sorted x.1)/\(LE.le (α:=Int) (-100000000) x.2.1/\LE.le (α:=Int) x.2.1 100000000),fn:=λ x=>((atF x.2.1 x.1:Int),Z4 x.2.1 x.1,()),out:=λ _=>() }
noncomputable def CW:Env:={ P:=Tryz.prog,tt:=tt,C7:=[(99,GH)],res:=[Go.ResultVar.tmp 6,Go.ResultVar.tmp 7],rs:=[Ty.int IntKind.i64,Ty.bool],ps:=[PK.v L8,PK.v e8,PK.C5 99 []],B9:=[(3,[(0,none),(1,none),(2,none),(8,none),(9,none),(10,none)])],nt:=49 }
theorem IG:w7 CW:=x8 r7 ⟨b8l,trivial⟩
theorem IP:C0 CW Tryz.f98:=⟨rfl,rfl⟩
theorem Vs (x0:List (Int×yY×Unit)) (x1:Int):exec CW 1000 [.code (d8 Tryz.prog 98)] (s8 FP.ps ((x0,x1,(),()))) =
  .ctL (g9 (d8 Tryz.prog 98) 3) (St.mk [(0,AV.val L8 x0),(1,AV.val e8 x1),(2,AV.C5 99 AV.nil),(8,AV.val e8 (↑(List.length x0):Int)),(9,AV.val e8 (0:Int)),(10,AV.val e8 (↑(List.length x0):Int))] []):=by kernel_rfl
def OE (v0:List (Int×yY×Unit)) (v1:Int) (v8:Int) (v9:Int) (v10:Int):St:=St.mk [(0,AV.val L8 v0),(1,AV.val e8 v1),(2,AV.C5 99 AV.nil),(8,AV.val e8 v8),(9,AV.val e8 v9),(10,AV.val e8 v10)] []
theorem VF (v0:List (Int×yY×Unit)) (v1:Int) (v8:Int) (v9:Int) (v10:Int):exec CW 1000 (.code (g9 (d8 Tryz.prog 98) 3).1::.inLoop (g9 (d8 Tryz.prog 98) 3).1::(g9 (d8 Tryz.prog 98) 3).2) (OE v0 v1 v8 v9 v10) =
  cond (decide (v9<v10)) (.f7 (r9 IntKind.i64 (v9+v10)) (.f7 ((0:Int)<=(1:Int)) (.f7 ((0:Int)<=IntKind.wrap IntKind.i64 (IntKind.wrap IntKind.u64 (v9+v10) / (2:Int)^min (Int.toNat (1:Int)) (IntKind.bits IntKind.u64))/\IntKind.wrap IntKind.i64 (IntKind.wrap IntKind.u64 (v9+v10) / (2:Int)^min (Int.toNat (1:Int)) (IntKind.bits IntKind.u64))<(↑(List.length v0):Int)) (.f7 (((-100000000:Int)<=Prod.fst (List.getD v0 (Int.toNat (IntKind.wrap IntKind.i64 (IntKind.wrap IntKind.u64 (v9+v10) / (2:Int)^min (Int.toNat (1:Int)) (IntKind.bits IntKind.u64)))) ((0:Int),[],()))/\Prod.fst (List.getD v0 (Int.toNat (IntKind.wrap IntKind.i64 (IntKind.wrap IntKind.u64 (v9+v10) / (2:Int)^min (Int.toNat (1:Int)) (IntKind.bits IntKind.u64)))) ((0:Int),[],()))<=(100000000:Int))/\(-100000000:Int)<=v1/\v1<=(100000000:Int)) (cond (decide (FL (List.getD v0 (Int.toNat (IntKind.wrap IntKind.i64 (IntKind.wrap IntKind.u64 (v9+v10) / (2:Int)^min (Int.toNat (1:Int)) (IntKind.bits IntKind.u64)))) ((0:Int),[],())) v1<(0:Int))) (.f7 (r9 IntKind.i64 (IntKind.wrap IntKind.i64 (IntKind.wrap IntKind.u64 (v9+v10) / (2:Int)^min (Int.toNat (1:Int)) (IntKind.bits IntKind.u64))+(1:Int))) (.ctL (g9 (d8 Tryz.prog 98) 3) (St.mk [(0,AV.val L8 v0),(1,AV.val e8 v1),(2,AV.C5 99 AV.nil),(8,AV.val e8 v8),(9,AV.val e8 (IntKind.wrap IntKind.i64 (IntKind.wrap IntKind.u64 (v9+v10) / (2:Int)^min (Int.toNat (1:Int)) (IntKind.bits IntKind.u64))+(1:Int))),(10,AV.val e8 v10)] []))) (.ctL (g9 (d8 Tryz.prog 98) 3) (St.mk [(0,AV.val L8 v0),(1,AV.val e8 v1),(2,AV.C5 99 AV.nil),(8,AV.val e8 v8),(9,AV.val e8 v9),(10,AV.val e8 (IntKind.wrap IntKind.i64 (IntKind.wrap IntKind.u64 (v9+v10) / (2:Int)^min (Int.toNat (1:Int)) (IntKind.bits IntKind.u64))))] []))))))) (cond (decide (v9<v8)) (.f7 ((0:Int)<=v9/\v9<(↑(List.length v0):Int)) (.f7 (((-100000000:Int)<=Prod.fst (List.getD v0 (Int.toNat v9) ((0:Int),[],()))/\Prod.fst (List.getD v0 (Int.toNat v9) ((0:Int),[],()))<=(100000000:Int))/\(-100000000:Int)<=v1/\v1<=(100000000:Int)) (.ret ((v9,decide (FL (List.getD v0 (Int.toNat v9) ((0:Int),[],())) v1=(0:Int)),()))))) (.ret ((v9,false,())))):=by kernel_rfl
theorem c1O:FP.Valid Tryz.prog 98:=by
  refine p9.n9 IG rfl rfl Tryz.func98 (c:=d8 Tryz.prog 98) rfl rfl IP rfl ?_;rintro ⟨(l:List u7),(n:Int),⟨⟩,⟨⟩⟩ ⟨⟨(h0:l.length<=1000),(hs:sorted l)⟩,(h1:-100000000<=n),(h2:n<=100000000)⟩ -
  refine j7 (n:=1000) IG IP ?_;refine i8 (Vs l n) ?_;refine Reach.M8 IG IP (λ s:Nat×Nat=>OE l n (l.length:Int) (s.1:Int) (s.2:Int)) (λ s=>s.1<=s.2/\s.2<=l.length/\(∀ k,k<s.1->(l.getD k p00).1<n)/\(∀ k,s.2<=k->k<l.length->n<=(l.getD k p00).1)) (λ s=>s.2 - s.1) 1000 (λ _=>⟨u6 rfl,u6 rfl⟩) ?_ (0,l.length) ⟨Nat.zero_le _,Nat.le_refl _,λ k hk=>by omega,λ k hk eU=>by omega⟩;rintro ⟨i,j⟩ ⟨k1,k2,k3,k4⟩ - ih;have k1:i<=j:=k1;have k2:j<=l.length:=k2;have k3:∀ k,k<i->(l.getD k p00).1<n:=k3;have k4:∀ k,j<=k->k<l.length->n<=(l.getD k p00).1:=k4;refine i8 (VF ..) ?_;have hh:IntKind.wrap .i64 (IntKind.wrap .u64 ((i:Int)+(j:Int)) / 2^min (Int.toNat 1) (IntKind.bits .u64))=(((i+j) / 2:Nat):Int):=by
    rw [Q9 (k:=.u64) (by show (0:Int)<=_/\_<=(18446744073709551615:Int); omega)];rw [show (2:Int)^min (Int.toNat 1) (IntKind.bits .u64)=2 from rfl];rw [Q9 (k:=.i64) (by show (-9223372036854775808:Int)<=_/\_<=(9223372036854775807:Int); omega)];omega
  rw [show ((i,j):Nat×Nat).1=i from rfl,show ((i,j):Nat×Nat).2=j from rfl,hh];simp only [j8,Tree.holds,sL];refine ⟨λ c=>⟨by omega,λ _=>⟨by omega,λ _=>?_⟩⟩,λ c=>?_⟩
  . have hm:(i+j) / 2<l.length:=by omega
    have lH:=hs.2 _ hm;have e0:l.getD ((i+j) / 2) (0,[],())=l.getD ((i+j) / 2) p00:=rfl;rw [e0];refine ⟨⟨by omega,by omega⟩,λ _=>⟨⟨lH,h1,h2⟩,λ _=>⟨λ d=>⟨by omega,λ _=>?_⟩,λ d=>?_⟩⟩⟩
    . have d:(l.getD ((i+j) / 2) p00).1 - n<0:=d;exact ih ((i+j) / 2+1,j) ⟨by show (i+j) / 2+1<=j; omega,k2,λ k hk=>(by
        have hk:k<(i+j) / 2+1:=hk;by_cases e:k=(i+j) / 2
        . subst e; omega
        . have:=hs.1 k ((i+j) / 2) (by omega) hm; omega),k4⟩ (by show j - ((i+j) / 2+1)<j - i; omega)
    . have d:¬ (l.getD ((i+j) / 2) p00).1 - n<0:=d;exact ih (i,(i+j) / 2) ⟨by show i<=(i+j) / 2; omega,by show (i+j) / 2<=l.length; omega,k3,λ k hk eU=>(by
        have hk:(i+j) / 2<=k:=hk;by_cases e:k=(i+j) / 2
        . subst e; omega
        . have:=hs.1 ((i+j) / 2) k (by omega) eU; omega)⟩ (by show (i+j) / 2 - i<j - i; omega)
  . have e:j=i:=by omega
    subst e;have jE:atF n l=j:=MO k2 k3 (λ h=>k4 j (Nat.le_refl _) h);have key:∀ {x:Bool},Z4 n l=x->(((j:Int),x,()):Int×Bool×Unit)=((atF n l:Int),Z4 n l,()):=by rintro x rfl; rw [jE]
    have hk:Z4 n l=(decide (j<l.length) && decide ((l.getD j p00).1 - n=0)):=by rw [Z4,jE]
    refine ⟨λ d=>⟨by omega,λ _=>⟨⟨hs.2 j (by omega),h1,h2⟩,λ _=>key ?_⟩⟩,λ d=>key ?_⟩
    . rw [hk,decide_eq_true (show j<l.length by omega),Bool.true_and]; rfl
    . rw [hk,decide_eq_false (show ¬ j<l.length by omega)]; rfl
theorem Qq {a b:u7}:W0 r8 a b=true↔a=b:=by
  obtain ⟨a1,a2,a3⟩:=a;obtain ⟨b1,b2,b3⟩:=b;show (decide (a1=b1) && (decide ((a2:yY)=b2) && decide ((a3:Unit)=b3)))=true↔_;rw [Bool.and_eq_true,Bool.and_eq_true,decide_eq_true_eq,decide_eq_true_eq];constructor
  . rintro ⟨rfl,rfl,_⟩; rfl
  . intro h; cases h; exact ⟨rfl,rfl,by simp⟩
theorem c3Y {a b:u7} (d:W0 r8 a b=false):¬ a=b:=λ h=>by rw [Qq.2 h] at d; cases d
end Go.Proofs.YtijlnmgondibnaaGreatDoor
namespace Go.Proofs.YtijlnmgondibnaaGreatDoor
open Go.Ex
def E2:List u7->Int->Int×List u7×List yY
  | [],n=>(n,[],[])
  | p::l,n=>if p.1=n then ((E2 l (n+1)).1,(E2 l (n+1)).2.1,p.2.1::(E2 l (n+1)).2.2) else (n,p::l,[])
def xZ (b:Int):List u7->Prop
  | []=>True
  | p::l=>b<p.1/\xZ p.1 l
theorem Jm {b:Int}:∀ {l:List u7} {p:u7},xZ b l->p∈l->b<p.1
  | q::l,p,⟨h1,h2⟩,hp=>by
    rcases List.mem_cons.1 hp with rfl|hp
    . exact h1
    . have:=Jm h2 hp; omega
theorem OX:∀ {l:List u7} {n:Int},xZ (n - 1) l->xZ (E2 l n).1 (E2 l n).2.1/\(E2 l n).1=n+(E2 l n).2.2.length/\(E2 l n).2.1.length+(E2 l n).2.2.length=l.length/\(∀ p∈(E2 l n).2.1,p∈l)
  | [],n,_=>⟨trivial,by simp [E2],by simp [E2],by simp [E2]⟩
  | p::l,n,⟨h1,h2⟩=>by
    rw [E2];by_cases e:p.1=n
    . rw [if_pos e];obtain ⟨a1,a2,a3,a4⟩:=OX (l:=l) (n:=n+1) (by rw [show n+1 - 1=p.1 by omega]; exact h2);refine ⟨a1,?_,?_,λ q hq=>List.mem_cons_of_mem _ (a4 q hq)⟩
      . show (E2 l (n+1)).1=n+((p.2.1::(E2 l (n+1)).2.2).length:Int);rw [List.length_cons]; omega
      . show (E2 l (n+1)).2.1.length+(p.2.1::(E2 l (n+1)).2.2).length=(p::l).length;rw [List.length_cons,List.length_cons]; omega
    . rw [if_neg e];exact ⟨⟨by show n<p.1; omega,h2⟩,by simp,by simp,λ q hq=>hq⟩
theorem Qk {c:Int}:∀ {l:List u7} {b:Int},xZ b l->(∀ p∈l,p.1<c)->l≠[]->(l.length:Int)+b<c
  | [p],b,⟨h1,_⟩,h,_=>by have:=h p List.mem_cons_self; show ((1:Nat):Int)+b<c; omega
  | p::x::l,b,⟨h1,h2⟩,h,_=>by
    have:=Qk (l:=x::l) h2 (λ y hy=>h y (List.mem_cons_of_mem _ hy)) (by simp);rw [List.length_cons]; omega
def xf (p:u7) (l:List u7):List u7:=l.take (atF p.1 l)++p::l.drop (atF p.1 l)
theorem Yn {p y:u7} {l:List u7}:y∈xf p l↔y=p\/y∈l:=by
  have h:y∈l↔y∈l.take (atF p.1 l)\/y∈l.drop (atF p.1 l):=by rw [<- List.mem_append,List.take_append_drop]
  rw [xf,List.mem_append,List.mem_cons,h];constructor
  . rintro (a|a|a)
    . exact .inr (.inl a)
    . exact .inl a
    . exact .inr (.inr a)
  . rintro (a|a|a)
    . exact .inr (.inl a)
    . exact .inl a
    . exact .inr (.inr a)
theorem Ym {p:u7} {l:List u7}:(xf p l).length=l.length+1:=by
  rw [xf,List.length_append,List.length_cons,List.length_take,List.length_drop]; omega
theorem Ct:∀ {l:List u7} {b:Int},xZ b l↔∀ i,i<l.length->zH b l i<(l.getD i p00).1
  | [],b=>⟨λ _ i hi=>absurd hi (Nat.not_lt_zero _),λ _=>trivial⟩
  | p::l,b=>by
    constructor
    . rintro ⟨h1,h2⟩ i hi
      match i,hi with
      | 0,_=>exact h1
      | 1,hi=>exact (Ct.1 h2) 0 (by simpa using hi)
      | i+2,hi=>exact (Ct.1 h2) (i+1) (by rw [List.length_cons] at hi; omega)
    . intro h;refine ⟨h 0 (by simp),Ct.2 λ i hi=>?_⟩
      match i,hi with
      | 0,hi=>exact h 1 (by simpa using hi)
      | i+1,hi=>exact h (i+2) (by rw [List.length_cons]; omega)
structure AQ (r:Int) (l:List u7):Prop where
  rg:0<=r/\r<=16777215
  len:l.length<=16
  up:xZ r l
  b:∀ p∈l,p.1<r+16/\E4 p.2.1=false
theorem Jb {r:Int} {l:List u7} {u:Unit}:toE (r,l,u)=0↔AQ r l:=by
  have hd:toE (r,l,u)=if Y9 r 0 16777215=false then 1 else if (16:Int)<l.length then 2 else S9 (xJ r l) l.length:=rfl
  rw [hd];constructor
  . intro h;split at h
    . cases h
    rename_i c1;split at h
    . cases h
    rename_i c2;have h:=Fw.1 h;have hE:∀ i,i<l.length->zH r l i<(l.getD i p00).1/\(l.getD i p00).1<r+16/\E4 (l.getD i p00).2.1=false:=λ i hi=>by
      have:=h i hi;unfold xJ at this;split at this
      . cases this
      split at this
      . cases this
      split at this
      . cases this
      rename_i d1 d2 d3;exact ⟨by omega,by omega,by simpa using d3⟩
    refine ⟨wX.1 (Bool.not_eq_false _▸c1),by omega,Ct.2 λ i hi=>(hE i hi).1,λ p hp=>?_⟩;obtain ⟨i,hi,rfl⟩:=List.getElem_of_mem hp;have:=hE i hi;rw [List.getD_eq_getElem?_getD,List.getElem?_eq_getElem hi] at this;exact this.2
  . intro h;rw [if_neg (by rw [wX.2 h.rg]; simp),if_neg (by have:=h.len; omega)];refine Fw.2 λ i hi=>?_;have h1:=Ct.1 h.up i hi;obtain ⟨h2,h3⟩:=h.b (l.getD i p00) (Es hi);rw [xJ,if_neg (by omega),if_neg (by omega),if_neg (by rw [h3]; simp)]
theorem b7P {l:List u7}:∀ {b:Int},xZ b l->∀ i j,i<j->j<l.length->(l.getD i p00).1<(l.getD j p00).1:=by
  induction l with
  | nil=>intro b _ i j _ h; exact absurd h (Nat.not_lt_zero _)
  | cons p l ih =>
    rintro b ⟨h1,h2⟩ i j bN hj
    match i,j,bN,hj with
    | 0,j+1,_,hj=>exact Jm h2 (Es (by simpa using hj))
    | i+1,j+1,bN,hj=>exact ih h2 i j (by omega) (by simpa using hj)
end Go.Proofs.YtijlnmgondibnaaGreatDoor
namespace Go.Proofs.YtijlnmgondibnaaGreatDoor
open Go.Ex
def D8 (s:ToD) (p:u7):ToD×List yY×Int×Unit :=
  if toE s≠0 then (t00,[],toE s,()) else if Y9 p.1 0 16777214=false then (t00,[],1,()) else if E4 p.2.1=true then (t00,[],2,()) else
  if p.1<s.1\/s.1+16<=p.1\/Z4 p.1 s.2.1=true then (s,[],0,()) else if s.1<p.1 then ((s.1,xf p s.2.1,()),[],0,()) else
  (((E2 s.2.1 (s.1+1)).1,(E2 s.2.1 (s.1+1)).2.1,()),p.2.1::(E2 s.2.1 (s.1+1)).2.2,0,())
theorem Yu {r:Int} {l:List u7} {p:u7} (h:AQ r l) (h1:0<=p.1/\p.1<=16777214) (h2:E4 p.2.1=false):D8 (r,l,()) p =
    if p.1<r\/r+16<=p.1\/Z4 p.1 l=true then ((r,l,()),[],0,()) else if r<p.1 then ((r,xf p l,()),[],0,()) else
    (((E2 l (r+1)).1,(E2 l (r+1)).2.1,()),p.2.1::(E2 l (r+1)).2.2,0,()):=by
  rw [D8,if_neg (by simp [Jb.2 h]),if_neg (by rw [wX.2 h1]; simp),if_neg (by rw [h2]; simp)]
theorem c3D {s:ToD} {p:u7} (h:(D8 s p).2.2.1≠0):(D8 s p).2.1=[]:=by
  by_cases c1:toE s≠0
  . rw [D8,if_pos c1]
  by_cases c2:Y9 p.1 0 16777214=false
  . rw [D8,if_neg c1,if_pos c2]
  by_cases c3:E4 p.2.1=true
  . rw [D8,if_neg c1,if_neg c2,if_pos c3]
  by_cases c4:p.1<s.1\/s.1+16<=p.1\/Z4 p.1 s.2.1=true
  . rw [D8,if_neg c1,if_neg c2,if_neg c3,if_pos c4]
  by_cases c5:s.1<p.1
  . rw [D8,if_neg c1,if_neg c2,if_neg c3,if_neg c4,if_pos c5]
  . rw [D8,if_neg c1,if_neg c2,if_neg c3,if_neg c4,if_neg c5] at h; exact absurd rfl h
end Go.Proofs.YtijlnmgondibnaaGreatDoor
set_option linter.unusedVariables false
set_option linter.unusedSimpArgs false
namespace Go.Proofs.YtijlnmgondibnaaGreatDoor
open Go Go.Shelf Go.RowKit Go.Lib
theorem b47 {P:Program} (w:World) {o:Oper} {a:Act} {K:Act->World->Prop} {Q:Exit->Act->World->Prop} (d s:Operand) (t t':TypeId)
    (ho:o.op=.call { callee:=.builtin .copy,args:=#[d,s],argTypes:=#[t,t'] }) (v u:Value) (hd:a.eval d=v) (hs:a.eval s=u) {v':Value} {w':World}
    (hr:(Builtin.copy_ #[t,t'] o.type #[v,u]).run P w=.ok v' w') (h:K (a.put o.dst v') w'):o.wp P a w K Q:=by
  unfold Oper.wp execOp;simp only [ho,resolve,invoke,builtin,Sem.run_bind,Sem.run_pure,Result.andThen_ok,List.map_toArray,List.map_cons,List.map_nil,hd,hs,hr];exact h
theorem Ut {P:Program} (w:World) {ops:Array Oper} {rest:List Oper} {o:Oper} {a:Act} {Q:Exit->Act->World->Prop} (pR:o.guard=none) (d s:Operand) (t t':TypeId)
    (ho:o.op=.call { callee:=.builtin .copy,args:=#[d,s],argTypes:=#[t,t'] }) (v u:Value) (hd:a.eval d=v) (hs:a.eval s=u) {v':Value} {w':World}
    (hr:(Builtin.copy_ #[t,t'] o.type #[v,u]).run P w=.ok v' w') (h:wpList P ops Q rest (a.put o.dst v') w'):wpList P ops Q (o::rest) a w :=
  wpList_plain pR λ _ hK=>b47 w d s t t' ho v u hd hs hr (hK _ _ h)
theorem Ur {P:Program} {ops:Array Oper} {o:Oper} {a:Act} {w:World} {K:Act->World->Prop} {Q:Exit->Act->World->Prop} {E:Prop}
    (hg:o.guard=none) (d x:Operand) (dT sT:TypeId) (cy:o.op=Op.call { callee:=Callee.builtin Builtin.copy,args:=#[d,x],argTypes:=#[dT,sT] })
    (v u:Value) (hd:a.eval d=v) (hx:a.eval x=u) {v':Value} {w':World} (hr:(Builtin.copy_ #[dT,sT] o.type #[v,u]).run P w=.ok v' w') (hK:K (a.put o.dst v') w') :
    if Region.wanted o (yielded ops a.tmps)=true then Oper.wp P o a w K Q else E:=by
  have hw:Region.wanted o (yielded ops a.tmps)=true:=by simp [Region.wanted,hg]
  rw [if_pos hw];unfold Oper.wp;simp [execOp,cy,resolve,invoke,builtin,hd,hx,hr,Result.andThen];exact hK
theorem FD (b:Nat) (vs:List Value) (o:Nat) (w:World) (h:∀ j,j<vs.length->(w.cell? ⟨b,o+j,none⟩).isSome=true) (k:Nat) (hk:(w.cell? ⟨b,k,none⟩).isSome=true):((w.setCells b o vs).cell? ⟨b,k,none⟩).isSome=true:=by
  by_cases cY:o<=k/\k<o+vs.length
  . have:=World.cell?_setCells_in b vs o w h (k - o) (by omega);rw [show o+(k - o)=k by omega] at this;rw [this]; rfl
  . rw [World.cell?_setCells_out b vs o w ⟨b,k,none⟩ (λ _ _=>by show k<o\/o+vs.length<=k; omega)];exact hk
theorem Fh {P:Program} (w:World) (dT sT ty elem:TypeId) (k b o dLen dCap:Nat) (a:Addr) (sLen sCap:Nat) (cs:List Value)
    (hu:P.underlying dT=some (.slice elem)) (hs:(P.info? elem).map (·.size)=some k) (hn:cs.length=Nat.min sLen dLen*k)
    (eH:∀ j v,cs[j]?=some v->w.cell? (a.add j)=some v) (hc:∀ j,j<cs.length->(w.cell? ⟨b,o+j,none⟩).isSome=true) (hf:∀ j,j<cs.length->w.frozen? ⟨b,o+j,none⟩=false) (h1:∀ v∈cs,v.oneCell'=true) :
    (Builtin.copy_ #[dT,sT] ty #[.slice (some ⟨b,o,none⟩) dLen dCap,.slice (some a) sLen sCap]).run P w=.ok (goInt (Nat.min sLen dLen)) (w.setCells b o cs):=by
  have hl:=run_loadCells_list (P:=P) w a cs eH;have bK:=run_storeCells_cells (P:=P) b o cs 0 w (by simpa using hc) (by simpa using hf) h1;cases hq:P.info? elem with
  | none=>simp [hq] at hs
  | some i =>
    have hi:i.size=k:=by simpa [hq] using hs
    rw [hn] at hl;simp [Builtin.copy_,run_underlying hu,Builtin.lenOf,Builtin.firstCells,sizeOf,typeInfo,hq,hi,hl,bK]
set_option maxHeartbeats 4000000 in
set_option maxRecDepth 100000 in
theorem c3Q (b off n c i vb voff vc:Nat) (cs vs:List Value) (w:World) (hi:i<n) (cu:n+1<=c) (tE:c<=9223372036854775807) (nR:vb≠b)
    (cr:cs.length=n*2) (iq:vs.length=2)
    (hcs:∀ j v,cs[j]?=some v->w.cell? ⟨b,off+j,none⟩=some v) (fx:∀ j,j<(n+1)*2->(w.cell? ⟨b,off+j,none⟩).isSome=true) (rv:∀ j,j<(n+1)*2->w.frozen? ⟨b,off+j,none⟩=false)
    (iR:∀ j v,vs[j]?=some v->w.cell? ⟨vb,voff+j,none⟩=some v) (lB:∀ v∈cs,v.oneCell'=true) (qP:∀ v∈vs,v.oneCell'=true)
    (tA tB:TypeId) (kA kB:Nat) (sl:w.shape? vb=some (tA,kA)) (sk:w.shape? b=some (tB,kB)) (sR:kB≠0) (tp:w.frozen? ⟨vb,voff,none⟩=false) (pT:w.frozen? ⟨vb,kA,none⟩=false) :
    Calls Tryz.prog 100 #[.slice (some ⟨b,off,none⟩) n c,.int .i64 i,.slice (some ⟨vb,voff,none⟩) 1 vc] w λ e w' =>
      e=.returned (.slice (some ⟨b,off,none⟩) (n+1) c)/\w'=(w.drew.setCells b (off+(i+1)*2) (cs.drop (i*2))).setCells b (off+i*2) vs:=by
  have oF:¬ ((i:Int)=(n:Int)):=by omega
  have aV:(Tryz.prog.info? 104).map (·.size)=some 2:=by kernel_rfl
  have nV:∀ lb cb,(callFunc 111 #[.slice (some ⟨vb,voff,none⟩) 1 vc,.slice (some ⟨b,off+(i+1)*2,none⟩) lb cb]).run Tryz.prog w=.ok (.value (.bool false)) w:=λ lb cb=>by
    rw [run_callFunc_extern Tryz.func111 (by kernel_rfl) (by kernel_rfl) (by kernel_rfl) (e:=Extern.SlicesOverlaps.overlaps #[81,81] #[4]) (by kernel_rfl),
      Lib.run_overlaps_apart w 81 4 104 Tryz.underlying81 2 Tryz.sizeOf104 ⟨vb,voff,none⟩ ⟨b,off+(i+1)*2,none⟩ 1 vc lb cb nR tA tB kA kB sl sk sR tp pT]
    rfl
  have ij:(cs.drop (i*2)).length=(n - i)*2:=by rw [List.length_drop,cr]; omega
  have jJ:IntKind.i64.wrap ((i:Int)+(1:Int))=(i:Int)+(1:Int):=by rw [IntKind.wrap_i64]; omega
  have dy:(0:Int)<=(i:Int)+(1:Int):=by omega
  have cY:i<=n:=by omega
  have qY:((i:Int)+(1:Int)).toNat=i+1:=by omega
  have ft:¬ (c=i+1):=by omega
  have qu:(i:Int)<=(n:Int)+(1:Int):=by omega
  have uQ:¬ (c=i):=by omega
  have nj:∀ ty dc sc,(Builtin.copy_ #[81,81] ty #[.slice (some ⟨b,off+(i+1)*2,none⟩) (n - i) dc,.slice (some ⟨b,off+i*2,none⟩) (n+1 - i) sc]).run Tryz.prog w.drew=.ok (goInt (Nat.min (n+1 - i) (n - i))) (w.drew.setCells b (off+(i+1)*2) (cs.drop (i*2))):=λ ty dc sc =>
    Fh w.drew _ _ ty 104 2 b (off+(i+1)*2) (n - i) dc ⟨b,off+i*2,none⟩ (n+1 - i) sc (cs.drop (i*2)) Tryz.underlying81 aV (by rw [ij]; simp only [Nat.min_def]; split<;>omega)
      (λ j v hj=>by rw [Addr.add_lit,Nat.add_assoc]; exact hcs (i*2+j) v (by rwa [List.getElem?_drop] at hj))
      (λ j hj=>by rw [Nat.add_assoc]; exact fx _ (by omega)) (λ j hj=>by rw [Nat.add_assoc]; exact rv _ (by omega)) (λ v hv=>lB v (List.mem_of_mem_drop hv))
  obtain ⟨W1,gi⟩:∃ W1,W1=w.drew.setCells b (off+(i+1)*2) (cs.drop (i*2)):=⟨_,rfl⟩;have oT:∀ k,k<(n+1)*2->(W1.cell? ⟨b,off+k,none⟩).isSome=true:=λ k hk=>by
    rw [gi];exact FD b _ _ _ (λ j hj=>by rw [Nat.add_assoc]; exact fx _ (by omega)) _ (fx k hk)
  have qe:∀ (W:World),(∀ x,W.cell? x=W1.cell? x)->(∀ x,W.frozen? x=W1.frozen? x)->∀ ty dc,(Builtin.copy_ #[81,81] ty #[.slice (some ⟨b,off+i*2,none⟩) (n+1 - i) dc,.slice (some ⟨vb,voff,none⟩) 1 vc]).run Tryz.prog W=.ok (goInt (Nat.min 1 (n+1 - i))) (W.setCells b (off+i*2) vs):=λ W ko nC ty dc =>
    Fh W _ _ ty 104 2 b (off+i*2) (n+1 - i) dc ⟨vb,voff,none⟩ 1 vc vs Tryz.underlying81 aV (by rw [iq]; simp only [Nat.min_def]; split<;>omega)
      (λ j v hj=>by
        rw [Addr.add_lit,ko,gi,World.cell?_setCells_out b _ _ _ _ (λ h _=>absurd h nR)];exact iR j v hj)
      (λ j hj=>by rw [ko,Nat.add_assoc]; exact oT _ (by omega)) (λ j hj=>by rw [nC,gi,World.frozen?_setCells,Nat.add_assoc]; exact rv _ (by omega)) qP
  rw [<- gi] at nj;have mixed:Tryz.prog.follows .mixedOrders=true:=by kernel_rfl
  go_enter Tryz.func100,Tryz.ntmps100
  go_wp2_with (simp only [nV])
  go_region_law_o (refine Ur rfl _ _ 81 81 rfl _ _ (by simp [Act.eval,Act.put]) (by simp [Act.eval,Act.put]) (nj _ _ _) ?_)
  go_wp2_with (at_builtin; refine Ut _ rfl _ _ 81 81 rfl _ _ rfl rfl (qe _ (λ _=>rfl) (λ _=>rfl) _ _) ?_)
  go_ret
  first|exact ⟨rfl,rfl⟩|exact ⟨rfl,by rw [gi]⟩
end Go.Proofs.YtijlnmgondibnaaGreatDoor
namespace Go.Proofs.YtijlnmgondibnaaGreatDoor
open Go Go.Shelf Go.RowKit Go.Lib
set_option linter.unusedVariables false
set_option linter.unusedSimpArgs false
theorem Se {z:Array Value} {k m:Nat} (h:z.size=k):(Builtin.zeroCells z m).size=m*k:=by
  simp [Builtin.zeroCells,h]
set_option maxHeartbeats 4000000 in
set_option maxRecDepth 100000 in
theorem Yo (b off n c i vb voff vc:Nat) (cs vs:List Value) (w:World) (hi:i<n) (uJ:n<=c) (cu:c<n+1) (qs:(n+1)*24<=140737488355328)
    (cr:cs.length=n*2) (iq:vs.length=2)
    (hcs:∀ j v,cs[j]?=some v->w.cell? ⟨b,off+j,none⟩=some v)
    (iR:∀ j v,vs[j]?=some v->w.cell? ⟨vb,voff+j,none⟩=some v) (lB:∀ v∈cs,v.oneCell'=true) (qP:∀ v∈vs,v.oneCell'=true) :
    Calls Tryz.prog 100 #[.slice (some ⟨b,off,none⟩) n c,.int .i64 i,.slice (some ⟨vb,voff,none⟩) 1 vc] w λ e w' =>
      ∃ G Z,n+1<=G/\G<=maxLen/\Z.size=(G - i)*2/\e=.returned (.slice (some ⟨w.heap.size,0,none⟩) (n+1) G) /\
      w'=(((w.alloc (.cells ((cs.take (i*2)).toArray++Z) 104)).drew.setCells w.heap.size (i*2) vs).drew).setCells w.heap.size ((i+1)*2) (cs.drop (i*2)):=by
  have aV:(Tryz.prog.info? 104).map (·.size)=some 2:=by kernel_rfl
  have eQ:(Tryz.prog.info? 104).map (λ i=>(i.size,i.bytes,i.zero.map (λ z=>z.cells.size)))=some (2,24,some 2):=by kernel_rfl
  have mixed:Tryz.prog.follows .mixedOrders=true:=by kernel_rfl
  obtain ⟨i0,mY,nM,oE,z,nN,kt⟩:∃ i0,Tryz.prog.info? 104=some i0/\i0.size=2/\i0.bytes=24/\∃ z,i0.zero=some z/\z.cells.size=2:=by
    cases h:Tryz.prog.info? 104 with
    | none=>rw [h] at eQ; cases eQ
    | some i0 =>
      rw [h] at eQ;simp only [Option.map_some,Option.some.injEq,Prod.mk.injEq,Option.map_eq_some_iff] at eQ;obtain ⟨h1,h2,z,h3,h4⟩:=eQ;exact ⟨i0,rfl,h1,h2,z,h3,h4⟩
  have oF:¬ ((i:Int)=(n:Int)):=by omega
  have uH:(c:Int)<(n:Int)+(1:Int):=by omega
  have lQ:b<w.heap.size:=block_lt_of_cell (hcs 0 _ (List.getElem?_eq_getElem (by omega)));have dX:vb<w.heap.size:=block_lt_of_cell (iR 0 _ (List.getElem?_eq_getElem (by omega)));have mR:(n:Int)+(1:Int) - (i:Int)=((n+1 - i:Nat):Int):=by omega
  have mW:i+(n+1 - i)=n+1:=by omega
  have jh:(cs.take (i*2)).length=i*2:=by rw [List.length_take,cr]; omega
  have hold:(Builtin.firstCells i0.size i (.slice (some ⟨b,off,none⟩) i c)).run Tryz.prog w.drew=.ok (cs.take (i*2)).toArray w.drew:=by
    rw [nM];exact run_firstCells_some w.drew 2 i ⟨b,off,none⟩ i c (cs.take (i*2)) jh (λ j v hj=>by
      rw [Addr.add_lit];rw [List.getElem?_take] at hj;split at hj
      . exact hcs j v hj
      . cases hj)
  obtain ⟨G,hG⟩:∃ G,G=grownCap w (n+1) c 104:=⟨_,rfl⟩;have uc:n+1<=G:=by rw [hG]; exact grownCap_ge w _ _ _
  have oB:G<=maxLen:=by
    rw [hG]; exact grownCap_le_maxLen w (n+1) c 104 (by unfold maxLen; omega)
  have ue:G<=9223372036854775807:=oB;obtain ⟨Z,hZ⟩:∃ Z:Array Value,Z=Builtin.zeroCells z.cells (n+1 - i)++Builtin.zeroCells z.cells (G - (n+1)):=⟨_,rfl⟩;have qx:Z.size=(G - i)*2:=by rw [hZ,Array.size_append,Se kt,Se kt]; omega
  have oV:∀ ty,(Builtin.append_ #[81,3] ty #[.slice (some ⟨b,off,none⟩) i c,.int .i64 ((n:Int)+(1:Int) - (i:Int))]).run Tryz.prog w =
      .ok (.slice (some ⟨w.heap.size,0,none⟩) (n+1) G) (w.drew.alloc (.cells ((cs.take (i*2)).toArray++Z) 104)):=λ ty=>by
    have h:=Lib.run_append_grow_zeros w 81 3 ty 104 i0 z .i64 .i64 Tryz.underlying81 Tryz.underlying3 mY nN (some ⟨b,off,none⟩) i c (cs.take (i*2)) hold (n+1 - i) (by omega) (by omega) (by omega) (by omega) (by rw [oE]; omega) (by rw [oE,mW]; exact growslice_fits cu qs);rw [mW,<- hG,Array.append_assoc,<- hZ] at h;rw [mR];exact h
  obtain ⟨ROW,jG⟩:∃ ROW:Array Value,ROW=(cs.take (i*2)).toArray++Z:=⟨_,rfl⟩;rw [<- jG] at oV;have qH:(n+1)*2<=ROW.size:=by
    rw [jG,Array.size_append,qx,List.size_toArray,jh];omega
  obtain ⟨W1,gi⟩:∃ W1,W1=w.drew.alloc (.cells ROW 104):=⟨_,rfl⟩;rw [<- gi] at oV;have hN:∀ j,j<(n+1)*2->(W1.cell? ⟨w.heap.size,j,none⟩).isSome=true:=λ j hj=>by
    rw [gi,World.cell?_alloc_at (w:=w.drew) ROW _ w.heap.size j rfl,Array.getElem?_eq_getElem (by omega)]; rfl
  have rJ:∀ j,W1.frozen? ⟨w.heap.size,j,none⟩=false:=λ j=>by rw [gi]; exact World.frozen?_alloc_at (w:=w.drew) ROW _ w.heap.size j rfl
  have ou:∀ j v,w.cell? ⟨b,j,none⟩=some v->W1.cell? ⟨b,j,none⟩=some v:=λ j v h=>by rw [gi,World.cell?_alloc_past (w:=w.drew) _ b j lQ]; exact h
  have tT:∀ j v,w.cell? ⟨vb,j,none⟩=some v->W1.cell? ⟨vb,j,none⟩=some v:=λ j v h=>by rw [gi,World.cell?_alloc_past (w:=w.drew) _ vb j dX]; exact h
  have qd:∀ (W:World),(∀ x,W.cell? x=W1.cell? x)->(∀ x,W.frozen? x=W1.frozen? x)->∀ ty dc,(Builtin.copy_ #[81,81] ty #[.slice (some ⟨w.heap.size,i*2,none⟩) (n+1 - i) dc,.slice (some ⟨vb,voff,none⟩) 1 vc]).run Tryz.prog W=.ok (goInt (Nat.min 1 (n+1 - i))) (W.setCells w.heap.size (i*2) vs):=λ W ko nC ty dc =>
    Fh W _ _ ty 104 2 w.heap.size (i*2) (n+1 - i) dc ⟨vb,voff,none⟩ 1 vc vs Tryz.underlying81 aV (by rw [iq]; simp only [Nat.min_def]; split<;>omega)
      (λ j v hj=>by rw [Addr.add_lit,ko]; exact tT _ v (iR j v hj))
      (λ j hj=>by rw [ko]; exact hN _ (by omega)) (λ j hj=>by rw [nC]; exact rJ _) qP
  have uS:¬ (G=i):=by omega
  have ud:¬ (G=i+1):=by omega
  have kk:¬ (c=i):=by omega
  have tG:b≠w.heap.size:=by omega
  have ij:(cs.drop (i*2)).length=(n - i)*2:=by rw [List.length_drop,cr]; omega
  have qc:∀ (W:World),(∀ x,W.cell? x=(W1.setCells w.heap.size (i*2) vs).cell? x)->(∀ x,W.frozen? x=(W1.setCells w.heap.size (i*2) vs).frozen? x)->∀ ty dc sc,(Builtin.copy_ #[81,81] ty #[.slice (some ⟨w.heap.size,(i+1)*2,none⟩) (n - i) dc,.slice (some ⟨b,off+i*2,none⟩) (n - i) sc]).run Tryz.prog W=.ok (goInt (Nat.min (n - i) (n - i))) (W.setCells w.heap.size ((i+1)*2) (cs.drop (i*2))):=λ W ko nC ty dc sc =>
    Fh W _ _ ty 104 2 w.heap.size ((i+1)*2) (n - i) dc ⟨b,off+i*2,none⟩ (n - i) sc (cs.drop (i*2)) Tryz.underlying81 aV (by rw [ij]; simp only [Nat.min_def]; split<;>omega)
      (λ j v hj=>by
        rw [Addr.add_lit,ko,World.cell?_setCells_out _ _ _ _ _ (λ h _=>absurd h tG),Nat.add_assoc];exact ou _ v (hcs (i*2+j) v (by rwa [List.getElem?_drop] at hj)))
      (λ j hj=>by rw [ko]; exact FD _ _ _ _ (λ t ht=>hN _ (by omega)) _ (hN _ (by omega)))
      (λ j hj=>by rw [nC,World.frozen?_setCells]; exact rJ _) (λ v hv=>lB v (List.mem_of_mem_drop hv))
  subst gi;have ug:∀ x,((w.alloc (.cells ROW 104)).drew).cell? x=(w.drew.alloc (.cells ROW 104)).cell? x:=λ x=>rfl;have uf:∀ x,((w.alloc (.cells ROW 104)).drew).frozen? x=(w.drew.alloc (.cells ROW 104)).frozen? x:=λ x=>rfl;have nK:∀ x,(((w.alloc (.cells ROW 104)).drew.setCells w.heap.size (i*2) vs).drew).cell? x=((w.drew.alloc (.cells ROW 104)).setCells w.heap.size (i*2) vs).cell? x:=λ x=>rfl;have nJ:∀ x,(((w.alloc (.cells ROW 104)).drew.setCells w.heap.size (i*2) vs).drew).frozen? x=((w.drew.alloc (.cells ROW 104)).setCells w.heap.size (i*2) vs).frozen? x:=λ x=>rfl;have jJ:IntKind.i64.wrap ((i:Int)+(1:Int))=(i:Int)+(1:Int):=by rw [IntKind.wrap_i64]; omega
  have dy:(0:Int)<=(i:Int)+(1:Int):=by omega
  have cY:i<=n:=by omega
  have qY:((i:Int)+(1:Int)).toNat=i+1:=by omega
  have qu:(i:Int)<=(n:Int):=by omega
  suffices eM:Calls Tryz.prog 100 #[.slice (some ⟨b,off,none⟩) n c,.int .i64 i,.slice (some ⟨vb,voff,none⟩) 1 vc] w λ e w'=>e=.returned (.slice (some ⟨w.heap.size,0,none⟩) (n+1) G) /\
      w'=(((w.alloc (.cells ROW 104)).drew.setCells w.heap.size (i*2) vs).drew).setCells w.heap.size ((i+1)*2) (cs.drop (i*2)) by
    refine eM.mono ?_;rintro e w' ⟨rfl,rfl⟩;exact ⟨G,Z,uc,oB,qx,rfl,by rw [<- jG]⟩
  clear mR mW hold qH eQ aV mY nN nM oE kt hG hZ jG qx
  go_enter Tryz.func100,Tryz.ntmps100
  go_wp2_with (first
    | (at_builtin; refine Lib.wpList_append_run _ rfl _ _ _ _ rfl _ _ rfl rfl _ _ (oV _) ?_)
    | (at_builtin; refine Ut _ rfl _ _ 81 81 rfl _ _ rfl rfl (qd _ ug uf _ _) ?_))
  go_region_law_o (refine Ur rfl _ _ 81 81 rfl (.slice (some ⟨w.heap.size,(i+1)*2,none⟩) (n - i) (G - (i+1))) (.slice (some ⟨b,off+i*2,none⟩) (n - i) (c - i)) (by simp [Act.eval,Act.put]) (by simp [Act.eval,Act.put]) (qc _ nK nJ 3 (G - (i+1)) (c - i)) ?_)
  go_wp2
  go_ret
  exact ⟨rfl,rfl⟩
end Go.Proofs.YtijlnmgondibnaaGreatDoor
namespace Go.Proofs.YtijlnmgondibnaaGreatDoor
open Go.Ex
set_option maxRecDepth 100000
abbrev D5:=Int×yY×Unit
def yN (l:List D5) (i:Int) (m:List D5):List D5:=l.take i.toNat++m++l.drop i.toNat
theorem CN (b:Nat):∀ (vs:List Value) (o:Nat) (w:World),(w.setCells b o vs).heap.size=w.heap.size/\(w.setCells b o vs).os=w.os/\(w.setCells b o vs).output=w.output/\(w.setCells b o vs).tape=w.tape/\(w.setCells b o vs).drawn=w.drawn /\
    (∀ c,c≠b->(w.setCells b o vs).heap[c]?=w.heap[c]?)/\∀ arr T fz,w.heap[b]?=some (.cells arr T fz)->∃ cW,(w.setCells b o vs).heap[b]?=some (.cells cW T fz)/\cW.size=arr.size
  | [],_,_=>⟨rfl,rfl,rfl,rfl,rfl,λ _ _=>rfl,λ arr _ _ h=>⟨arr,h,rfl⟩⟩
  | v::r,o,w=>by
    obtain ⟨h1,h2,h3,h4,h5,h6,h7⟩:=CN b r (o+1) (w.setCell ⟨b,o,none⟩ v);have e1:(w.setCell ⟨b,o,none⟩ v).heap.size=w.heap.size:=by simp [World.setCell]
    have e2:∀ c,c≠b->(w.setCell ⟨b,o,none⟩ v).heap[c]?=w.heap[c]?:=λ c hc=>by
      simp only [World.setCell,Array.getElem?_modify,if_neg (Ne.symm hc)]
    refine ⟨h1.trans e1,h2,h3,h4,h5,λ c hc=>(h6 c hc).trans (e2 c hc),λ arr T fz h=>?_⟩;have:(w.setCell ⟨b,o,none⟩ v).heap[b]?=some (.cells (arr.setIfInBounds o v) T fz):=by
      simp [World.setCell,Array.getElem?_modify,h]
    obtain ⟨cW,g1,g2⟩:=h7 _ T fz this;exact ⟨cW,g1,by rw [g2,Array.size_setIfInBounds]⟩
theorem So {w:World} {b off:Nat} {arr:Array Value} {T:TypeId} {fz:Nat×Nat} (h:w.heap[b]?=some (.cells arr T fz)) {F:List Value} {n:Nat} (hn:F.length=n) (hc:∀ j,j<n->w.cell? ⟨b,off+j,none⟩=F[j]?):d9 w.heap b off n=F:=by
  have bI:∀ k,w.cell? ⟨b,k,none⟩=arr[k]?:=λ k=>by simp [World.cell?,h]
  simp only [d9,u5,h];apply List.ext_getElem?;intro j;rw [List.getElem?_take,List.getElem?_drop];by_cases hj:j<n
  . rw [if_pos hj,<- hc j hj,bI,Array.getElem?_toList]
  . rw [if_neg hj,List.getElem?_eq_none (by omega)]
theorem Sn {α:Type} (A B C:List α) (j:Nat):(A++B++C)[j]?=if j<A.length then A[j]? else if j<A.length+B.length then B[j - A.length]? else C[j - (A.length+B.length)]?:=by
  rw [List.getElem?_append,List.getElem?_append,List.length_append]
  split<;>split<;>first|rfl|omega|(split<;>first|rfl|omega)
theorem OV {w:World} {S:Nat->Prop} {t:Ty} (ht:t.shared=true) {L:List Nat} {cs:List Value} {l:List t.den} (h:i6 w.heap S (.d0 true t) L cs l) (hl:0<l.length) :
    ∃ b off cap,L=[b]/\cs=[.slice (some ⟨b,off,none⟩) l.length cap]/\l.length<=cap/\zU true cap/\j6 (i6 w.heap S t) t.size [] (d9 w.heap b off (l.length*t.size)) l/\T8 t.isB w.heap b (off+cap*t.size):=by
  rcases h with ⟨_,_,rfl⟩|⟨b,off,cap,O',h1,h2,h3,h4,h5,h6,h7⟩
  . simp at hl
  have hO:O'=[]:=j6.N5 (λ _ _ _ hr=>i6.N5 ht hr) h5;subst hO;exact ⟨b,off,cap,h6,h1,h2,h3,h5,h7⟩
def zX:p9:={ ps:=[.own (.d0 true r8),.v e8,.own (.d0 true r8)],rs:=[.d0 true r8],pre:=λ x=>(LE.le (α:=Int) 0 x.2.1/\LT.lt (α:=Int) x.2.1 (List.length (α:=D5) x.1))/\List.length (α:=D5) x.1<=1000/\List.length (α:=D5) x.2.2.1=1,fn:=λ x=>(yN x.1 x.2.1 x.2.2.1,()),out:=λ _=>() }
theorem OW {w w':World} {L:List Nat} (h1:w'.os=w.os) (h2:w'.tape=w.tape) (h3:w.drawn<=w'.drawn) (h4:w'.output=w.output) (h5:w.heap.size<=w'.heap.size) (h6:∀ c,c<w.heap.size->c∉L->w'.heap[c]?=w.heap[c]?):C9 L w w':=⟨h1,⟨h2,h3⟩,h4,h5,h6⟩
theorem Tu:zX.Valid Tryz.prog 100:=by
  refine ⟨⟨_,Tryz.func100,by kernel_rfl,by kernel_rfl⟩,?_,λ h=>by cases h⟩;rintro w S vs ⟨(l:List D5),(i0:Int),(m:List D5),⟨⟩⟩ L hS - ⟨⟨(p0:0<=i0),(p1:i0<(l.length:Int))⟩,(p2:l.length<=1000),(p3:m.length=1)⟩ nY - aF hL;obtain ⟨v1,us,L1,L2,rfl,rfl,⟨cs1,rfl,r1⟩,v2,us,L3,L4,rfl,rfl,⟨rfl,cs2,rfl,r2⟩,v3,us,L5,L6,rfl,rfl,⟨cs3,rfl,r3⟩,rfl,rfl⟩:=nY;obtain ⟨i,rfl⟩:∃ i:Nat,i0=i:=⟨i0.toNat,by omega⟩;have r1:i6 w.heap S (.d0 true r8) L1 cs1 l:=r1;have r3:i6 w.heap S (.d0 true r8) L5 cs3 m:=r3;obtain ⟨b,off,cap,rfl,rfl,c2,c3,c4,c5⟩:=OV rfl r1 (by omega);obtain ⟨vb,voff,vc,rfl,rfl,d2,d3,d4,d5⟩:=OV rfl r3 (by omega);obtain ⟨-,rfl,-⟩:=r2;have aV:Ty.size r8=2:=rfl;have c4:j6 (i6 w.heap S r8) 2 [] (d9 w.heap b off (l.length*2)) l:=c4;have c5:T8 false w.heap b (off+cap*2):=c5;have d5:T8 false w.heap vb (voff+vc*2):=d5;have d4:j6 (i6 w.heap S r8) 2 [] (d9 w.heap vb voff (1*2)) m:=by rw [<- p3]; exact d4
  have nR:vb≠b:=by
    rintro rfl;simp at aF
  have iM:=hL b (by simp);have ky:=hL vb (by simp);obtain ⟨arr,T,⟨fz,e1,ef⟩,en⟩:=c5;obtain rfl:fz=(0,0):=ef.elim id (λ h=>by cases h.1);obtain ⟨varr,vT,⟨vfz,g1,gf⟩,gn⟩:=d5;obtain rfl:vfz=(0,0):=gf.elim id (λ h=>by cases h.1);rw [p3];have bZ:cap<=maxLen:=c3.1;have cr:(d9 w.heap b off (l.length*2)).length=l.length*2:=j6.length (λ _ _ _ h=>h.length) c4;have iq:(d9 w.heap vb voff (1*2)).length=2:=by have:=j6.length (λ _ _ _ h=>h.length) d4; rw [p3] at this; exact this
  have bX:=j6.plain (λ _ _ _ hr=>hr.plain) c4;have re:=j6.plain (λ _ _ _ hr=>hr.plain) d4;have bI:∀ k,w.cell? ⟨b,k,none⟩=arr[k]?:=λ k=>by simp [World.cell?,e1]
  have kY:∀ k,w.frozen? ⟨b,k,none⟩=false:=λ k=>by simp [World.frozen?,e1]
  have mZ:∀ k,w.frozen? ⟨vb,k,none⟩=false:=λ k=>by simp [World.frozen?,g1]
  have hcs:∀ j v,(d9 w.heap b off (l.length*2))[j]?=some v->w.cell? ⟨b,off+j,none⟩=some v:=λ j v h=>M5 h;have iR:∀ j v,(d9 w.heap vb voff (1*2))[j]?=some v->w.cell? ⟨vb,voff+j,none⟩=some v:=λ j v h=>M5 h;have jA:zX.fn (l,(i:Int),m,())=(l.take i++m++l.drop i,()):=rfl;have ke:i<l.length:=by omega
  obtain ⟨q1,q2⟩:j6 (i6 w.heap S r8) 2 [] ((d9 w.heap b off (l.length*2)).take (i*2)) (l.take i)/\j6 (i6 w.heap S r8) 2 [] ((d9 w.heap b off (l.length*2)).drop (i*2)) (l.drop i):=by
    obtain ⟨P1,P2,P3,e,k1,k2,k3⟩:=j6.split (d:=((0:Int),([]:yY),())) ke c4;have e:=e.symm;simp only [List.append_eq_nil_iff] at e;obtain ⟨rfl,rfl,rfl⟩:=e;refine ⟨k1,?_⟩;have h9:l.drop i=l.getD i (0,[],())::l.drop (i+1):=by
      rw [List.drop_eq_getElem_cons ke,List.getD_eq_getElem?_getD,List.getElem?_eq_getElem ke]; rfl
    rw [h9];refine ⟨[],[],rfl,k2,?_⟩;rw [List.drop_drop,show i*2+2=(i+1)*2 by omega];exact k3
  have oX:j6 (i6 w.heap S r8) 2 [] ((d9 w.heap b off (l.length*2)).take (i*2)++d9 w.heap vb voff (1*2)++(d9 w.heap b off (l.length*2)).drop (i*2)) (l.take i++m++l.drop i):=by
    have h1:=j6.append (λ _ _ _ h=>h.length) q1 d4;exact j6.append (λ _ _ _ h=>h.length) h1 q2
  have hlen:(l.take i++m++l.drop i).length=l.length+1:=by simp only [List.length_append,List.length_take,List.length_drop]; omega
  have jh:((d9 w.heap b off (l.length*2)).take (i*2)).length=i*2:=by rw [List.length_take,cr]; omega
  have ij:((d9 w.heap b off (l.length*2)).drop (i*2)).length=(l.length - i)*2:=by rw [List.length_drop,cr]; omega
  have fin:∀ {w':World} {c o G:Nat} {cW:Array Value} {T':TypeId},C9 [b,vb] w w'->(c=b\/w.heap.size<=c)->l.length+1<=G->G<=maxLen->w'.heap[c]?=some (.cells cW T' (0,0))->o+G*2<=cW.size ->
      d9 w'.heap c o ((l.length+1)*2)=(d9 w.heap b off (l.length*2)).take (i*2)++d9 w.heap vb voff (1*2)++(d9 w.heap b off (l.length*2)).drop (i*2) ->
      xo w S zX.rs zX.ps [n8 (.d0 true r8) [.slice (some ⟨b,off,none⟩) l.length cap],n8 e8 [.int .i64 i],n8 (.d0 true r8) [.slice (some ⟨vb,voff,none⟩) 1 vc]] [b,vb] (zX.fn (l,(i:Int),m,())) (zX.out (l,(i:Int),m,())) (.returned (.slice (some ⟨c,o,none⟩) (l.length+1) G)) w':=by
    intro w' c o G cW T' hp hc hG oB ha hs qk;have cd:∀ {cs:List Value} {l':List D5},j6 (i6 w.heap S r8) 2 [] cs l'->j6 (i6 w'.heap S r8) 2 [] cs l':=λ hr=>j6.mono (L:=[]) (λ _ h=>h) (λ O cs x hO hr=>hr.s4 (λ d hd=>by
      rcases hd with hd|hd
      . exact absurd (hO d hd) (by simp)
      . refine hp.frame d (hS d hd) (λ hm=>?_);rcases List.mem_cons.1 hm with rfl|hm
        . exact iM.1 hd
        . rw [List.mem_singleton] at hm; subst hm; exact ky.1 hd) (λ _ h=>h)) hr
    refine ⟨[.slice (some ⟨c,o,none⟩) (l.length+1) G],[c],[],S,rfl,hp,λ _ h=>h,λ _ h=>.inl h,⟨_,[],[c],[],[.slice (some ⟨c,o,none⟩) (l.length+1) G],rfl,rfl,rfl,?_,rfl,rfl⟩,⟨_,_,rfl,_,_,rfl,_,_,rfl,rfl,rfl⟩,by simp,?_⟩
    . rw [jA];refine .inr ⟨c,o,G,[],by rw [hlen],by rw [hlen]; exact hG,⟨oB,λ _=>by omega⟩,?_,?_,rfl,cW,T',⟨(0,0),ha,.inl rfl⟩,hs⟩
      . rw [hlen,aV]; simp only [u5,ha,Array.length_toList]; omega
      . rw [hlen,aV,qk]; exact cd oX
    . intro d hd;simp only [List.append_nil,List.mem_singleton] at hd;subst hd;refine ⟨λ h=>?_,?_,?_⟩
      . rcases hc with rfl|hc
        . exact iM.1 h
        . have:=hS d h; omega
      . rcases hc with rfl|hc
        . right; simp
        . left; exact hc
      . exact (Array.getElem?_eq_some_iff.1 ha).1
  by_cases cu:l.length+1<=cap
  . have jV:(l.length+1)*2<=cap*2:=Nat.mul_le_mul_right _ cu;refine (c3Q b off l.length cap i vb voff vc (d9 w.heap b off (l.length*2)) (d9 w.heap vb voff (1*2)) w ke cu bZ nR cr iq hcs
      (λ j hj=>by rw [bI,Array.getElem?_eq_getElem (by omega)]; rfl) (λ j _=>kY _) iR (λ v hv=>(bX v hv).1) (λ v hv=>(re v hv).1)
      vT T varr.size arr.size (by simp [World.shape?,g1]) (by simp [World.shape?,e1]) (by omega) (mZ _) (mZ _)).mono ?_
    rintro e w' ⟨rfl,rfl⟩;obtain ⟨A1,A2,A3,A4,A5,A6,A7⟩:=CN b ((d9 w.heap b off (l.length*2)).drop (i*2)) (off+(i+1)*2) w.drew;obtain ⟨B1,B2,B3,B4,B5,B6,B7⟩:=CN b (d9 w.heap vb voff (1*2)) (off+i*2) (w.drew.setCells b (off+(i+1)*2) ((d9 w.heap b off (l.length*2)).drop (i*2)));obtain ⟨arr1,x1,x2⟩:=A7 arr T (0,0) e1;obtain ⟨arr2,y1,y2⟩:=B7 arr1 T (0,0) x1;have cm:∀ k,off+k<off+cap*2->(w.drew.cell? ⟨b,off+k,none⟩).isSome=true:=λ k hk=>by
      show (w.cell? ⟨b,off+k,none⟩).isSome=true;rw [bI,Array.getElem?_eq_getElem (by omega)]; rfl
    have gl:∀ k,off+k<off+cap*2->((w.drew.setCells b (off+(i+1)*2) ((d9 w.heap b off (l.length*2)).drop (i*2))).cell? ⟨b,off+k,none⟩).isSome=true:=λ k hk =>
      FD b _ _ _ (λ j hj=>by rw [ij] at hj; rw [Nat.add_assoc]; exact cm _ (by omega)) _ (cm k hk)
    refine fin (T':=T) (cW:=arr2) ?_ (.inl rfl) cu bZ y1 (by rw [y2,x2]; exact en) ?_
    . refine OW (B2.trans A2) (B4.trans A4) (by rw [B5,A5]; exact Nat.le_succ _) (B3.trans A3) (by rw [B1,A1]; exact Nat.le_refl _) (λ c hc hn=>?_);have cv:c≠b:=λ e=>hn (by simp [e]);exact (B6 c cv).trans (A6 c cv)
    . refine So y1 (by rw [List.length_append,List.length_append,jh,iq,ij]; omega) (λ j hj=>?_);rw [Sn,jh,iq];by_cases k1:j<i*2
      . rw [if_pos k1,World.cell?_setCells_out b _ _ _ _ (λ _ _=>.inl (by show off+j<_; omega)),World.cell?_setCells_out b _ _ _ _ (λ _ _=>.inl (by show off+j<_; omega)),List.getElem?_take,if_pos k1];have iX:j<(d9 w.heap b off (l.length*2)).length:=by omega
        rw [List.getElem?_eq_getElem iX];exact hcs j _ (List.getElem?_eq_getElem iX)
      . rw [if_neg k1];by_cases k2:j<i*2+2
        . rw [if_pos k2];have:=World.cell?_setCells_in b (d9 w.heap vb voff (1*2)) (off+i*2) (w.drew.setCells b (off+(i+1)*2) ((d9 w.heap b off (l.length*2)).drop (i*2))) (λ j hj=>by rw [Nat.add_assoc]; exact gl _ (by omega)) (j - i*2) (by omega);rw [show off+i*2+(j - i*2)=off+j by omega] at this;rw [this,List.getElem?_eq_getElem]
        . rw [if_neg k2,World.cell?_setCells_out b _ _ _ _ (λ _ _=>.inr (by show _<=off+j; rw [iq]; omega))];have:=World.cell?_setCells_in b ((d9 w.heap b off (l.length*2)).drop (i*2)) (off+(i+1)*2) w.drew (λ j hj=>by rw [ij] at hj; rw [Nat.add_assoc]; exact cm _ (by omega)) (j - (i*2+2)) (by omega);rw [show off+(i+1)*2+(j - (i*2+2))=off+j by omega] at this;rw [this,List.getElem?_eq_getElem]
  . refine (Yo b off l.length cap i vb voff vc (d9 w.heap b off (l.length*2)) (d9 w.heap vb voff (1*2)) w ke c2 (by omega) (by omega) cr iq hcs iR (λ v hv=>(bX v hv).1) (λ v hv=>(re v hv).1)).mono ?_;rintro e w' ⟨G,Z,z1,z2,z3,rfl,rfl⟩;generalize jN:((d9 w.heap b off (l.length*2)).take (i*2)).toArray++Z=ROW;have tQ:ROW.size=G*2:=by rw [<- jN,Array.size_append,List.size_toArray,jh,z3]; omega
    generalize hN:w.heap.size=N;have n1:((w.alloc (.cells ROW 104)).drew).heap[N]?=some (.cells ROW 104 (0,0)):=by
      show (w.heap.push _)[N]?=_;rw [<- hN]; simp
    have n2:∀ c,c<N->((w.alloc (.cells ROW 104)).drew).heap[c]?=w.heap[c]?:=λ c hc=>by
      show (w.heap.push _)[c]?=_;rw [Array.getElem?_push,if_neg (by omega)]
    have n3:((w.alloc (.cells ROW 104)).drew).heap.size=N+1:=by show (w.heap.push _).size=_; rw [Array.size_push,hN]
    obtain ⟨A1,A2,A3,A4,A5,A6,A7⟩:=CN N (d9 w.heap vb voff (1*2)) (i*2) ((w.alloc (.cells ROW 104)).drew);generalize gi:((w.alloc (.cells ROW 104)).drew).setCells N (i*2) (d9 w.heap vb voff (1*2))=W1 at *
    obtain ⟨B1,B2,B3,B4,B5,B6,B7⟩:=CN N ((d9 w.heap b off (l.length*2)).drop (i*2)) ((i+1)*2) W1.drew;obtain ⟨arr1,x1,x2⟩:=A7 ROW 104 (0,0) n1;obtain ⟨arr2,y1,y2⟩:=B7 arr1 104 (0,0) x1;have ry:∀ k,((w.alloc (.cells ROW 104)).drew).cell? ⟨N,k,none⟩=ROW[k]?:=λ k=>by simp only [World.cell?,n1]; rfl
    have cm:∀ k,k<G*2->(((w.alloc (.cells ROW 104)).drew).cell? ⟨N,k,none⟩).isSome=true:=λ k hk=>by
      rw [ry,Array.getElem?_eq_getElem (by omega)]; rfl
    have gl:∀ k,k<G*2->(W1.drew.cell? ⟨N,k,none⟩).isSome=true:=λ k hk=>by
      show (W1.cell? ⟨N,k,none⟩).isSome=true;rw [<- gi];exact FD N _ _ _ (λ j hj=>cm _ (by omega)) _ (cm k hk)
    refine fin (c:=N) (o:=0) (G:=G) (T':=104) (cW:=arr2) ?_ (.inr (by omega)) z1 z2 y1 (by rw [y2,x2,tQ]; omega) ?_
    . refine OW (B2.trans A2) (B4.trans A4) (by rw [B5]; show _<=W1.drawn+1; rw [A5]; show w.drawn<=w.drawn+1+1; omega) (B3.trans A3) (by rw [B1]; show _<=W1.heap.size; rw [A1,n3]; omega) (λ c hc hn=>?_);have cv:c≠N:=by omega
      exact (B6 c cv).trans ((A6 c cv).trans (n2 c (by omega)))
    . refine So y1 (by rw [List.length_append,List.length_append,jh,iq,ij]; omega) (λ j hj=>?_);rw [Sn,jh,iq,Nat.zero_add];by_cases k1:j<i*2
      . rw [if_pos k1,World.cell?_setCells_out N _ _ _ _ (λ _ _=>.inl (by show j<_; omega))];show W1.cell? ⟨N,j,none⟩=_;rw [<- gi,World.cell?_setCells_out N _ _ _ _ (λ _ _=>.inl (by show j<_; omega)),ry,<- jN];rw [Array.getElem?_append,if_pos (by rw [List.size_toArray,jh]; exact k1),List.getElem?_toArray]
      . rw [if_neg k1];by_cases k2:j<i*2+2
        . rw [if_pos k2,World.cell?_setCells_out N _ _ _ _ (λ _ _=>.inl (by show j<_; omega))];show W1.cell? ⟨N,j,none⟩=_;have:=World.cell?_setCells_in N (d9 w.heap vb voff (1*2)) (i*2) ((w.alloc (.cells ROW 104)).drew) (λ j hj=>cm _ (by omega)) (j - i*2) (by omega);rw [gi,show i*2+(j - i*2)=j by omega] at this;rw [this,List.getElem?_eq_getElem]
        . rw [if_neg k2];have:=World.cell?_setCells_in N ((d9 w.heap b off (l.length*2)).drop (i*2)) ((i+1)*2) W1.drew (λ j hj=>by rw [ij] at hj; exact gl _ (by omega)) (j - (i*2+2)) (by omega);rw [show (i+1)*2+(j - (i*2+2))=j by omega] at this;rw [this,List.getElem?_eq_getElem]
def Mm:p9:={ ps:=[.own (.d0 true r8),.v e8,.own (.d0 true r8)],rs:=[.d0 true r8],pre:=λ x=>x.2.1=(List.length (α:=D5) x.1:Int)/\List.length (α:=D5) x.1<=1000/\List.length (α:=D5) x.2.2.1=1,fn:=λ x=>(yN x.1 x.2.1 x.2.2.1,()),out:=λ _=>() }
noncomputable def Gj:Env:={ P:=Tryz.prog,tt:=tt,C7:=[],res:=[Go.ResultVar.tmp 6],rs:=[Ty.d0 true r8],ps:=[PK.own (Ty.d0 true r8),PK.v e8,PK.own (Ty.d0 true r8)],B9:=[],nt:=95 }
theorem Pm:w7 Gj:=x8 r7 trivial
theorem PI:C0 Gj Tryz.f100:=⟨rfl,rfl⟩
theorem VY (x0:List (Int×yY×Unit)) (x1:Int) (x2:List (Int×yY×Unit)):exec Gj 1000 [.code (d8 Tryz.prog 100)] (s8 Mm.ps ((x0,x1,x2,()))) =
  .f7 ((0:Int)<=x1/\x1<=(↑(List.length x0):Int)/\(↑(List.length x0):Int)<=(↑(List.length x0):Int)) (cond (decide ((↑(List.length x2):Int)=(0:Int))) (.ret ((x0,()))) (cond (decide (x1=(↑(List.length x0):Int))) (.f7 (List.length x0+List.length x2<=140737488355328/\(List.length x0+List.length x2)*Ty.wb r8<=140737488355328) (.ret ((x0++x2,())))) (.f7 (r9 IntKind.i64 ((↑(List.length x0):Int)+(↑(List.length x2):Int))) (.stuck "cap")))):=by kernel_rfl
theorem b8n:Mm.Valid Tryz.prog 100:=by
  refine p9.n9 Pm rfl rfl Tryz.func100 (c:=d8 Tryz.prog 100) rfl rfl PI rfl ?_;rintro ⟨(l:List D5),(i:Int),(m:List D5),⟨⟩⟩ ⟨(p1:i=(l.length:Int)),(p2:l.length<=1000),(p3:m.length=1)⟩ -
  subst p1;refine j7 (n:=1000) Pm PI ?_;refine i8 (VY l (l.length:Int) m) ?_;have Uw:Ty.wb r8=24:=rfl;simp only [j8,Tree.holds,Uw,sL];refine ⟨by omega,λ _=>⟨λ h=>absurd h (by omega),λ _=>⟨⟨⟨by omega,by omega⟩,λ _=>?_⟩,λ h=>absurd trivial h⟩⟩⟩;show ((l++m,()):List D5×Unit)=(yN l (l.length:Int) m,());unfold yN;rw [Int.toNat_natCast,List.take_length,List.drop_length,List.append_nil]
def Mg:p9:={ ps:=[.own (.d0 true r8),.v e8,.own (.d0 true r8)],rs:=[.d0 true r8],pre:=λ x=>(LE.le (α:=Int) 0 x.2.1/\LE.le (α:=Int) x.2.1 (List.length (α:=D5) x.1))/\List.length (α:=D5) x.1<=1000/\List.length (α:=D5) x.2.2.1=1,fn:=λ x=>(yN x.1 x.2.1 x.2.2.1,()),out:=λ _=>() }
theorem c1A:Mg.Valid Tryz.prog 100:=by
  refine ⟨Tu.ent,?_,λ h=>by cases h⟩;rintro w S vs ⟨(l:List D5),(i:Int),(m:List D5),⟨⟩⟩ L hS dJ ⟨⟨(p0:0<=i),(p1:i<=(l.length:Int))⟩,(p2:l.length<=1000),(p3:m.length=1)⟩ nY de aF hL;by_cases h:i<(l.length:Int)
  . exact Tu.run w S vs (l,i,m,()) L hS dJ ⟨⟨p0,h⟩,p2,p3⟩ nY de aF hL
  . exact b8n.run w S vs (l,i,m,()) L hS dJ ⟨by show i=(l.length:Int); omega,p2,p3⟩ nY de aF hL
theorem VA:Ty.wb r8=24:=rfl
def GN:p9:={ ps:=[.v (.d0 false r8)],rs:=[.d0 true r8],pre:=λ x=>List.length (α:=u7) x.1<=1048576,fn:=λ x=>x,out:=λ _=>() }
noncomputable def Gq:Env:={ P:=Tryz.prog,tt:=tt,C7:=[],res:=[Go.ResultVar.tmp 2],rs:=[Ty.d0 true r8],ps:=[PK.v L8],B9:=[],nt:=8 }
theorem PU:w7 Gq:=x8 r7 trivial
theorem PO:C0 Gq Tryz.f97:=⟨rfl,rfl⟩
theorem Xy (x0:List (Int×yY×Unit)):exec Gq 1000 [.code (d8 Tryz.prog 97)] (s8 GN.ps ((x0,()))) =
  .both (x0=[]) (.ret (([],()))) (.f7 ((0:Nat)+List.length x0<=140737488355328/\((0:Nat)+List.length x0)*Ty.wb r8<=140737488355328) (.ret (([]++x0,())))):=by kernel_rfl
theorem b8d:GN.Valid Tryz.prog 97:=by
  refine p9.n9 PU rfl rfl Tryz.func97 (c:=d8 Tryz.prog 97) rfl rfl PO rfl ?_;rintro ⟨(l:List (u7)),⟨⟩⟩ hp -
  have hp:l.length<=1048576:=hp;refine j7 (n:=1000) PU PO ?_;refine i8 (Xy l) ?_;simp only [j8,Tree.holds,VA,sL];refine ⟨λ h=>?_,by omega,λ _=>rfl⟩;show (([],()):List (u7)×Unit)=(l,());rw [show l=[] from h]
def Ih:p9:={ ps:=[.v ToT,.v r8],rs:=[ToO,.d0 true .str,e8],pre:=λ _=>True,fn:=λ x=>D8 x.1 x.2.1,out:=λ _=>() }
noncomputable def DQ:Env:={ P:=Tryz.prog,tt:=tt,C7:=[(96,FW),(75,AN),(59,Ae),(97,GN),(98,FP),(100,Mg)],res:=[Go.ResultVar.cell 4 83,Go.ResultVar.tmp 5,Go.ResultVar.tmp 6],rs:=[Ty.pair e8 (Ty.pair (Ty.d0 true r8) Ty.unit),Ty.d0 true Ty.str,Ty.int IntKind.i64],ps:=[PK.v ToT,PK.v r8],B9:=[(17,[(4,none),(8,none),(11,some (Ty.d0 true Ty.str))])],nt:=116 }
theorem Ka:w7 DQ:=x8 r7 ⟨c1e,KS,Fm,b8d,c1O,c1A,trivial⟩
theorem Kd:C0 DQ Tryz.f83:=⟨rfl,rfl⟩
theorem XW (aN:Int) (ab:List (Int×yY×Unit)) (br:Int) (aB:yY):exec DQ 1000 [.code (d8 Tryz.prog 83)] (s8 Ih.ps (((aN,ab,()),(br,aB,()),()))) =
  .f7 (True) (cond (decide (toE (aN,ab,())≠(0:Int))) (.ret ((((0:Int),[],()),[],toE (aN,ab,()),()))) (.f7 (True) (cond (!Y9 br (0:Int) (16777214:Int)) (.ret ((((0:Int),[],()),[],(1:Int),()))) (.f7 (True) (cond (E4 aB) (.ret ((((0:Int),[],()),[],(2:Int),()))) (.f7 (List.length ab<=1048576) (.f7 ((List.length ab<=1000/\sorted ab)/\(-100000000:Int)<=br/\br<=(100000000:Int)) (cond (decide (br<aN)) (.ret (((aN,ab,()),[],(0:Int),()))) (.f7 (r9 IntKind.i64 (aN+(16:Int))) (cond (decide (aN+(16:Int)<=br)) (.ret (((aN,ab,()),[],(0:Int),()))) (cond (Z4 br ab) (.ret (((aN,ab,()),[],(0:Int),()))) (cond (decide (aN<br)) (.f7 (((0:Int)<=(↑(atF br ab):Int)/\(↑(atF br ab):Int)<=(↑(List.length ab):Int))/\List.length ab<=1000/\List.length (List.set [((0:Int),[],())] (Int.toNat (↑0:Int)) (br,aB,()))=1) (.ret (((aN,yN ab (↑(atF br ab):Int) (List.set [((0:Int),[],())] (Int.toNat (↑0:Int)) (br,aB,())),()),[],(0:Int),())))) (.f7 (r9 IntKind.i64 (aN+(1:Int))) (.ctL (g9 (d8 Tryz.prog 83) 17) (St.mk [(4,AV.ptr 4 []),(8,AV.ptr 8 []),(11,AV.at_ 1000011 [])] [(4,i7.var ToO ((0:Int),[],())),(8,i7.var ToO (aN+(1:Int),ab,())),(1000011,i7.own (Ty.d0 true Ty.str) (List.set [[]] (Int.toNat (↑0:Int)) aB))]))))))))))))))):=by kernel_rfl
def SC (jb:Int) (ff:List (Int×yY×Unit)) (fG:Int) (bt:List (Int×yY×Unit)) (bo:List yY):St:=St.mk [(4,AV.ptr 4 []),(8,AV.ptr 8 []),(11,AV.at_ 1000011 [])] [(4,i7.var ToO (jb,ff,())),(8,i7.var ToO (fG,bt,())),(1000011,i7.own (Ty.d0 true Ty.str) bo)]
theorem c2s (jb:Int) (ff:List (Int×yY×Unit)) (fG:Int) (bt:List (Int×yY×Unit)) (bo:List yY):exec DQ 1000 (.code (g9 (d8 Tryz.prog 83) 17).1::.inLoop (g9 (d8 Tryz.prog 83) 17).1::(g9 (d8 Tryz.prog 83) 17).2) (SC jb ff fG bt bo) =
  cond (decide ((0:Int)<(↑(List.length bt):Int))) (.f7 ((0:Int)<=(0:Int)/\(0:Int)<(↑(List.length bt):Int)) (cond (decide (Prod.fst (List.getD bt (Int.toNat (0:Int)) ((0:Int),[],()))=fG)) (.f7 ((0:Int)<=(0:Int)/\(0:Int)<(↑(List.length bt):Int)) (.f7 (List.length bo+List.length (List.set [[]] (Int.toNat (↑0:Int)) (Prod.fst (Prod.snd (List.getD bt (Int.toNat (0:Int)) ((0:Int),[],())))))<=140737488355328/\(List.length bo+List.length (List.set [[]] (Int.toNat (↑0:Int)) (Prod.fst (Prod.snd (List.getD bt (Int.toNat (0:Int)) ((0:Int),[],()))))))*Ty.wb Ty.str<=140737488355328) (.f7 ((0:Int)<=(1:Int)/\(1:Int)<=(↑(List.length bt):Int)/\(↑(List.length bt):Int)<=(↑(List.length bt):Int)) (.f7 ([]++[Step.l8 1]=[]++[Step.l8 1]/\True) (.f7 (r9 IntKind.i64 (fG+(1:Int))) (.ctL (g9 (d8 Tryz.prog 83) 17) (St.mk [(4,AV.ptr 4 []),(8,AV.ptr 8 []),(11,AV.at_ 1000011 [])] [(4,i7.var ToO (jb,ff,())),(8,i7.var ToO (fG+(1:Int),o5 (1:Int) (↑(List.length bt):Int) bt,())),(1000011,i7.own (Ty.d0 true Ty.str) (bo++List.set [[]] (Int.toNat (↑0:Int)) (Prod.fst (Prod.snd (List.getD bt (Int.toNat (0:Int)) ((0:Int),[],()))))))]))))))) (.f7 (List.length bt<=1048576) (.ret (((fG,bt,()),bo,(0:Int),())))))) (.f7 (List.length bt<=1048576) (.ret (((fG,bt,()),bo,(0:Int),())))):=by kernel_rfl
theorem UX {n:Int} {l:List u7}:atF n l<=l.length:=by
  rw [atF]; exact (List.takeWhile_sublist _).length_le
theorem AQ.sorted {r:Int} {l:List u7} (h:AQ r l):sorted l:=⟨b7P h.up,λ i hi=>by
  have h1:=Jm h.up (Es (d:=p00) hi);have h2:=(h.b _ (Es (d:=p00) hi)).1;have:=h.rg;omega⟩
theorem b58:Ih.Valid Tryz.prog 83:=by
  refine p9.n9 Ka rfl rfl Tryz.func83 (c:=d8 Tryz.prog 83) rfl rfl Kd rfl ?_;rintro ⟨⟨(r:Int),(l:List u7),⟨⟩⟩,⟨(q:Int),(x:yY),⟨⟩⟩,⟨⟩⟩ - -
  refine j7 (n:=1000) Ka Kd ?_;refine i8 (XW r l q x) ?_;have key:∀ {y:ToD×List yY×Int×Unit},D8 (r,l,()) (q,x,())=y->y=D8 (r,l,()) (q,x,()):=λ h=>h.symm;have hd:D8 (r,l,()) (q,x,())=if toE (r,l,())≠0 then (t00,[],toE (r,l,()),()) else if Y9 q 0 16777214=false then (t00,[],1,()) else if E4 x=true then (t00,[],2,()) else
    if q<r\/r+16<=q\/Z4 q l=true then ((r,l,()),[],0,()) else if r<q then ((r,xf (q,x,()) l,()),[],0,()) else
    (((E2 l (r+1)).1,(E2 l (r+1)).2.1,()),x::(E2 l (r+1)).2.2,0,()):=rfl
  have hw:Ty.wb .str=16:=rfl;simp only [j8,Tree.holds,hw,sL];refine ⟨λ a=>key (by rw [hd,if_pos a]<;>rfl),λ a=>?_⟩;have aM:=Jb.1 (Decidable.not_not.1 a);have lH:=aM.rg;have hlen:=aM.len;rw [if_neg a] at hd;refine ⟨λ c=>key (by rw [hd,if_pos c]<;>rfl),λ c=>?_⟩;have hq:=wX.1 c;rw [if_neg (lnf c)] at hd;refine ⟨λ d=>key (by rw [hd,if_pos d]<;>rfl),λ d=>⟨by omega,λ _=>⟨⟨⟨by omega,aM.sorted⟩,by omega,by omega⟩,λ _=>?_⟩⟩⟩;rw [if_neg (by rw [d]; simp)] at hd;refine ⟨λ e=>key (by rw [hd,if_pos (.inl e)]<;>rfl),λ e=>⟨by omega,λ _=>⟨λ f=>key (by rw [hd,if_pos (.inr (.inl f))]<;>rfl),λ f=>⟨λ g=>key (by rw [hd,if_pos (.inr (.inr g))]<;>rfl),λ g=>?_⟩⟩⟩⟩;rw [if_neg (by rintro (h|h|h); exact e h; exact f h; rw [g] at h; cases h)] at hd;have jE:=UX (n:=q) (l:=l);refine ⟨λ k=>⟨⟨⟨by omega,by omega⟩,by omega,trivial⟩,λ _=>key (by rw [hd,if_pos k]; simp [yN,xf]; rfl)⟩,λ k=>⟨by omega,λ _=>?_⟩⟩;rw [if_neg k] at hd;refine Reach.M8 Ka Kd (λ s:Int×List u7×List yY=>SC 0 [] s.1 s.2.1 s.2.2) (λ s=>((E2 s.2.1 s.1).1=(E2 l (r+1)).1/\(E2 s.2.1 s.1).2.1=(E2 l (r+1)).2.1/\s.2.2++(E2 s.2.1 s.1).2.2=x::(E2 l (r+1)).2.2)/\s.2.1.length<=16/\s.2.2.length+s.2.1.length<=17/\0<=s.1/\s.1+s.2.1.length<=20000000)
    (λ s=>s.2.1.length) 1000 (λ _=>⟨u6 rfl,u6 rfl⟩) ?_ (r+1,l,[x]) ⟨⟨rfl,rfl,rfl⟩,hlen,by show 1+l.length<=17; omega,by show 0<=r+1; omega,by show r+1+(l.length:Int)<=20000000; omega⟩
  rintro ⟨n,m,ts⟩ ⟨⟨k1,k2,k3⟩,k4,k5,k6,k7⟩ - ih;have k1:(E2 m n).1=(E2 l (r+1)).1:=k1;have k2:(E2 m n).2.1=(E2 l (r+1)).2.1:=k2;have k3:ts++(E2 m n).2.2=x::(E2 l (r+1)).2.2:=k3;have k4:m.length<=16:=k4;have k5:ts.length+m.length<=17:=k5;have k6:0<=n:=k6;have k7:n+(m.length:Int)<=20000000:=k7;rw [<- k1,<- k2,<- k3] at hd;refine i8 (c2s ..) ?_;rw [show ((n,m,ts):Int×List u7×List yY).1=n from rfl,show ((n,m,ts):Int×List u7×List yY).2.1=m from rfl,show ((n,m,ts):Int×List u7×List yY).2.2=ts from rfl];cases m with
  | nil =>
    simp only [j8,Tree.holds,hw,sL];refine ⟨λ c2=>absurd c2 (by simp),λ _=>⟨by omega,λ _=>key ?_⟩⟩;rw [hd,E2,List.append_nil]; rfl
  | cons p m =>
    have g0:List.getD (p::m) (Int.toNat 0) (0,[],())=p:=rfl;have jC:o5 1 ((p::m).length:Int) (p::m)=m:=by
      rw [o5,List.take_of_length_le (by simp)]; rfl
    simp only [List.length_cons] at k4 k5 k7;have jl:E2 (p::m) n=if p.1=n then ((E2 m (n+1)).1,(E2 m (n+1)).2.1,p.2.1::(E2 m (n+1)).2.2) else (n,p::m,[]):=rfl
    simp only [j8,Tree.holds,hw,g0,jC,sL];refine ⟨λ c2=>⟨by omega,λ _=>⟨λ c3=>?_,λ c3=>⟨by omega,λ _=>key ?_⟩⟩⟩,λ c2=>absurd (by omega) c2⟩
    . rw [if_pos c3] at jl;rw [jl] at k1 k2 k3;have next:=ih (n+1,m,ts++[p.2.1]) ⟨⟨k1,k2,by rw [List.append_assoc]; exact k3⟩,by show m.length<=16; omega,by show (ts++[p.2.1]).length+m.length<=17; rw [List.length_append,List.length_singleton]; omega,by show 0<=n+1; omega,by show n+1+(m.length:Int)<=20000000; omega⟩ (by show m.length<(p::m).length; simp)
      have ni:o5 1 ((m.length+1:Nat):Int) (p::m)=m:=jC;rw [ni];exact ⟨by omega,λ _=>⟨⟨by omega,by omega⟩,λ _=>⟨by omega,λ _=>⟨by omega,λ _=>next⟩⟩⟩⟩
    . rw [if_neg c3] at jl;rw [hd,jl,List.append_nil]; rfl
attribute [local irreducible] Go.Ex.exec
abbrev FrD:=Int×List yY×Unit
abbrev o8:=Bool×List D5×FrD×ToD×ToD×Unit
abbrev f9:=vR×List o8×List yY×List yY×Unit
def j9:o8:=(false,[],(0,[],()),(0,[],()),(0,[],()),())
def zK:p9:={ ps:=[.v e8,.v e8,.v e8],rs:=[.bool],pre:=λ _=>True,fn:=λ x=>(I6 x.1 x.2.1 x.2.2.1,()),out:=λ _=>() }
noncomputable def FI:Env:={ P:=Tryz.prog,tt:=tt,C7:=[],res:=[Go.ResultVar.tmp 6],rs:=[Ty.bool],ps:=[PK.v e8,PK.v e8,PK.v e8],B9:=[],nt:=15 }
theorem NW:w7 FI:=x8 r7 trivial
theorem Oi:C0 FI Tryz.f40:=⟨rfl,rfl⟩
theorem UI (x0:Int) (x1:Int) (x2:Int):exec FI 1000 [.code (d8 Tryz.prog 40)] (s8 zK.ps ((x0,x1,x2,()))) =
  cond (decide (x1<=x0)) (.ret ((decide (x0<=x2),()))) (.ret ((false,()))):=by kernel_rfl
theorem Fb:zK.Valid Tryz.prog 40:=by
  refine p9.n9 NW rfl rfl Tryz.func40 (c:=d8 Tryz.prog 40) rfl rfl Oi rfl ?_;rintro ⟨(n:Int),(a:Int),(b:Int),⟨⟩⟩ - -
  refine j7 (n:=1000) NW Oi ?_;refine i8 (UI n a b) ?_;simp only [j8,Tree.holds,sL];refine ⟨λ c=>?_,λ c=>?_⟩
  . show ((decide _,()):Bool×Unit)=(I6 n a b,()); rw [I6,decide_eq_true c,Bool.true_and]
  . show ((false,()):Bool×Unit)=(I6 n a b,()); rw [I6,decide_eq_false c,Bool.false_and]
def tz (m:Int):Int:=(((List.range 8).find? (λ i=>decide (m / 2^i % 2=1))).getD 8:Nat)
def ctz:p9:={ ps:=[.v U8],rs:=[e8],pre:=λ _=>True,fn:=λ x=>(tz x.1,()),out:=λ _=>() }
noncomputable def Etz:Env:={ P:=Tryz.prog,tt:=tt,C7:=[],res:=[Go.ResultVar.tmp 2],rs:=[Ty.int IntKind.i64],ps:=[PK.v U8],B9:=[],nt:=6 }
theorem MT:w7 Etz:=x8 r7 trivial
theorem MI:C0 Etz Tryz.f78:=⟨rfl,rfl⟩
theorem UZ (x0:Int):exec Etz 1000 [.code (d8 Tryz.prog 78)] (s8 ctz.ps ((x0,()))) =
  .f7 ((0:Int)<=x0/\x0<(↑(List.length (Array.toList (ByteArray.data (ByteArray.mk (List.toArray (List.append (List.append ([8,0,1,0,2,0,1,0,3,0,1,0,2,0,1,0,4,0,1,0,2,0,1,0,3,0,1,0,2,0,1,0,5,0,1,0,2,0,1,0,3,0,1,0,2,0,1,0,4,0,1,0,2,0,1,0,3,0,1,0,2,0,1,0]:yY) ([6,0,1,0,2,0,1,0,3,0,1,0,2,0,1,0,4,0,1,0,2,0,1,0,3,0,1,0,2,0,1,0,5,0,1,0,2,0,1,0,3,0,1,0,2,0,1,0,4,0,1,0,2,0,1,0,3,0,1,0,2,0,1,0]:yY)) (List.append ([7,0,1,0,2,0,1,0,3,0,1,0,2,0,1,0,4,0,1,0,2,0,1,0,3,0,1,0,2,0,1,0,5,0,1,0,2,0,1,0,3,0,1,0,2,0,1,0,4,0,1,0,2,0,1,0,3,0,1,0,2,0,1,0]:yY) ([6,0,1,0,2,0,1,0,3,0,1,0,2,0,1,0,4,0,1,0,2,0,1,0,3,0,1,0,2,0,1,0,5,0,1,0,2,0,1,0,3,0,1,0,2,0,1,0,4,0,1,0,2,0,1,0,3,0,1,0,2,0,1,0]:yY)))))))):Int)) (.ret ((IntKind.wrap IntKind.i64 (↑(UInt8.toNat (List.getD (Array.toList (ByteArray.data (ByteArray.mk (List.toArray (List.append (List.append ([8,0,1,0,2,0,1,0,3,0,1,0,2,0,1,0,4,0,1,0,2,0,1,0,3,0,1,0,2,0,1,0,5,0,1,0,2,0,1,0,3,0,1,0,2,0,1,0,4,0,1,0,2,0,1,0,3,0,1,0,2,0,1,0]:yY) ([6,0,1,0,2,0,1,0,3,0,1,0,2,0,1,0,4,0,1,0,2,0,1,0,3,0,1,0,2,0,1,0,5,0,1,0,2,0,1,0,3,0,1,0,2,0,1,0,4,0,1,0,2,0,1,0,3,0,1,0,2,0,1,0]:yY)) (List.append ([7,0,1,0,2,0,1,0,3,0,1,0,2,0,1,0,4,0,1,0,2,0,1,0,3,0,1,0,2,0,1,0,5,0,1,0,2,0,1,0,3,0,1,0,2,0,1,0,4,0,1,0,2,0,1,0,3,0,1,0,2,0,1,0]:yY) ([6,0,1,0,2,0,1,0,3,0,1,0,2,0,1,0,4,0,1,0,2,0,1,0,3,0,1,0,2,0,1,0,5,0,1,0,2,0,1,0,3,0,1,0,2,0,1,0,4,0,1,0,2,0,1,0,3,0,1,0,2,0,1,0]:yY))))))) (Int.toNat x0) (0:UInt8))):Int),()))):=by kernel_rfl
theorem c37:ctz.Valid Tryz.prog 78:=by
  refine p9.n9 MT rfl rfl Tryz.func78 (c:=d8 Tryz.prog 78) rfl rfl MI rfl ?_;rintro ⟨(x0:Int),⟨⟩⟩ - ⟨h0,-⟩;refine j7 (n:=1000) MT MI ?_;refine i8 (UZ x0) ?_;have g0:0<=x0/\x0<=255:=h0;obtain ⟨n,rfl⟩:∃ n:Fin 256,x0=((n.val:Nat):Int):=⟨⟨x0.toNat,by omega⟩,by simp; omega⟩;refine ⟨?_,λ _=>?_⟩
  . clear h0 g0; revert n; decide +kernel
  . show ((_,()):Int×Unit)=(tz n,());clear h0 g0; revert n; decide +kernel
def Ai (v:vR):Int×Int×Unit:=if S5 v≠0 then (0,S5 v,()) else (tz v.2.1,0,())
def DN:p9:={ ps:=[.v View],rs:=[e8,e8],pre:=λ _=>True,fn:=λ x=>Ai x.1,out:=λ _=>() }
noncomputable def Hv:Env:={ P:=Tryz.prog,tt:=tt,C7:=[(70,BO),(78,ctz)],res:=[Go.ResultVar.tmp 2,Go.ResultVar.tmp 3],rs:=[Ty.int IntKind.i64,Ty.int IntKind.i64],ps:=[PK.v View],B9:=[],nt:=13 }
theorem QK:w7 Hv:=x8 r7 ⟨Uk,c37,trivial⟩
theorem RW:C0 Hv Tryz.f61:=⟨rfl,rfl⟩
theorem XI (aN:Int) (ab:Int):exec Hv 1000 [.code (d8 Tryz.prog 61)] (s8 DN.ps (((aN,ab,()),()))) =
  .f7 (True) (cond (decide (S5 (aN,ab,())≠(0:Int))) (.ret (((0:Int),S5 (aN,ab,()),()))) (.f7 (True) (.ret ((tz ab,(0:Int),()))))):=by kernel_rfl
theorem b6f:DN.Valid Tryz.prog 61:=by
  refine p9.n9 QK rfl rfl Tryz.func61 (c:=d8 Tryz.prog 61) rfl rfl RW rfl ?_;rintro ⟨⟨(x0:Int),(x1:Int),⟨⟩⟩,⟨⟩⟩ - -
  refine j7 (n:=1000) QK RW ?_;refine i8 (XI x0 x1) ?_;simp only [j8,Tree.holds,sL];have key:∀ r:Int×Int×Unit,Ai (x0,x1,())=r->((r:DL [Ty.int .i64,Ty.int .i64])=DN.fn ((x0,x1,()),())):=by rintro r rfl; rfl
  refine ⟨λ a=>key _ ?_,λ a=>key _ ?_⟩
  . rw [Ai,if_pos a]; rfl
  . rw [Ai,if_neg a]; rfl
def s7 (w:f9) (p:Int):Bool:=I6 p 0 ((w.2.1.length:Int) - 1) && decide (T7 .u8 (w.1.2.1 / (2:Int)^min p.toNat IntKind.u8.bits) 1=1) && !(w.2.1.getD p.toNat j9).1
def yK:p9:={ ps:=[.rd K7,.v e8],rs:=[.bool],pre:=λ x=>List.length (α:=o8) (x.1:f9).2.1<=6,fn:=λ x=>(s7 x.1 x.2.1,()),out:=λ _=>() }
noncomputable def Gz:Env:={ P:=Tryz.prog,tt:=tt,C7:=[(40,zK)],res:=[Go.ResultVar.tmp 4],rs:=[Ty.bool],ps:=[PK.rd K7,PK.v e8],B9:=[],nt:=35 }
theorem Pc:w7 Gz:=x8 r7 ⟨Fb,trivial⟩
theorem PB:C0 Gz Tryz.f47:=⟨rfl,rfl⟩
theorem VN (ai:Int) (af:Int) (ab:List o8) (ae:List yY) (aa:List yY) (x1:Int):exec Gz 1000 [.code (d8 Tryz.prog 47)] (s8 yK.ps ((((ai,af,()),ab,ae,aa,()),x1,()))) =
  .f7 (r9 IntKind.i64 ((↑(List.length ab):Int) - (1:Int))) (.f7 (True) (cond (I6 x1 (0:Int) ((↑(List.length ab):Int) - (1:Int))) (.f7 ((0:Int)<=x1) (cond (decide (T7 IntKind.u8 (af / (2:Int)^min (Int.toNat x1) (IntKind.bits IntKind.u8)) (1:Int)=(1:Int))) (.f7 ((0:Int)<=x1/\x1<(↑(List.length ab):Int)) (.ret ((!Prod.fst (List.getD ab (Int.toNat x1) (false,[],((0:Int),[],()),((0:Int),[],()),((0:Int),[],()),())),())))) (.ret ((false,()))))) (.ret ((false,()))))):=by kernel_rfl
theorem Cy:yK.Valid Tryz.prog 47:=by
  refine p9.n9 Pc rfl rfl Tryz.func47 (c:=d8 Tryz.prog 47) rfl rfl PB rfl ?_;rintro ⟨⟨⟨(v0:Int),(v1:Int),⟨⟩⟩,(al:List o8),(od:List yY),(wy:List yY),⟨⟩⟩,(p:Int),⟨⟩⟩ (hp:al.length<=6) -
  refine j7 (n:=1000) Pc PB ?_;refine i8 (VN v0 v1 al od wy p) ?_;simp only [j8,Tree.holds,sL];have key:∀ r:Bool,s7 ((v0,v1,()),al,od,wy,()) p=r->(((r,()):Bool×Unit)=(s7 ((v0,v1,()),al,od,wy,()) p,())):=by rintro r rfl; rfl
  refine ⟨⟨by omega,by omega⟩,λ _=>⟨λ a=>⟨(V4.1 a).1,λ _=>⟨λ b=>⟨⟨(V4.1 a).1,by have:=(V4.1 a).2; show p<(al.length:Int); omega⟩,λ _=>key _ ?_⟩,λ b=>key _ ?_⟩⟩,λ a=>key _ ?_⟩⟩
  . show (I6 p 0 ((al.length:Int) - 1) && _ && _)=_;rw [a,Bool.true_and];exact congrArg (· && _) (decide_eq_true b)
  . show (I6 p 0 ((al.length:Int) - 1) && decide _ && _)=_;rw [a,Bool.true_and,decide_eq_false b]; rfl
  . show (I6 p 0 ((al.length:Int) - 1) && _ && _)=_;rw [a]; rfl
def known (w:f9) (p:Int):Int:=if I6 p 0 ((w.2.1.length:Int) - 1)=true then 0 else 1
def yZ:p9:={ ps:=[.rd K7,.v e8],rs:=[e8],pre:=λ x=>List.length (α:=o8) (x.1:f9).2.1<=6,fn:=λ x=>(known x.1 x.2.1,()),out:=λ _=>() }
noncomputable def IH:Env:={ P:=Tryz.prog,tt:=tt,C7:=[(40,zK)],res:=[Go.ResultVar.tmp 4],rs:=[Ty.int IntKind.i64],ps:=[PK.rd K7,PK.v e8],B9:=[],nt:=14 }
theorem Sy:w7 IH:=x8 r7 ⟨Fb,trivial⟩
theorem SG:C0 IH Tryz.f49:=⟨rfl,rfl⟩
theorem Zu (ai:Int) (af:Int) (ab:List o8) (ae:List yY) (aa:List yY) (x1:Int):exec IH 1000 [.code (d8 Tryz.prog 49)] (s8 yZ.ps ((((ai,af,()),ab,ae,aa,()),x1,()))) =
  .f7 (r9 IntKind.i64 ((↑(List.length ab):Int) - (1:Int))) (.f7 (True) (cond (!I6 x1 (0:Int) ((↑(List.length ab):Int) - (1:Int))) (.ret (((1:Int),()))) (.ret (((0:Int),()))))):=by kernel_rfl
theorem CF:yZ.Valid Tryz.prog 49:=by
  refine p9.n9 Sy rfl rfl Tryz.func49 (c:=d8 Tryz.prog 49) rfl rfl SG rfl ?_;rintro ⟨⟨⟨(v0:Int),(v1:Int),⟨⟩⟩,(al:List o8),(od:List yY),(wy:List yY),⟨⟩⟩,(p:Int),⟨⟩⟩ (hp:al.length<=6) -
  refine j7 (n:=1000) Sy SG ?_;refine i8 (Zu v0 v1 al od wy p) ?_;simp only [j8,Tree.holds,sL];have key:∀ r:Int,known ((v0,v1,()),al,od,wy,()) p=r->(((r,()):Int×Unit)=(known ((v0,v1,()),al,od,wy,()) p,())):=by rintro r rfl; rfl
  refine ⟨⟨by omega,by omega⟩,λ _=>⟨λ a=>key _ ?_,λ a=>key _ ?_⟩⟩
  . exact if_neg (by simpa using a)
  . exact if_pos (by simpa using a)
def M0 (w:f9) (p:Int):Int:=if known w p≠0 then known w p else if s7 w p=true then 0 else 11
def Dv:p9:={ ps:=[.rd K7,.v e8],rs:=[e8],pre:=λ x=>List.length (α:=o8) (x.1:f9).2.1<=6,fn:=λ x=>(M0 x.1 x.2.1,()),out:=λ _=>() }
noncomputable def HC:Env:={ P:=Tryz.prog,tt:=tt,C7:=[(49,yZ),(47,yK)],res:=[Go.ResultVar.tmp 4],rs:=[Ty.int IntKind.i64],ps:=[PK.rd K7,PK.v e8],B9:=[],nt:=16 }
theorem QR:w7 HC:=x8 r7 ⟨CF,Cy,trivial⟩
theorem Rw:C0 HC Tryz.f41:=⟨rfl,rfl⟩
theorem XS (ai:Int) (af:Int) (ab:List o8) (ae:List yY) (aa:List yY) (x1:Int):exec HC 1000 [.code (d8 Tryz.prog 41)] (s8 Dv.ps ((((ai,af,()),ab,ae,aa,()),x1,()))) =
  .f7 (List.length ab<=6) (cond (decide (known ((ai,af,()),ab,ae,aa,()) x1≠(0:Int))) (.ret ((known ((ai,af,()),ab,ae,aa,()) x1,()))) (.f7 (List.length ab<=6) (cond (!s7 ((ai,af,()),ab,ae,aa,()) x1) (.ret (((11:Int),()))) (.ret (((0:Int),())))))):=by kernel_rfl
theorem a87:Dv.Valid Tryz.prog 41:=by
  refine p9.n9 QR rfl rfl Tryz.func41 (c:=d8 Tryz.prog 41) rfl rfl Rw rfl ?_;rintro ⟨⟨⟨(v0:Int),(v1:Int),⟨⟩⟩,(al:List o8),(od:List yY),(wy:List yY),⟨⟩⟩,(p:Int),⟨⟩⟩ (hp:al.length<=6) -
  refine j7 (n:=1000) QR Rw ?_;refine i8 (XS v0 v1 al od wy p) ?_;simp only [j8,Tree.holds,sL];have key:∀ r:Int,M0 ((v0,v1,()),al,od,wy,()) p=r->(((r,()):Int×Unit)=(M0 ((v0,v1,()),al,od,wy,()) p,())):=by rintro r rfl; rfl
  refine ⟨hp,λ _=>⟨λ a=>key _ ?_,λ a=>⟨hp,λ _=>⟨λ b=>key _ ?_,λ b=>key _ ?_⟩⟩⟩⟩
  . exact if_pos a
  . rw [M0,if_neg (by simpa using a),if_neg (by simpa using b)]
  . rw [M0,if_neg (by simpa using a),if_pos (by simpa using b)]
def M1 (w:f9):Int:=(Ai w.1).1
def zA:p9:={ ps:=[.rd K7],rs:=[e8],pre:=λ _=>True,fn:=λ x=>(M1 x.1,()),out:=λ _=>() }
noncomputable def GD:Env:={ P:=Tryz.prog,tt:=tt,C7:=[(61,DN)],res:=[Go.ResultVar.tmp 2],rs:=[Ty.int IntKind.i64],ps:=[PK.rd K7],B9:=[],nt:=14 }
theorem Pg:w7 GD:=x8 r7 ⟨b6f,trivial⟩
theorem PF:C0 GD Tryz.f44:=⟨rfl,rfl⟩
theorem VS (ai:Int) (af:Int) (ab:List o8) (ae:List yY) (aa:List yY):exec GD 1000 [.code (d8 Tryz.prog 44)] (s8 zA.ps ((((ai,af,()),ab,ae,aa,()),()))) =
  .f7 (True) (.ret ((Prod.fst (Ai (ai,af,())),()))):=by kernel_rfl
theorem Fc:zA.Valid Tryz.prog 44:=by
  refine p9.n9 Pg rfl rfl Tryz.func44 (c:=d8 Tryz.prog 44) rfl rfl PF rfl ?_;rintro ⟨⟨⟨(v0:Int),(v1:Int),⟨⟩⟩,(al:List o8),(od:List yY),(wy:List yY),⟨⟩⟩,⟨⟩⟩ - -
  refine j7 (n:=1000) Pg PF ?_;refine i8 (VS v0 v1 al od wy) ?_;exact ⟨trivial,λ _=>rfl⟩
def M3 (w:f9) (k f t s:Int) (x:yY):f9 :=
  let r:=U5 (k,f,t,w.1.1,s,[0,0,0,0,0,0],x,())
  if r.2.1=0/\(w.2.2.2.1.length:Int)<60 then (w.1,w.2.1,w.2.2.1,w.2.2.2.1++[r.1],()) else w
theorem Kn {w:f9} {k f t s:Int} {x:yY} (h:(U5 (k,f,t,w.1.1,s,[0,0,0,0,0,0],x,())).2.1=0) (h2:(w.2.2.2.1.length:Int)<60) :
    M3 w k f t s x=(w.1,w.2.1,w.2.2.1,w.2.2.2.1++[(U5 (k,f,t,w.1.1,s,[0,0,0,0,0,0],x,())).1],()):=by
  unfold M3; exact if_pos ⟨h,h2⟩
theorem EP {w:f9} {k f t s:Int} {x:yY} (h:¬ ((U5 (k,f,t,w.1.1,s,[0,0,0,0,0,0],x,())).2.1=0/\(w.2.2.2.1.length:Int)<60)) :
    M3 w k f t s x=w:=by
  unfold M3; exact if_neg h
def zZ:p9:={ ps:=[.rw w5,.v e8,.v e8,.v e8,.v e8,.v .str],rs:=[],pre:=λ _=>True,fn:=λ _=>(),out:=λ x=>(M3 x.1 x.2.1 x.2.2.1 x.2.2.2.1 x.2.2.2.2.1 x.2.2.2.2.2.1,()) }
noncomputable def HB:Env:={ P:=Tryz.prog,tt:=tt,C7:=[(60,GM)],res:=[],rs:=[],ps:=[PK.rw w5,PK.v e8,PK.v e8,PK.v e8,PK.v e8,PK.v Ty.str],B9:=[],nt:=49 }
theorem QQ:w7 HB:=x8 r7 ⟨b8e,trivial⟩
theorem Sc:C0 HB Tryz.f43:=⟨rfl,rfl⟩
theorem XP (ai:Int) (af:Int) (ab:List o8) (ae:List yY) (aa:List yY) (x1:Int) (x2:Int) (x3:Int) (x4:Int) (x5:yY):exec HB 1000 [.code (d8 Tryz.prog 43)] (s8 zZ.ps ((((ai,af,()),ab,ae,aa,()),x1,x2,x3,x4,x5,()))) =
  .f7 (True) (cond (decide (Prod.fst (Prod.snd (U5 (x1,x2,x3,ai,x4,[(0:Int),(0:Int),(0:Int),(0:Int),(0:Int),(0:Int)],x5,())))=(0:Int))) (cond (decide ((↑(List.length aa):Int)<(60:Int))) (.f7 (True/\True/\[]++[Step.l8 3]=[]++[Step.l8 3]/\List.length aa+List.length (List.set [[]] (Int.toNat (↑0:Int)) (Prod.fst (U5 (x1,x2,x3,ai,x4,[(0:Int),(0:Int),(0:Int),(0:Int),(0:Int),(0:Int)],x5,()))))<=140737488355328/\(List.length aa+List.length (List.set [[]] (Int.toNat (↑0:Int)) (Prod.fst (U5 (x1,x2,x3,ai,x4,[(0:Int),(0:Int),(0:Int),(0:Int),(0:Int),(0:Int)],x5,())))))*Ty.wb Ty.str<=140737488355328) (.ret ((((ai,af,()),ab,ae,aa++List.set [[]] (Int.toNat (↑0:Int)) (Prod.fst (U5 (x1,x2,x3,ai,x4,[(0:Int),(0:Int),(0:Int),(0:Int),(0:Int),(0:Int)],x5,()))),()),())))) (.ret ((((ai,af,()),ab,ae,aa,()),())))) (.ret ((((ai,af,()),ab,ae,aa,()),())))):=by kernel_rfl
attribute [local irreducible] U5 M3 in
theorem Fu:zZ.Valid Tryz.prog 43:=by
  refine p9.n9 QQ rfl rfl Tryz.func43 (c:=d8 Tryz.prog 43) rfl rfl Sc rfl ?_;rintro ⟨⟨⟨(v0:Int),(v1:Int),⟨⟩⟩,(al:List o8),(od:List yY),(wy:List yY),⟨⟩⟩,(k:Int),(f:Int),(t:Int),(s:Int),(x:yY),⟨⟩⟩ - -
  refine j7 (n:=1000) QQ Sc ?_;refine i8 (XP v0 v1 al od wy k f t s x) ?_;simp only [j8,Tree.holds,sL];have key:∀ r:f9,M3 ((v0,v1,()),al,od,wy,()) k f t s x=r->(((r,()):f9×Unit)=(M3 ((v0,v1,()),al,od,wy,()) k f t s x,())):=by rintro r rfl; rfl
  refine ⟨λ a=>⟨λ b=>⟨?_,λ _=>key _ ?_⟩,λ b=>key _ ?_⟩,λ a=>key _ ?_⟩
  . have b':wy.length<60:=by exact_mod_cast b
    refine ⟨?_,?_⟩
    . show wy.length+1<=140737488355328; omega
    . show (wy.length+1)*16<=140737488355328; omega
  . exact Kn a b
  . exact EP (λ h=>b h.2)
  . exact EP (λ h=>a h.1)
def vS (w:f9) (p:Int):f9×Int :=
  if known w p≠0 then (w,known w p) else ((w.1,w.2.1.set p.toNat (true,(w.2.1.getD p.toNat j9).2),w.2.2),0)
def Hb:p9:={ ps:=[.rw w5,.v e8],rs:=[e8],pre:=λ x=>List.length (α:=o8) (x.1:f9).2.1<=6,fn:=λ x=>((vS x.1 x.2.1).2,()),out:=λ x=>((vS x.1 x.2.1).1,()) }
noncomputable def Hy:Env:={ P:=Tryz.prog,tt:=tt,C7:=[(49,yZ)],res:=[Go.ResultVar.tmp 4],rs:=[Ty.int IntKind.i64],ps:=[PK.rw w5,PK.v e8],B9:=[],nt:=19 }
theorem QN:w7 Hy:=x8 r7 ⟨CF,trivial⟩
theorem RZ:C0 Hy Tryz.f37:=⟨rfl,rfl⟩
theorem XM (ai:Int) (af:Int) (ab:List o8) (ae:List yY) (aa:List yY) (x1:Int):exec Hy 1000 [.code (d8 Tryz.prog 37)] (s8 Hb.ps ((((ai,af,()),ab,ae,aa,()),x1,()))) =
  .f7 (List.length ab<=6) (cond (decide (known ((ai,af,()),ab,ae,aa,()) x1≠(0:Int))) (.ret ((known ((ai,af,()),ab,ae,aa,()) x1,((ai,af,()),ab,ae,aa,()),()))) (.f7 ((0:Int)<=x1/\x1<(↑(List.length ab):Int)) (.ret (((0:Int),((ai,af,()),List.set ab (Int.toNat x1) (true,Prod.snd (List.getD ab (Int.toNat x1) (false,[],((0:Int),[],()),((0:Int),[],()),((0:Int),[],()),()))),ae,aa,()),()))))):=by kernel_rfl
theorem b8s:Hb.Valid Tryz.prog 37:=by
  refine p9.n9 QN rfl rfl Tryz.func37 (c:=d8 Tryz.prog 37) rfl rfl RZ rfl ?_;rintro ⟨⟨⟨(v0:Int),(v1:Int),⟨⟩⟩,(al:List o8),(od:List yY),(wy:List yY),⟨⟩⟩,(p:Int),⟨⟩⟩ (hp:al.length<=6) -
  refine j7 (n:=1000) QN RZ ?_;refine i8 (XM v0 v1 al od wy p) ?_;simp only [j8,Tree.holds,sL];have key:∀ r:f9×Int,vS ((v0,v1,()),al,od,wy,()) p=r->(((r.2,r.1,()):Int×f9×Unit)=((vS ((v0,v1,()),al,od,wy,()) p).2,(vS ((v0,v1,()),al,od,wy,()) p).1,())):=by rintro r rfl; rfl
  have cY:¬ known ((v0,v1,()),al,od,wy,()) p≠0->0<=p/\p<(al.length:Int):=by
    intro a;unfold known at a;split at a
    . rename_i hb;have:=V4.1 hb;simp only at this; omega
    . exact absurd (by decide) a
  refine ⟨hp,λ _=>⟨λ a=>key (_,_) ?_,λ a=>⟨cY a,λ _=>key (_,_) ?_⟩⟩⟩
  . rw [vS,if_pos a]; rfl
  . rw [vS,if_neg a]; rfl
def ttW:List (TypeId×TI):=(78,TI.mk Q4 32)::(83,TI.mk ToT 32)::tt
theorem Nb:ttW.all (xE Tryz.prog)=true:=by kernel_rfl
def Mh:p9:={ ps:=[.v Q4,.v .str],rs:=[Q4,e8],new:=true,pre:=GI.pre,fn:=λ x=>Q7 x.1 x.2.1,out:=λ _=>() }
theorem c1p:Mh.Valid Tryz.prog 42:=b8j.share (rs':=[Q4,e8]) rfl rfl rfl
def MR:p9:={ ps:=[.v Q4,.v e8],rs:=[Q4,e8],new:=true,pre:=IU.pre,fn:=λ x=>R4 x.1 x.2.1,out:=λ _=>() }
theorem b6e:MR.Valid Tryz.prog 86:=b4G.share (rs':=[Q4,e8]) rfl rfl rfl
def GR:p9:={ ps:=[.v ToT,.v r8],rs:=[ToT,.d0 true .str,e8],new:=true,pre:=Ih.pre,fn:=λ x=>D8 x.1 x.2.1,out:=λ _=>() }
theorem TJ:GR.Valid Tryz.prog 83:=b58.share (rs':=[ToT,.d0 true .str,e8]) rfl rfl rfl
end Go.Proofs.YtijlnmgondibnaaGreatDoor
