import Derived.Test.YtijlnmgondibnaaGreatDoorProg
import Derived.Test.YtijlnmgondibnaaGreatDoorExW
import Derived.Test.YtijlnmgondibnaaGreatDoorRows
import Derived.Lib.LaidU8
import Derived.LaidMore
import Derived.LaidSub
import Derived.Shelf.Vars
import Derived.JoinedCond
import Derived.WalkKit
import Derived.Lib.Walk
import Derived.Shelf.RegionOpenPlain
import Derived.Lib.SliceRun
import Derived.Lib.Overlaps
import Derived.Lib.AppendZerosOnto
import Derived.Laws.Externs
import Derived.Laws.IdiomCopy
import Derived.Laws.NewBlocks
set_option linter.unusedVariables false
set_option linter.unusedSimpArgs false
set_option linter.unusedSectionVars false
namespace Go.Proofs.YtijlnmgondibnaaGreatDoor
open Go.Ex
set_option maxRecDepth 100000
abbrev f7:Ty:=.int .i64
abbrev U8:Ty:=.int .u8
abbrev Is:Ty:=.d8 true f7
abbrev Z0:Ty:=.arr 6 f7
abbrev c88:Ty:=.arr 10 f7
abbrev View:Ty:=.pair f7 (.pair U8 .unit)
abbrev w4:Ty:=.pair f7 (.pair .str .unit)
abbrev ToT:Ty:=.pair f7 (.pair (.d8 false w4) .unit)
abbrev ToO:Ty:=.pair f7 (.pair (.d8 true w4) .unit)
abbrev R4:Ty:=.pair f7 (.pair (.d8 false .str) .unit)
abbrev Mc:Ty:=.pair f7 (.pair (.d8 true .str) .unit)
abbrev zH:Ty:=.pair f7 (.pair f7 (.pair f7 (.pair f7 (.pair f7 (.pair Z0 (.pair .str .unit))))))
abbrev xg:Ty:=.pair .bool (.pair (.d8 true w4) (.pair R4 (.pair ToT (.pair ToT .unit))))
abbrev r8:Ty:=.pair View (.pair (.d8 true xg) (.pair (.d8 true .str) (.pair (.d8 true .str) .unit)))
abbrev Uy:Ty:=.pair .bool (.pair (.d8 false w4) (.pair R4 (.pair ToT (.pair ToT .unit))))
abbrev N9:Ty:=.pair View (.pair (.d8 false Uy) (.pair (.d8 false .str) (.pair (.d8 false .str) .unit)))
abbrev yb:Ty:=.pair f7 (.pair f7 (.pair f7 (.pair .str .unit)))
abbrev M6:Ty:=.d8 false w4
abbrev Z3:Ty:=.pair .bool (.pair (.C6 w4) (.pair R4 (.pair ToT (.pair ToT .unit))))
abbrev vM:Ty:=.pair View (.pair (.d8 true Z3) (.pair (.d8 true .str) (.pair (.d8 true .str) .unit)))
def tt:List (TypeId×TI):=[(2,TI.mk (Ty.int IntKind.i64) 8),(3,TI.mk (Ty.int IntKind.i64) 8),(4,TI.mk Ty.bool 1),(5,TI.mk (Ty.int IntKind.u8) 1),(6,TI.mk (Ty.int IntKind.u8) 1),(7,TI.mk (Ty.pair (Ty.int IntKind.i64) (Ty.pair (Ty.int IntKind.i64) (Ty.pair Ty.bool (Ty.pair (Ty.int IntKind.u8) Ty.unit)))) 24),(8,TI.mk (Ty.pair (Ty.int IntKind.i64) (Ty.pair (Ty.int IntKind.i64) (Ty.pair Ty.bool (Ty.pair (Ty.int IntKind.u8) Ty.unit)))) 24),(9,TI.mk Ty.str 16),(10,TI.mk Ty.str 16),(11,TI.mk Ty.str 16),(12,TI.mk (Ty.int IntKind.u64) 8),(13,TI.mk (Ty.pair Ty.str (Ty.pair (Ty.int IntKind.u64) Ty.unit)) 24),(14,TI.mk (Ty.pair Ty.str (Ty.pair (Ty.int IntKind.u64) Ty.unit)) 24),(21,TI.mk (Ty.int IntKind.i32) 4),(22,TI.mk (Ty.d8 true Ty.str) 24),(26,TI.mk (Ty.int IntKind.i64) 8),(33,TI.mk (Ty.d8 true (Ty.pair (Ty.int IntKind.i64) (Ty.pair Ty.str Ty.unit))) 24),(39,TI.mk (Ty.pair (Ty.int IntKind.i64) (Ty.pair Ty.str Ty.unit)) 24),(40,TI.mk (Ty.pair (Ty.int IntKind.i64) (Ty.pair Ty.str Ty.unit)) 24),(43,TI.mk (Ty.d8 true (Ty.pair (Ty.int IntKind.i64) (Ty.pair (Ty.int IntKind.i64) (Ty.pair (Ty.int IntKind.i64) (Ty.pair Ty.str Ty.unit))))) 24),(44,TI.mk (Ty.d8 true (Ty.d8 true Ty.str)) 24),(45,TI.mk (Ty.d8 true (Ty.int IntKind.i64)) 24),(53,TI.mk (Ty.arr 6 (Ty.d8 true Ty.str)) 144),(55,TI.mk (Ty.map true (Ty.int IntKind.i64) (Ty.int IntKind.i64)) 8),(56,TI.mk (Ty.pair (Ty.int IntKind.i64) (Ty.pair (Ty.int IntKind.u8) Ty.unit)) 16),(57,TI.mk (Ty.pair (Ty.int IntKind.i64) (Ty.pair (Ty.int IntKind.u8) Ty.unit)) 16),(59,TI.mk (Ty.arr 10 (Ty.int IntKind.i64)) 80),(60,TI.mk (Ty.arr 10 (Ty.int IntKind.i64)) 80),(68,TI.mk (Ty.d8 true (Ty.d8 true (Ty.pair (Ty.int IntKind.i64) (Ty.pair Ty.str Ty.unit)))) 24),(69,TI.mk (Ty.pair (Ty.int IntKind.i64) (Ty.pair (Ty.int IntKind.i64) (Ty.pair (Ty.int IntKind.i64) (Ty.pair Ty.str Ty.unit)))) 40),(70,TI.mk (Ty.pair (Ty.int IntKind.i64) (Ty.pair (Ty.int IntKind.i64) (Ty.pair (Ty.int IntKind.i64) (Ty.pair Ty.str Ty.unit)))) 40),(74,TI.mk (Ty.d8 true (Ty.pair Ty.bool (Ty.pair (Ty.d8 true (Ty.pair (Ty.int IntKind.i64) (Ty.pair Ty.str Ty.unit))) (Ty.pair (Ty.pair (Ty.int IntKind.i64) (Ty.pair (Ty.d8 true Ty.str) Ty.unit)) (Ty.pair (Ty.pair (Ty.int IntKind.i64) (Ty.pair (Ty.d8 true (Ty.pair (Ty.int IntKind.i64) (Ty.pair Ty.str Ty.unit))) Ty.unit)) (Ty.pair (Ty.pair (Ty.int IntKind.i64) (Ty.pair (Ty.d8 true (Ty.pair (Ty.int IntKind.i64) (Ty.pair Ty.str Ty.unit))) Ty.unit)) Ty.unit)))))) 24),(75,TI.mk (Ty.pair (Ty.pair (Ty.int IntKind.i64) (Ty.pair (Ty.int IntKind.u8) Ty.unit)) (Ty.pair (Ty.d8 true (Ty.pair Ty.bool (Ty.pair (Ty.d8 true (Ty.pair (Ty.int IntKind.i64) (Ty.pair Ty.str Ty.unit))) (Ty.pair (Ty.pair (Ty.int IntKind.i64) (Ty.pair (Ty.d8 true Ty.str) Ty.unit)) (Ty.pair (Ty.pair (Ty.int IntKind.i64) (Ty.pair (Ty.d8 true (Ty.pair (Ty.int IntKind.i64) (Ty.pair Ty.str Ty.unit))) Ty.unit)) (Ty.pair (Ty.pair (Ty.int IntKind.i64) (Ty.pair (Ty.d8 true (Ty.pair (Ty.int IntKind.i64) (Ty.pair Ty.str Ty.unit))) Ty.unit)) Ty.unit)))))) (Ty.pair (Ty.d8 true Ty.str) (Ty.pair (Ty.d8 true Ty.str) Ty.unit)))) 88),(76,TI.mk (Ty.pair (Ty.pair (Ty.int IntKind.i64) (Ty.pair (Ty.int IntKind.u8) Ty.unit)) (Ty.pair (Ty.d8 true (Ty.pair Ty.bool (Ty.pair (Ty.d8 true (Ty.pair (Ty.int IntKind.i64) (Ty.pair Ty.str Ty.unit))) (Ty.pair (Ty.pair (Ty.int IntKind.i64) (Ty.pair (Ty.d8 true Ty.str) Ty.unit)) (Ty.pair (Ty.pair (Ty.int IntKind.i64) (Ty.pair (Ty.d8 true (Ty.pair (Ty.int IntKind.i64) (Ty.pair Ty.str Ty.unit))) Ty.unit)) (Ty.pair (Ty.pair (Ty.int IntKind.i64) (Ty.pair (Ty.d8 true (Ty.pair (Ty.int IntKind.i64) (Ty.pair Ty.str Ty.unit))) Ty.unit)) Ty.unit)))))) (Ty.pair (Ty.d8 true Ty.str) (Ty.pair (Ty.d8 true Ty.str) Ty.unit)))) 88),(77,TI.mk (Ty.pair (Ty.int IntKind.i64) (Ty.pair (Ty.d8 true Ty.str) Ty.unit)) 32),(78,TI.mk (Ty.pair (Ty.int IntKind.i64) (Ty.pair (Ty.d8 true Ty.str) Ty.unit)) 32),(81,TI.mk (Ty.d8 true (Ty.pair (Ty.int IntKind.i64) (Ty.pair Ty.str Ty.unit))) 24),(82,TI.mk (Ty.pair (Ty.int IntKind.i64) (Ty.pair (Ty.d8 true (Ty.pair (Ty.int IntKind.i64) (Ty.pair Ty.str Ty.unit))) Ty.unit)) 32),(83,TI.mk (Ty.pair (Ty.int IntKind.i64) (Ty.pair (Ty.d8 true (Ty.pair (Ty.int IntKind.i64) (Ty.pair Ty.str Ty.unit))) Ty.unit)) 32),(84,TI.mk (Ty.pair Ty.bool (Ty.pair (Ty.d8 true (Ty.pair (Ty.int IntKind.i64) (Ty.pair Ty.str Ty.unit))) (Ty.pair (Ty.pair (Ty.int IntKind.i64) (Ty.pair (Ty.d8 true Ty.str) Ty.unit)) (Ty.pair (Ty.pair (Ty.int IntKind.i64) (Ty.pair (Ty.d8 true (Ty.pair (Ty.int IntKind.i64) (Ty.pair Ty.str Ty.unit))) Ty.unit)) (Ty.pair (Ty.pair (Ty.int IntKind.i64) (Ty.pair (Ty.d8 true (Ty.pair (Ty.int IntKind.i64) (Ty.pair Ty.str Ty.unit))) Ty.unit)) Ty.unit))))) 128),(85,TI.mk (Ty.pair Ty.bool (Ty.pair (Ty.d8 true (Ty.pair (Ty.int IntKind.i64) (Ty.pair Ty.str Ty.unit))) (Ty.pair (Ty.pair (Ty.int IntKind.i64) (Ty.pair (Ty.d8 true Ty.str) Ty.unit)) (Ty.pair (Ty.pair (Ty.int IntKind.i64) (Ty.pair (Ty.d8 true (Ty.pair (Ty.int IntKind.i64) (Ty.pair Ty.str Ty.unit))) Ty.unit)) (Ty.pair (Ty.pair (Ty.int IntKind.i64) (Ty.pair (Ty.d8 true (Ty.pair (Ty.int IntKind.i64) (Ty.pair Ty.str Ty.unit))) Ty.unit)) Ty.unit))))) 128),(88,TI.mk (Ty.arr 6 (Ty.int IntKind.i64)) 48),(89,TI.mk (Ty.arr 6 (Ty.int IntKind.i64)) 48),(90,TI.mk (Ty.pair (Ty.int IntKind.i64) (Ty.pair (Ty.int IntKind.i64) (Ty.pair (Ty.int IntKind.i64) (Ty.pair (Ty.int IntKind.i64) (Ty.pair (Ty.int IntKind.i64) (Ty.pair (Ty.arr 6 (Ty.int IntKind.i64)) (Ty.pair Ty.str Ty.unit))))))) 104),(91,TI.mk (Ty.pair (Ty.int IntKind.i64) (Ty.pair (Ty.int IntKind.i64) (Ty.pair (Ty.int IntKind.i64) (Ty.pair (Ty.int IntKind.i64) (Ty.pair (Ty.int IntKind.i64) (Ty.pair (Ty.arr 6 (Ty.int IntKind.i64)) (Ty.pair Ty.str Ty.unit))))))) 104),(103,TI.mk (Ty.pair (Ty.int IntKind.i64) (Ty.pair Ty.str Ty.unit)) 24),(104,TI.mk (Ty.pair (Ty.int IntKind.i64) (Ty.pair Ty.str Ty.unit)) 24),(115,TI.mk (Ty.d8 true (Ty.int IntKind.u8)) 24),(117,TI.mk (Ty.int IntKind.u32) 4),(119,TI.mk (Ty.int IntKind.u64) 8),(125,TI.mk (Ty.pair (Ty.int IntKind.i64) (Ty.pair (Ty.int IntKind.i64) (Ty.pair (Ty.int IntKind.i64) Ty.unit))) 24),(126,TI.mk (Ty.pair (Ty.int IntKind.i64) (Ty.pair (Ty.int IntKind.i64) (Ty.pair (Ty.int IntKind.i64) Ty.unit))) 24),(158,TI.mk (Ty.arr 24 (Ty.int IntKind.u8)) 24),(159,TI.mk (Ty.int IntKind.u64) 8),(169,TI.mk (Ty.int IntKind.i64) 8),(176,TI.mk (Ty.arr 20 (Ty.int IntKind.u64)) 160),(177,TI.mk (Ty.arr 65 (Ty.int IntKind.u8)) 65),(181,TI.mk (Ty.arr 256 Ty.bool) 256),(182,TI.mk (Ty.arr 256 Ty.bool) 256),(206,TI.mk (Ty.pair Ty.str Ty.unit) 16),(207,TI.mk (Ty.pair Ty.str Ty.unit) 16),(208,TI.mk (Ty.arr 32 (Ty.int IntKind.u8)) 32),(209,TI.mk (Ty.arr 64 (Ty.int IntKind.u8)) 64),(211,TI.mk (Ty.arr 256 (Ty.int IntKind.u8)) 256),(212,TI.mk (Ty.pair (Ty.int IntKind.u8) (Ty.pair (Ty.int IntKind.u8) Ty.unit)) 2),(213,TI.mk (Ty.pair (Ty.int IntKind.u8) (Ty.pair (Ty.int IntKind.u8) Ty.unit)) 2),(214,TI.mk (Ty.arr 16 (Ty.pair (Ty.int IntKind.u8) (Ty.pair (Ty.int IntKind.u8) Ty.unit))) 32),(222,TI.mk (Ty.int IntKind.u8) 1),(223,TI.mk (Ty.int IntKind.u8) 1),(225,TI.mk (Ty.int IntKind.i32) 4),(226,TI.mk (Ty.int IntKind.i32) 4),(25,{ ty:=Ty.box true none r8,by_:=8 }),(94,{ ty:=Ty.fn 79,by_:=8 })]
theorem s9:tt.all (xr Tryz.prog)=true:=by kernel_rfl
theorem own:ownKnob Tryz.prog.godebug=none:=by kernel_rfl
theorem laid:laidOutB Tryz.prog=true:=by kernel_rfl
abbrev _root_.Go.Ex.Tree.ctL {ts:List Ty} (q:Code×List Item) (s:St):Tree ts:=.cut q.1 q.2 s
end Go.Proofs.YtijlnmgondibnaaGreatDoor
namespace Go.Proofs.YtijlnmgondibnaaGreatDoor
open Go.Ex Go.ChangeShapes Go.WideShapes Go.ChangeAt Go.RowKit
set_option maxRecDepth 100000
theorem YC {X:Type} {enc:TypeId×Value->X} {C:Checked} {os:Os} {f:FuncId} {fn:Func} {s:OpenSpec} {k:(H:Type)->List (DataW H)->Bool} (hk:s.cond=some k) {F:Stop.Interp} {conds:List PathCond} {apart fresh handsOn again:Bool} {us:List Ty} {tb:TypeId} {a:Assume} {Y:World->Array Value->Prop}
    (hX:∀ (w w':World) (args:Array Value),w.heap=w'.heap->Y w args->Y w' args)
    (own:ownKnob C.prog.godebug=none) (started:os.Started) (noInit:C.prog.inits.idxOf? f=none) (jN:C.prog.funcs[f]?=some fn)
    (witness:∃ (w:World) (tape:Tape) (i:Input),w.os=os/\(w.forCall tape i).Shaped C.prog/\i.vars=[]/\Input.okWide C.prog (w.forCall tape i) .any w.heap.size f i /\
      ((s.pre enc C.prog fn conds apart (w.forCall tape i).memory i.args/\Y (w.forCall tape i).memory i.args)/\sizedMet enc C.prog fn s apart (w.forCall tape i).memory i.args)/\a.holds C.prog (lone (Frame.enter C.prog f i.args .normal) [] (w.forCall tape i)))
    (sW:∀ ds:List (DataW X),k X ds=true->U9 ds<=1048576)
    (hl:laidOutB C.prog=true) (dn:yZ C.prog fn.params.toList us=true) (fP:s.vars=[]) (hs:∀ ds:List (DataW X),ds.length=fn.params.toList.length->s.fn F X ds={ results:=[.lit (.bool true)],args:=ds })
    (eN:fn.resultTypes=#[tb]) (om:C.prog.underlying tb=some .bool) (hv:(Na us).Valid C.prog f) (ec:∀ W args,W.ShapedOpen C.prog->Y W args->vm C.prog W (λ b=>b<W.heap.size)) :
    ReturnsInHanded a C os f .any (λ w args=>(s.pre enc C.prog fn conds apart w args/\Y w args)/\sizedMet enc C.prog fn s apart w args) ((s.at F).post enc C.prog fn apart fresh handsOn again):=by
  refine returnsInHanded_of_calls own started noInit witness ?_;intro w tape i _ ch _ aK bg qa;obtain ⟨_,_,_,fn',iT,_,_,_,_,dH⟩:=aK;have e:fn'=fn:=Option.some.inj (iT.symm.trans jN);subst e;obtain ⟨⟨lX,hx⟩,hz⟩:=bg;obtain ⟨ds,gs,before,hw,hc,nr⟩:=(OpenSpec.pre_some hk conds apart _ _).1 lX;have gX:=DataW.Whole.of_heap (w':=w.forCall tape i) (by rfl) hw;have hg:gs=[]:=by
    obtain ⟨p,q,hA,hV,_⟩:=hw;rw [fP] at hV;exact (trodVars_none hV).1
  subst hg;rw [List.append_nil] at nr;refine (YB (s:=s.at F) (apart:=apart) (fresh:=fresh) (handsOn:=handsOn) (again:=again) hl dn fP hs eN om hv (ec _ _ ch (hX _ _ _ (by rfl) hx)) (λ x hx=>Nat.le_trans hx (sW ds nr)) dH gX).mono λ e W' ⟨v,he,hp⟩=>?_;subst he;exact ChangeSpec.post_blind hp
theorem Nf {P:Program} {W:World} {n:String} {g:Nat} {cs:Array Value} (hg:P.globalNamed n=some g) (h:W.var? P n=some cs):g<W.heap.size:=by
  unfold World.var? at h;rw [hg,Option.bind_some] at h;by_cases bj:g<W.heap.size
  . exact bj
  . rw [Array.getElem?_eq_none (by omega)] at h;cases h
theorem Xh {P:Program} {W:World} {n:String} {g:Nat} {v:Value} (hg:P.globalNamed n=some g) (h:W.cell? ⟨g,0,none⟩=some v):∃ cs,W.var? P n=some cs/\cs[0]?=some v:=by
  unfold World.var?;rw [hg,Option.bind_some];unfold World.cell? at h;split at h
  . rename_i cs T fz hh;exact ⟨cs,by rw [hh],h⟩
  . cases h
theorem Wm {l:List (String×DataW Unit)} {W:World} (ch:W.ShapedOpen Tryz.prog) (hl:laidMetH Tryz.prog l W) (hf:(l.filter λ x=>x.2.handleName?.isSome)=[]) (hm:("internal/strconv.uint64pow10",Rows.laid_internal_strconv_uint64pow10)∈l) :
    vm Tryz.prog W (λ b=>b<W.heap.size):=by
  unfold laidMetH at hl;rw [hf] at hl;obtain ⟨g,t,cs,fuel,p,h1,h2,h3,h4⟩:=Lib.laidMet.reads hl hm;intro x hx g' kt;simp only [HX,List.mem_cons,List.mem_nil_iff,or_false] at hx;rcases hx with rfl|rfl
  . refine ⟨Nf kt h3,cs,h3,?_⟩;obtain rfl:=Option.some.inj ((show Tryz.prog.globalNamed "internal/strconv.uint64pow10"=some 0 by kernel_rfl).symm.trans h1)
    obtain rfl:=Option.some.inj ((show (Tryz.prog.globals[0]?).map (·.type)=some 176 by kernel_rfl).symm.trans h2);have:=Lib.cells_of_tab (n:=20) (e:=159) (k:=.u64) (zs:=(List.range 20).map λ i=>((10^i:Nat):Int)) (by kernel_rfl) (by kernel_rfl) (by kernel_rfl) (by kernel_rfl) h4;rw [<- this]
  . obtain rfl:=Option.some.inj ((show Tryz.prog.globalNamed "internal/bytealg.MaxLen"=some 1 by kernel_rfl).symm.trans kt)
    obtain ⟨m,hm⟩:=cell_of_shapedOpen_int (g:=1) (t:=3) (zero:=#[.int .i64 0]) (k:=.i64) ch (Nat.le_of_ble_eq_true (by kernel_rfl)) (by kernel_rfl) rfl (by kernel_rfl) (by kernel_rfl) (by kernel_rfl);obtain ⟨cs,k1,k2⟩:=Xh (show Tryz.prog.globalNamed "internal/bytealg.MaxLen"=some 1 by kernel_rfl) hm
    exact ⟨Nf (show Tryz.prog.globalNamed "internal/bytealg.MaxLen"=some 1 by kernel_rfl) k1,cs,k1,m,k2⟩
end Go.Proofs.YtijlnmgondibnaaGreatDoor
namespace Go.Proofs.YtijlnmgondibnaaGreatDoor
open Go.Ex
set_option maxRecDepth 100000
theorem G9 {n:Int}:u7 .i64 n↔-9223372036854775808<=n/\n<=9223372036854775807:=Iff.rfl
theorem sL:(∀p,(True/\p)=p)/\(∀p:Prop,(True->p)=p)/\(∀(p:Prop)[Decidable p],(decide p=true)=p)/\(∀(p:Prop)[Decidable p],(decide p=false)=¬p)/\(∀b:Bool,((!b)=true)=(b=false))/\(∀b:Bool,((!b)=false)=(b=true))/\(∀n:Nat,Int.toNat (n:Int)=n)/\(∀n,u7 .i64 n=(-9223372036854775808<=n/\n<=9223372036854775807))/\(∀(α:Type)(l:List α)(i:Nat)(a:α),(l.set i a).length=l.length)/\(∀(α:Type)(a:α)(l:List α),(a::l).length=l.length+1)/\(∀α:Type,([]:List α).length=0):=
  ⟨λ _=>true_and _,λ _=>true_implies _,λ _ _=>decide_eq_true_eq,λ _ _=>propext decide_eq_false_iff_not,λ _=>Bool.not_eq_true' _,λ _=>Bool.not_eq_false' _,λ _=>rfl,λ _=>propext G9,λ _ _ _ _=>List.length_set,λ _ _ _=>rfl,λ _=>rfl⟩
theorem VJ:Ty.wb f7=8:=rfl
theorem Hj:Ty.wb U8=1:=rfl
theorem yes:((true,()):Bool×Unit)=(true,()):=rfl
theorem Re {α:Type} {l:List α} {i:Nat} (h:i<l.length) (d:α):l.drop i=l.getD i d::l.drop (i+1):=by
  rw [List.drop_eq_getElem_cons h,List.getD_eq_getElem?_getD,List.getElem?_eq_getElem h]; rfl
theorem EI {α:Type} {l:List α} {i:Nat} {d:α} (h:i<l.length):l.getD i d∈l:=by
  rw [List.getD_eq_getElem?_getD,List.getElem?_eq_getElem h]; exact List.getElem_mem h
theorem Ya {α:Type} {l:List α} {x d:α} (h:x∈l):∃ i,i<l.length/\l.getD i d=x:=by
  obtain ⟨i,hi,e⟩:=List.getElem_of_mem h;exact ⟨i,hi,by rw [List.getD_eq_getElem?_getD,List.getElem?_eq_getElem hi,e]; rfl⟩
theorem xk {α:Type} {l:List α} {i j:Nat} {x d:α} (h:i<l.length):(l.set i x).getD j d=if j=i then x else l.getD j d:=by
  rw [List.getD_eq_getElem?_getD,List.getD_eq_getElem?_getD,List.getElem?_set];by_cases e:i=j
  . subst e; simp [h]
  . rw [if_neg e,if_neg (λ h=>e h.symm)]
theorem eq_of_getD {α:Type} {l m:List α} {d:α} (hl:l.length=m.length) (h:∀ i,i<l.length->l.getD i d=m.getD i d):l=m:=by
  refine List.ext_getElem hl (λ i h1 h2=>?_);have:=h i h1
  rwa [List.getD_eq_getElem?_getD,List.getD_eq_getElem?_getD,List.getElem?_eq_getElem h1,List.getElem?_eq_getElem h2] at this
theorem b4G {α:Type} {n i:Nat} (f:Nat->α) (x:α) (hi:i<n):((List.range n).map f).set i x=(List.range n).map (λ j=>if j=i then x else f j):=by
  refine List.ext_getElem (by simp) (λ j h1 h2=>?_);rw [List.getElem_set];simp only [List.getElem_map,List.getElem_range];by_cases e:i=j
  . rw [if_pos e,if_pos e.symm]
  . rw [if_neg e,if_neg (λ h=>e h.symm)]
def wc {α:Type} (p:α->Bool):List α->Nat->Int
  | [],_=>-1
  | x::l,i=>if p x=true then (i:Int) else wc p l (i+1)
def idxOf {α:Type} (p:α->Bool) (l:List α):Int:=wc p l 0
theorem Ke {α:Type} {p:α->Bool}:∀ {l:List α} {i:Nat},0<=wc p l i↔∃ x∈l,p x=true
  | [],i=>by simp [wc]
  | x::l,i=>by
    rw [wc]
    split
    . rename_i h; exact ⟨λ _=>⟨x,by simp,h⟩,λ _=>by omega⟩
    . rename_i h;rw [Ke];constructor
      . rintro ⟨y,h1,h2⟩; exact ⟨y,by simp [h1],h2⟩
      . rintro ⟨y,h1,h2⟩;rcases List.mem_cons.1 h1 with rfl|h1
        . exact absurd h2 h
        . exact ⟨y,h1,h2⟩
theorem Nq {α:Type} {p:α->Bool} {l:List α}:decide (0<=idxOf p l)=l.any p:=by
  cases e:l.any p with
  | true =>
    obtain ⟨x,h1,h2⟩:=List.any_eq_true.1 e;exact decide_eq_true (Ke.2 ⟨x,h1,h2⟩)
  | false =>
    refine decide_eq_false (λ h=>?_);obtain ⟨x,h1,h2⟩:=Ke.1 h;rw [List.any_eq_true.2 ⟨x,h1,h2⟩] at e;cases e
end Go.Proofs.YtijlnmgondibnaaGreatDoor
namespace Go.Proofs.YtijlnmgondibnaaGreatDoor
def step (r:Nat):Nat:=if r % 2=1 then (r / 2) ^^^ 2197175160 else r / 2
theorem VZ {r:Nat} (h:r<4294967296):step r<4294967296:=by
  unfold step
  split
  . exact Nat.xor_lt_two_pow (n:=32) (by omega) (by decide)
  . omega
def steps:Nat->Nat->Nat
  | 0,r=>r
  | k+1,r=>steps k (step r)
theorem Jr:∀ (k:Nat) {r:Nat},r<4294967296->steps k r<4294967296
  | 0,_,h=>h
  | k+1,_,h=>Jr k (VZ h)
theorem QV:∀ (a b r:Nat),steps (a+b) r=steps b (steps a r)
  | 0,b,r=>by rw [Nat.zero_add]; rfl
  | a+1,b,r=>by rw [show a+1+b=(a+b)+1 by omega]; simp only [steps]; exact QV a b _
def byt (r b:Nat):Nat:=steps 8 (r ^^^ b)
def reg (r:Nat) (s:yY):Nat:=s.foldl (λ r b=>byt r b.toNat) r
def vz (s:yY):Nat:=reg 4294967295 s ^^^ 4294967295
theorem VT (r:Nat) (s t:yY):reg r (s++t)=reg (reg r s) t:=by simp [reg]
theorem Uu {r:Nat} (h:r<4294967296) (b:UInt8):byt r b.toNat<4294967296:=Jr 8 (Nat.xor_lt_two_pow (n:=32) h (by have:=b.toNat_lt; omega))
theorem MY:∀ {s:yY} {r:Nat},r<4294967296->reg r s<4294967296
  | [],_,h=>h
  | b::s,r,h=>show reg (byt r b.toNat) s<_ from MY (Uu h b)
def le4 (x:Nat):yY:=[UInt8.ofNat x,UInt8.ofNat (x / 2^8),UInt8.ofNat (x / 2^16),UInt8.ofNat (x / 2^24)]
end Go.Proofs.YtijlnmgondibnaaGreatDoor
namespace Go.Proofs.YtijlnmgondibnaaGreatDoor
open Go.Ex
set_option maxRecDepth 100000
def inF (n a b:Int):Bool:=decide (a<=n) && decide (n<=b)
theorem xM {n a b:Int}:inF n a b=true↔a<=n/\n<=b:=by simp [inF]
theorem IF {α:Type} {l:List α} {i j:Int} (h0:0<=i) (h1:i<=j) (h2:j<=(l.length:Int)):o5 j (l.length:Int) l=l.drop j.toNat:=by
  rw [o5]; exact List.take_of_length_le (by rw [List.length_drop]; omega)
theorem Nj {α:Type} {l:List α} {i j:Int} (h0:0<=i) (h1:i<=j) (h2:j<=(l.length:Int)):((o5 j (l.length:Int) l).length:Int)=(l.length:Int) - j/\(List.take i.toNat l++o5 j (l.length:Int) l++List.drop (i.toNat+(o5 j (l.length:Int) l).length) l).length=l.length:=by
  rw [IF h0 h1 h2];simp only [List.length_append,List.length_take,List.length_drop];omega
theorem Wk {α:Type} {l:List α} {d:List α} {i j:Int} (h0:0<=i) (h1:i<=j) (h2:j<=(l.length:Int)) {r:Nat} :
    o5 (0:Int) (i+(↑(List.length (o5 j (↑(List.length l):Int) l)):Int)) (List.take (Int.toNat ((0:Int)+(i+(↑(List.length (o5 j (↑(List.length l):Int) l)):Int) - (0:Int)))) (List.take (Int.toNat i) l++o5 j (↑(List.length l):Int) l++List.drop (Int.toNat i+List.length (o5 j (↑(List.length l):Int) l)) l)++d++List.drop r (List.take (Int.toNat i) l++o5 j (↑(List.length l):Int) l++List.drop (Int.toNat i+List.length (o5 j (↑(List.length l):Int) l)) l))=List.take i.toNat l++List.drop j.toNat l:=by
  obtain ⟨e1,e2⟩:=Nj h0 h1 h2 (l:=l);rw [IF h0 h1 h2] at e1 e2 ⊢;generalize hX:List.take i.toNat l++List.drop j.toNat l++List.drop (i.toNat+(List.drop j.toNat l).length) l=X at e2 ⊢;have em:(0+(i+((List.drop j.toNat l).length:Int) - 0)).toNat=(List.take i.toNat l++List.drop j.toNat l).length:=by
    simp only [List.length_append,List.length_take]; omega
  have en:(i+((List.drop j.toNat l).length:Int) - 0).toNat=(List.take i.toNat l++List.drop j.toNat l).length:=by
    simp only [List.length_append,List.length_take]; omega
  rw [o5,em,en,Int.toNat_zero,List.drop_zero,List.append_assoc,List.take_append_of_le_length (by
    rw [List.length_take,e2];simp only [List.length_append,List.length_take,List.length_drop]; omega),List.take_take,Nat.min_self,<- hX,List.take_left]
def rest (a n:Int):Int:=if n<=0 then 0 else Int.tmod (Int.tmod a n+n) n
def GK:r9:={ ps:=[.v f7,.v f7],rs:=[f7],pre:=λ x=>LE.le (α:=Int) x.2.1 1000000000,fn:=λ x=>(rest x.1 x.2.1,()),out:=λ _=>() }
noncomputable def GM:Env:={ P:=Tryz.prog,tt:=tt,E4:=[],res:=[Go.ResultVar.tmp 4],rs:=[Ty.int IntKind.i64],ps:=[PK.v f7,PK.v f7],D5:=[],nt:=14 }
theorem OY:C0 GM:=C7 s9 trivial
theorem PH:D7 GM Tryz.f39:=⟨rfl,rfl⟩
theorem Vq (x0:Int) (x1:Int):exec GM 1000 [.code (d9 Tryz.prog 39)] (y8 GK.ps ((x0,x1,()))) =
  cond (decide (x1<=(0:Int))) (.ret (((0:Int),()))) (.f9 ((0:Int)<x1) (.f9 (u7 IntKind.i64 (Int.tmod x0 x1+x1)) (.f9 ((0:Int)<x1) (.ret ((Int.tmod (Int.tmod x0 x1+x1) x1,())))))):=by kernel_rfl
theorem b8h:GK.Valid Tryz.prog 39:=by
  refine r9.r7 OY rfl rfl Tryz.func39 (c:=d9 Tryz.prog 39) rfl rfl PH rfl ?_;rintro ⟨(x0:Int),(x1:Int),⟨⟩⟩ hp -
  refine j8 (n:=1000) OY PH ?_;refine i8 (Vq x0 x1) ?_;have hp:x1<=1000000000:=hp;simp only [j7,Tree.holds,sL];refine ⟨λ a=>?_,λ a=>?_⟩
  . show ((0,()):Int×Unit)=(rest x0 x1,());rw [rest,if_pos a]
  . have h0:0<x1:=by omega
    have h1:=Int.tmod_lt_of_pos x0 h0;have h2:-x1<Int.tmod x0 x1:=by
      have:=Int.tmod_lt_of_pos (-x0) h0;rw [Int.neg_tmod] at this;omega
    refine ⟨h0,λ _=>⟨by omega,λ _=>⟨h0,λ _=>?_⟩⟩⟩;show ((_,()):Int×Unit)=(rest x0 x1,());rw [rest,if_neg a]
theorem OD {a n:Int} (h:0<n):0<=rest a n/\rest a n<n:=by
  have h1:=Int.tmod_lt_of_pos (-a) h;rw [Int.neg_tmod] at h1;rw [rest,if_neg (by omega)];exact ⟨Int.tmod_nonneg _ (by omega),Int.tmod_lt_of_pos _ h⟩
end Go.Proofs.YtijlnmgondibnaaGreatDoor
namespace Go.Proofs.YtijlnmgondibnaaGreatDoor
open Go.Ex
instance {k:IntKind} {n:Int}:Decidable (u7 k n):=inferInstanceAs (Decidable (_/\_))
def bit (x:Int) (i:Nat):Bool:=x.toNat.testBit i
section
variable {k:IntKind} {x y:Int}
theorem BD (hk:k.signed=false):u7 k x↔0<=x/\x<2^k.bits:=by
  cases k<;>simp [IntKind.signed] at hk<;>simp [u7,IntKind.min,IntKind.max,IntKind.signed,IntKind.bits]<;>omega
theorem DF (hk:k.signed=false) (b:BitVec k.bits):k.wrap (b.toNat:Int)=(b.toNat:Int):=by
  refine U0 ((BD hk).2 ⟨Int.natCast_nonneg _,?_⟩);have:=b.isLt
  exact_mod_cast this
theorem yp (hk:k.signed=false) (hx:u7 k x) (i:Nat):(BitVec.ofInt k.bits x).getLsbD i=bit x i:=by
  obtain ⟨h0,h1⟩:=(BD hk).1 hx;obtain ⟨n,rfl⟩:=Int.eq_ofNat_of_zero_le h0;have hn:n<2^k.bits:=by exact_mod_cast h1
  rw [BitVec.ofInt_natCast,BitVec.getLsbD_ofNat];simp only [bit,Int.toNat_natCast];by_cases hi:i<k.bits
  . simp [hi]
  . have:n.testBit i=false:=Nat.testBit_lt_two_pow (Nat.lt_of_lt_of_le hn (Nat.pow_le_pow_right (by omega) (by omega)));simp [this]
theorem Ob (hk:k.signed=false) (hx:u7 k x) {i:Nat} (hi:k.bits<=i):bit x i=false:=by
  obtain ⟨h0,h1⟩:=(BD hk).1 hx;obtain ⟨n,rfl⟩:=Int.eq_ofNat_of_zero_le h0;have hn:n<2^k.bits:=by exact_mod_cast h1
  exact Nat.testBit_lt_two_pow (Nat.lt_of_lt_of_le hn (Nat.pow_le_pow_right (by omega) hi))
theorem Oa (hk:k.signed=false) (hx:u7 k x) (hy:u7 k y) (i:Nat):bit (U2 k x y) i=(bit x i && bit y i):=by
  rw [U2,DF hk,bit,Int.toNat_natCast,BitVec.testBit_toNat,BitVec.getLsbD_and,yp hk hx,yp hk hy]
theorem MN (hk:k.signed=false) (hx:u7 k x) (hy:u7 k y) (i:Nat):bit (bOr k x y) i=(bit x i || bit y i):=by
  rw [bOr,DF hk,bit,Int.toNat_natCast,BitVec.testBit_toNat,BitVec.getLsbD_or,yp hk hx,yp hk hy]
theorem WO (hk:k.signed=false) (hx:u7 k x) (hy:u7 k y) (i:Nat):bit (vG k x y) i=(bit x i ^^ bit y i):=by
  rw [vG,DF hk,bit,Int.toNat_natCast,BitVec.testBit_toNat,BitVec.getLsbD_xor,yp hk hx,yp hk hy]
theorem Sm (hk:k.signed=false) (hx:u7 k x) (hy:u7 k y) (i:Nat):bit (S3 k x y) i=(bit x i && !bit y i):=by
  rw [S3,DF hk,bit,Int.toNat_natCast,BitVec.testBit_toNat,BitVec.getLsbD_and,BitVec.getLsbD_not,yp hk hx,yp hk hy];by_cases hi:i<k.bits
  . simp [hi]
  . rw [Ob hk hx (by omega)]; simp
theorem MW:u7 k (U2 k x y):=U6 _ _
theorem GU:u7 k (bOr k x y):=U6 _ _
theorem VL:u7 k (vG k x y):=U6 _ _
theorem AF:u7 k (S3 k x y):=U6 _ _
theorem IZ (hx:0<=x) (hy:0<=y) (h:∀ i,bit x i=bit y i):x=y:=by
  have:x.toNat=y.toNat:=Nat.eq_of_testBit_eq h;omega
theorem ZG (hx:0<=x):x=0↔∀ i,bit x i=false:=by
  constructor
  . rintro rfl i; simp [bit]
  . intro h; exact IZ hx (by omega) (λ i=>by rw [h i]; simp [bit])
end
theorem u8s:IntKind.u8.signed=false:=rfl
theorem u8_in {x:Int}:u7 .u8 x↔0<=x/\x<=255:=Iff.rfl
def Mt (n:Nat):Nat:=((List.range 8).map λ i=>(n.testBit i).toNat).sum
def vI (m:Int):Int:=(Mt m.toNat:Int)
theorem Wy (m:Int):vI m=((bit m 0).toNat+(bit m 1).toNat+(bit m 2).toNat+(bit m 3).toNat+(bit m 4).toNat+(bit m 5).toNat+(bit m 6).toNat+(bit m 7).toNat:Nat):=by
  simp only [vI,Mt,List.range,List.range.loop,List.map_cons,List.map_nil,List.sum_cons,List.sum_nil,bit];omega
theorem toNat_le (b:Bool):b.toNat<=1:=by cases b<;>decide
theorem Nz (m:Int):0<=vI m/\vI m<=8:=by
  rw [Wy];have:=toNat_le (bit m 0); have:=toNat_le (bit m 1); have:=toNat_le (bit m 2); have:=toNat_le (bit m 3);have:=toNat_le (bit m 4); have:=toNat_le (bit m 5); have:=toNat_le (bit m 6); have:=toNat_le (bit m 7);omega
end Go.Proofs.YtijlnmgondibnaaGreatDoor
namespace Go.Proofs.YtijlnmgondibnaaGreatDoor
open Go.Ex
set_option maxRecDepth 100000
theorem Ar {n:Int}:u7 .u32 n↔0<=n/\n<=4294967295:=Iff.rfl
theorem Xc {k:IntKind} (hk:k.signed=false) {a b:Nat} (ha:u7 k a) (hb:u7 k b):vG k (a:Int) (b:Int)=((a ^^^ b:Nat):Int) :=
  IZ ((BD hk).1 VL).1 (Int.natCast_nonneg _) (λ i=>by rw [WO hk ha hb]; simp [bit,Nat.testBit_xor])
theorem Xb {k:IntKind} (hk:k.signed=false) {a b:Nat} (ha:u7 k a) (hb:u7 k b):U2 k (a:Int) (b:Int)=((a &&& b:Nat):Int) :=
  IZ ((BD hk).1 MW).1 (Int.natCast_nonneg _) (λ i=>by rw [Oa hk ha hb]; simp [bit,Nat.testBit_and])
theorem Hk {a b:Nat} (ha:a<4294967296) (hb:b<4294967296):vG .u32 (a:Int) (b:Int)=((a ^^^ b:Nat):Int):=Xc rfl (Ar.2 ⟨by omega,by omega⟩) (Ar.2 ⟨by omega,by omega⟩)
theorem UD {a:Nat} (ha:a<4294967296):U2 .u32 (a:Int) 1=((a % 2:Nat):Int):=by
  have:=Xb (k:=.u32) rfl (a:=a) (b:=1) (Ar.2 ⟨by omega,by omega⟩) (Ar.2 ⟨by omega,by omega⟩);rw [Nat.and_one_is_mod] at this;exact this
def Du:r9:={ ps:=[.v .str],rs:=[.int .u32],pre:=λ _=>True,fn:=λ x=>(((vz x.1:Nat):Int),()),out:=λ _=>() }
noncomputable def AP:Env:={ P:=Tryz.prog,tt:=tt,E4:=[],res:=[Go.ResultVar.tmp 2],rs:=[Ty.int IntKind.u32],ps:=[PK.v Ty.str],D5:=[(3,[(0,none),(3,none),(7,none),(8,none)]),(7,[(0,none),(3,none),(7,none),(8,none),(17,none)])],nt:=31 }
theorem El:C0 AP:=C7 s9 trivial
theorem Ey:D7 AP Tryz.f63:=⟨rfl,rfl⟩
theorem UO (x0:yY):exec AP 1000 [.code (d9 Tryz.prog 63)] (y8 Du.ps ((x0,()))) =
  .ctL (g8 (d9 Tryz.prog 63) 3) (St.mk [(0,AV.val Ty.str x0),(3,AV.val (Ty.int IntKind.u32) (4294967295:Int)),(7,AV.val f7 (↑(List.length x0):Int)),(8,AV.val f7 (0:Int))] []):=by kernel_rfl
def Oi (v0:yY) (v3:Int) (v7:Int) (v8:Int):St:=St.mk [(0,AV.val Ty.str v0),(3,AV.val (Ty.int IntKind.u32) v3),(7,AV.val f7 v7),(8,AV.val f7 v8)] []
theorem VM (v0:yY) (v3:Int) (v7:Int) (v8:Int):exec AP 1000 (.code (g8 (d9 Tryz.prog 63) 3).1::.inLoop (g8 (d9 Tryz.prog 63) 3).1::(g8 (d9 Tryz.prog 63) 3).2) (Oi v0 v3 v7 v8) =
  cond (decide (v8<v7)) (.f9 ((0:Int)<=v8/\v8<(↑(List.length v0):Int)) (.ctL (g8 (d9 Tryz.prog 63) 7) (St.mk [(0,AV.val Ty.str v0),(3,AV.val (Ty.int IntKind.u32) (vG IntKind.u32 v3 (IntKind.wrap IntKind.u32 (↑(UInt8.toNat (List.getD v0 (Int.toNat v8) (0:UInt8))):Int)))),(7,AV.val f7 v7),(8,AV.val f7 v8),(17,AV.val f7 (0:Int))] []))) (.ret ((vG IntKind.u32 (if IntKind.signed IntKind.u32=true then (-1:Int) else IntKind.max IntKind.u32) v3,()))):=by kernel_rfl
def Oj (v0:yY) (v3:Int) (v7:Int) (v8:Int) (vy:Int):St:=St.mk [(0,AV.val Ty.str v0),(3,AV.val (Ty.int IntKind.u32) v3),(7,AV.val f7 v7),(8,AV.val f7 v8),(17,AV.val f7 vy)] []
theorem UT (v0:yY) (v3:Int) (v7:Int) (v8:Int) (vy:Int):exec AP 1000 (.code (g8 (d9 Tryz.prog 63) 7).1::.inLoop (g8 (d9 Tryz.prog 63) 7).1::(g8 (d9 Tryz.prog 63) 7).2) (Oj v0 v3 v7 v8 vy) =
  cond (decide (vy<(8:Int))) (.f9 ((0:Int)<=(1:Int)) (cond (decide (U2 IntKind.u32 v3 (1:Int)=(1:Int))) (.f9 (u7 IntKind.i64 (vy+(1:Int))) (.ctL (g8 (d9 Tryz.prog 63) 7) (St.mk [(0,AV.val Ty.str v0),(3,AV.val (Ty.int IntKind.u32) (vG IntKind.u32 (v3 / (2:Int)^min (Int.toNat (1:Int)) (IntKind.bits IntKind.u32)) (2197175160:Int))),(7,AV.val f7 v7),(8,AV.val f7 v8),(17,AV.val f7 (vy+(1:Int)))] []))) (.f9 (u7 IntKind.i64 (vy+(1:Int))) (.ctL (g8 (d9 Tryz.prog 63) 7) (St.mk [(0,AV.val Ty.str v0),(3,AV.val (Ty.int IntKind.u32) (v3 / (2:Int)^min (Int.toNat (1:Int)) (IntKind.bits IntKind.u32))),(7,AV.val f7 v7),(8,AV.val f7 v8),(17,AV.val f7 (vy+(1:Int)))] []))))) (.f9 (u7 IntKind.i64 (v8+(1:Int))) (.ctL (g8 (d9 Tryz.prog 63) 3) (St.mk [(0,AV.val Ty.str v0),(3,AV.val (Ty.int IntKind.u32) v3),(7,AV.val f7 v7),(8,AV.val f7 (v8+(1:Int)))] []))):=by kernel_rfl
theorem c0g (k r:Nat):steps (k+1) r=step (steps k r):=by rw [QV k 1]; rfl
theorem Yf {s:yY} {i:Nat} (h:i<s.length) (r:Nat):reg r (s.take (i+1))=steps 8 (reg r (s.take i) ^^^ (s.getD i 0).toNat):=by
  rw [List.take_add_one,List.getElem?_eq_getElem h,VT,List.getD_eq_getElem?_getD,List.getElem?_eq_getElem h];rfl
theorem RX:Du.Valid Tryz.prog 63:=by
  refine r9.r7 El rfl rfl Tryz.func63 (c:=d9 Tryz.prog 63) rfl rfl Ey rfl ?_;rintro ⟨(s:yY),⟨⟩⟩ - ⟨hl,-⟩;have hl:s.length<=9223372036854775807:=hl;refine j8 (n:=1000) El Ey ?_;refine i8 (UO s) ?_;refine Reach.O8 El Ey (λ i:Nat=>Oi s ((reg 4294967295 (s.take i):Nat):Int) (s.length:Int) (i:Int)) (λ i=>i<=s.length)
    (λ i=>s.length - i) 1000 (λ i=>⟨y6 rfl,y6 rfl⟩) ?_ 0 (by omega)
  rintro i hi - ih;refine i8 (VM ..) ?_;simp only [j7,Tree.holds,sL];have hr:=MY (s:=s.take i) (r:=4294967295) (by decide);have hb:(s.getD i 0).toNat<256:=UInt8.toNat_lt _;refine ⟨λ a=>⟨⟨by omega,by omega⟩,λ _=>?_⟩,λ a=>?_⟩
  . have ur:reg 4294967295 (s.take i) ^^^ (s.getD i 0).toNat<4294967296:=Nat.xor_lt_two_pow (n:=32) hr (by omega);rw [show IntKind.wrap IntKind.u32 ((s.getD i 0).toNat:Int)=((s.getD i 0).toNat:Int) from U0 (Ar.2 ⟨by omega,by omega⟩),Hk hr (by omega)];refine Reach.O8 El Ey (λ j:Nat=>Oj s ((steps j (reg 4294967295 (s.take i) ^^^ (s.getD i 0).toNat):Nat):Int) (s.length:Int) (i:Int) (j:Int)) (λ j=>j<=8)
      (λ j=>8 - j) 1000 (λ i=>⟨y6 rfl,y6 rfl⟩) ?_ 0 (by omega)
    rintro j hj - ih2;refine i8 (UT ..) ?_;have hs:=Jr j ur;have hn:=c0g j (reg 4294967295 (s.take i) ^^^ (s.getD i 0).toNat);have he:steps 8 (reg 4294967295 (s.take i) ^^^ (s.getD i 0).toNat)=reg 4294967295 (s.take (i+1))\/¬ i<s.length:=by
      by_cases h:i<s.length
      . exact .inl (Yf h _).symm
      . exact .inr h
    generalize hR:steps j (reg 4294967295 (s.take i) ^^^ (s.getD i 0).toNat)=r at *
    have hd:((r:Nat):Int) / 2^min (Int.toNat 1) (IntKind.bits IntKind.u32)=((r / 2:Nat):Int):=by
      show ((r:Nat):Int) / 2^1=_;omega
    rw [hd,UD hs,show (2197175160:Int)=((2197175160:Nat):Int) from rfl,Hk (by omega) (by decide)];simp only [j7,Tree.holds,decide_eq_true_eq,decide_eq_false_iff_not];have hk:u7 .i64 ((j:Int)+1):=G9.2 ⟨by omega,by omega⟩;refine ⟨λ b=>⟨by decide,λ _=>⟨λ c=>⟨hk,λ _=>?_⟩,λ c=>⟨hk,λ _=>?_⟩⟩⟩,λ b=>⟨G9.2 ⟨by omega,by omega⟩,λ _=>?_⟩⟩
    . have h9:=ih2 (j+1) (by omega) (by omega);rw [hn,step,if_pos (by omega)] at h9;exact h9
    . have h9:=ih2 (j+1) (by omega) (by omega);rw [hn,step,if_neg (by omega)] at h9;exact h9
    . have td:j=8:=by omega
      subst td;rw [hR] at he;have h9:=ih (i+1) (by omega) (by omega);rw [<- he.resolve_right (λ h=>h (by omega))] at h9;exact h9
  . have hi:i=s.length:=by omega
    subst hi;rw [List.take_length] at hr ⊢;show (vG .u32 4294967295 ((reg 4294967295 s:Nat):Int),())=(((vz s:Nat):Int),());rw [show (4294967295:Int)=((4294967295:Nat):Int) from rfl,Hk (by decide) hr,vz,Nat.xor_comm]
end Go.Proofs.YtijlnmgondibnaaGreatDoor
namespace Go.Proofs.YtijlnmgondibnaaGreatDoor
open Go.Ex
section
variable {α:Type} {p:α->Bool} {d:α}
theorem Qg:∀ {l:List α} {j:Nat},wc p l j≠-1->∃ k:Nat,wc p l j=((j+k:Nat):Int)/\k<l.length/\p (l.getD k d)=true/\∀ i,i<k->p (l.getD i d)=false
  | [],_,h=>absurd rfl h
  | y::l,j,h=>by
    by_cases hy:p y=true
    . exact ⟨0,by rw [wc,if_pos hy]; rfl,by simp,hy,λ i hi=>by omega⟩
    . rw [wc,if_neg hy] at h ⊢;obtain ⟨k,h1,h2,h3,h4⟩:=Qg h;refine ⟨k+1,by rw [h1]; congr 1; omega,by simp; omega,h3,λ i hi=>?_⟩;cases i with
      | zero=>simpa using hy
      | succ i=>exact h4 i (by omega)
structure vL (p:α->Bool) (l m:List α) (i j:Nat):Prop where
  tk:m.take i=(l.take j).filter (λ x=>!p x)
  dr:m.drop j=l.drop j
  len:m.length=l.length
  lt:i<j
  le:j<=l.length
theorem Eh {l:List α} {i:Nat} (h:i<l.length) (d:α):l.take (i+1)=l.take i++[l.getD i d]:=by
  rw [List.getD_eq_getElem?_getD,List.getElem?_eq_getElem h]; simp
theorem c0U:∀ {l:List α},(∀ x∈l,p x=false)->l.filter (λ x=>!p x)=l:=λ h=>List.filter_eq_self.2 (λ x hx=>by rw [h x hx]; rfl)
theorem vL.start (d:α) {l:List α} (h:idxOf p l≠-1):∃ k:Nat,idxOf p l=(k:Int)/\k<l.length/\vL p l l k (k+1):=by
  obtain ⟨k,h1,h2,h3,h4⟩:=Qg (d:=d) h;refine ⟨k,by rw [idxOf,h1]; congr 1; omega,h2,⟨?_,rfl,rfl,by omega,by omega⟩⟩;rw [Eh h2 d,List.filter_append,c0U]
  . simp only [List.filter_cons,List.filter_nil,h3]; simp
  . intro x hx;obtain ⟨i,hi,rfl⟩:=Ya (d:=d) hx;rw [List.length_take] at hi;have:=h4 i (by omega);rw [List.getD_eq_getElem?_getD,List.getElem?_take,if_pos (by omega),<- List.getD_eq_getElem?_getD];exact this
theorem vL.at_ {l m:List α} {i j:Nat} (h:vL p l m i j) (d:α):m.getD j d=l.getD j d:=by
  have:=congrArg (λ q:List α=>q.getD 0 d) h.dr;simpa [List.getD_eq_getElem?_getD,List.getElem?_drop] using this
theorem vL.Mi {l m:List α} {i j:Nat} (h:vL p l m i j):m.drop (j+1)=l.drop (j+1):=by
  rw [<- List.drop_drop,<- List.drop_drop,h.dr]
theorem vL.xw {l m:List α} {i j:Nat} (h:vL p l m i j) (hj:j<l.length) (hp:p (m.getD j d)=false):vL p l (m.set i (m.getD j d)) (i+1) (j+1):=by
  have hl:=h.len;have bj:=h.lt;refine ⟨?_,?_,by rw [List.length_set,hl],by omega,by omega⟩
  . rw [Eh hj d,List.filter_append,<- h.tk,Eh (by rw [List.length_set]; omega) d];rw [h.at_ d] at hp ⊢;congr 1
    . rw [List.take_set_of_le (Nat.le_refl i)]
    . rw [xk (by omega),if_pos rfl]; generalize l.getD j d=x at hp ⊢; simp [hp]
  . rw [List.drop_set_of_lt (by omega)]; exact h.Mi
theorem vL.skip {l m:List α} {i j:Nat} (h:vL p l m i j) (hj:j<l.length) (hp:p (m.getD j d)=true):vL p l m i (j+1):=by
  refine ⟨?_,h.Mi,h.len,by have:=h.lt; omega,by omega⟩;rw [Eh hj d,List.filter_append,<- h.tk];rw [h.at_ d] at hp;generalize l.getD j d=x at hp ⊢;simp [hp]
theorem vL.fin {l m A B:List α} {i j:Nat} (h:vL p l m i j) (hj:j=l.length):o5 0 (i:Int) (m.take i++A++B)=l.filter (λ x=>!p x):=by
  have h1:=h.tk;rw [hj,List.take_of_length_le (Nat.le_refl _)] at h1;have hi:(m.take i).length=i:=by rw [List.length_take]; have:=h.len; have:=h.lt; omega
  rw [o5,show ((i:Int) - 0).toNat=i by omega,Int.toNat_zero,List.drop_zero,List.append_assoc,List.take_append_of_le_length (by omega),List.take_of_length_le (by omega),h1]
end
end Go.Proofs.YtijlnmgondibnaaGreatDoor
namespace Go.Proofs.YtijlnmgondibnaaGreatDoor
open Go.Ex
set_option maxRecDepth 100000
theorem Kz {α:Type} {l:List α} {i:Nat} (h:i<l.length) (d:α):l.take (i+1)=l.take i++[l.getD i d]:=by
  rw [List.take_succ_eq_append_getElem h,List.getD_eq_getElem?_getD,List.getElem?_eq_getElem h]; rfl
abbrev n9:=Int×Int×Int×Int×Int×List Int×yY×Unit
def H6 (n a b:Int):Bool:=decide (a<=n) && decide (n<=b)
theorem M8 {n a b:Int}:H6 n a b=true↔a<=n/\n<=b:=by simp [H6]
def Dc:r9:={ ps:=[.v f7,.v f7,.v f7],rs:=[.bool],pre:=λ _=>True,fn:=λ x=>(H6 x.1 x.2.1 x.2.2.1,()),out:=λ _=>() }
noncomputable def FT:Env:={ P:=Tryz.prog,tt:=tt,E4:=[],res:=[Go.ResultVar.tmp 6],rs:=[Ty.bool],ps:=[PK.v f7,PK.v f7,PK.v f7],D5:=[],nt:=15 }
theorem Ot:C0 FT:=C7 s9 trivial
theorem NP:D7 FT Tryz.f80:=⟨rfl,rfl⟩
theorem Uf (x0:Int) (x1:Int) (x2:Int):exec FT 1000 [.code (d9 Tryz.prog 80)] (y8 Dc.ps ((x0,x1,x2,()))) =
  cond (decide (x1<=x0)) (.ret ((decide (x0<=x2),()))) (.ret ((false,()))):=by kernel_rfl
theorem Sq:Dc.Valid Tryz.prog 80:=by
  refine r9.r7 Ot rfl rfl Tryz.func80 (c:=d9 Tryz.prog 80) rfl rfl NP rfl ?_;rintro ⟨(n:Int),(a:Int),(b:Int),⟨⟩⟩ - -
  refine j8 (n:=1000) Ot NP ?_;refine i8 (Uf n a b) ?_;simp only [j7,Tree.holds,sL];refine ⟨λ c=>?_,λ c=>?_⟩
  . show ((decide _,()):Bool×Unit)=(H6 n a b,()); rw [H6,decide_eq_true c,Bool.true_and]
  . show ((false,()):Bool×Unit)=(H6 n a b,()); rw [H6,decide_eq_false c,Bool.false_and]
def De:r9:={ ps:=[.v f7],rs:=[.bool],pre:=λ _=>True,fn:=λ x=>(H6 x.1 0 16777215,()),out:=λ _=>() }
noncomputable def FJ:Env:={ P:=Tryz.prog,tt:=tt,E4:=[(80,Dc)],res:=[Go.ResultVar.tmp 2],rs:=[Ty.bool],ps:=[PK.v f7],D5:=[],nt:=5 }
theorem NJ:C0 FJ:=C7 s9 ⟨Sq,trivial⟩
theorem NS:D7 FJ Tryz.f79:=⟨rfl,rfl⟩
theorem Ui (x0:Int):exec FJ 1000 [.code (d9 Tryz.prog 79)] (y8 De.ps ((x0,()))) =
  .f9 (True) (.ret ((H6 x0 (0:Int) (16777215:Int),()))):=by kernel_rfl
theorem Sv:De.Valid Tryz.prog 79:=by
  refine r9.r7 NJ rfl rfl Tryz.func79 (c:=d9 Tryz.prog 79) rfl rfl NS rfl ?_;rintro ⟨(n:Int),⟨⟩⟩ - -
  refine j8 (n:=1000) NJ NS ?_;refine i8 (Ui n) ?_;exact ⟨trivial,λ _=>rfl⟩
def T4 (n:Int):Bool:=!H6 n 0 16777215
def IA:r9:={ ps:=[.v f7,.rd (.fn 79)],rs:=[.bool],pre:=λ x=>Eq (α:=Bool) x.2.1 true,fn:=λ x=>(T4 x.1,()),out:=λ _=>() }
noncomputable def Ib:Env:={ P:=Tryz.prog,tt:=tt,E4:=[(79,De)],res:=[Go.ResultVar.tmp 3],rs:=[Ty.bool],ps:=[PK.v f7,PK.rd (Ty.fn 79)],D5:=[],nt:=8 }
theorem RP:C0 Ib:=C7 s9 ⟨Sv,trivial⟩
theorem Sg:D7 Ib Tryz.f82:=⟨rfl,rfl⟩
theorem XO (x0:Int) (x1:Bool):exec Ib 1000 [.code (d9 Tryz.prog 82)] (y8 IA.ps ((x0,x1,()))) =
  .f9 (x1=true/\True) (.ret ((!H6 x0 (0:Int) (16777215:Int),()))):=by kernel_rfl
theorem b4T:IA.Valid Tryz.prog 82:=by
  refine r9.r7 RP rfl rfl Tryz.func82 (c:=d9 Tryz.prog 82) rfl rfl Sg rfl ?_;rintro ⟨(n:Int),(b:Bool),⟨⟩⟩ (hp:b=true) -
  refine j8 (n:=1000) RP Sg ?_;refine i8 (XO n b) ?_;exact ⟨⟨hp,trivial⟩,λ _=>rfl⟩
def Gz:r9:={ ps:=[.v (.d8 false f7),.D3 82 [.fn 79]],rs:=[f7],pre:=λ x=>Eq (α:=Bool) x.2.1.1 true,fn:=λ x=>(idxOf (T4) x.1,()),out:=λ _=>() }
noncomputable def DA:Env:={ P:=Tryz.prog,tt:=tt,E4:=[(82,IA)],res:=[Go.ResultVar.tmp 4],rs:=[Ty.int IntKind.i64],ps:=[PK.v (Ty.d8 false f7),PK.D3 82 [Ty.fn 79]],D5:=[(2,[(0,none),(1,none),(7,none),(8,none)])],nt:=19 }
theorem Jl:C0 DA:=C7 s9 ⟨b4T,trivial⟩
theorem IS:D7 DA Tryz.f95:=⟨rfl,rfl⟩
theorem Vg (x0:List Int) (x1c0:Bool):exec DA 1000 [.code (d9 Tryz.prog 95)] (y8 Gz.ps ((x0,(x1c0,()),()))) =
  .ctL (g8 (d9 Tryz.prog 95) 2) (St.mk [(0,AV.val (Ty.d8 false f7) x0),(1,AV.D3 82 (AV.cons (AV.P8 (Ty.fn 79) x1c0) AV.nil)),(7,AV.val f7 (↑(List.length x0):Int)),(8,AV.val f7 (0:Int))] []):=by kernel_rfl
def OP (v0:List Int) (AO:Bool) (v7:Int) (v8:Int):St:=St.mk [(0,AV.val (Ty.d8 false f7) v0),(1,AV.D3 82 (AV.cons (AV.P8 (Ty.fn 79) AO) AV.nil)),(7,AV.val f7 v7),(8,AV.val f7 v8)] []
theorem Xw (v0:List Int) (AO:Bool) (v7:Int) (v8:Int):exec DA 1000 (.code (g8 (d9 Tryz.prog 95) 2).1::.inLoop (g8 (d9 Tryz.prog 95) 2).1::(g8 (d9 Tryz.prog 95) 2).2) (OP v0 AO v7 v8) =
  cond (decide (v8<v7)) (.f9 ((0:Int)<=v8/\v8<(↑(List.length v0):Int)) (.f9 (AO=true) (cond (T4 (List.getD v0 (Int.toNat v8) (0:Int))) (.ret ((v8,()))) (.f9 (u7 IntKind.i64 (v8+(1:Int))) (.ctL (g8 (d9 Tryz.prog 95) 2) (St.mk [(0,AV.val (Ty.d8 false f7) v0),(1,AV.D3 82 (AV.cons (AV.P8 (Ty.fn 79) AO) AV.nil)),(7,AV.val f7 v7),(8,AV.val f7 (v8+(1:Int)))] [])))))) (.ret (((-1:Int),()))):=by kernel_rfl
theorem b8u:Gz.Valid Tryz.prog 95:=by
  refine r9.r7 Jl rfl rfl Tryz.func95 (c:=d9 Tryz.prog 95) rfl rfl IS rfl ?_;rintro ⟨(l:List (Int)),⟨(b:Bool),⟨⟩⟩,⟨⟩⟩ hp ⟨⟨hl,-⟩,-⟩;have hl:l.length<=9223372036854775807:=hl;have hp:b=true:=hp;refine j8 (n:=1000) Jl IS ?_;refine i8 (Vg l b) ?_;refine Reach.O8 Jl IS (λ i:Nat=>OP l b (l.length:Int) (i:Int)) (λ i=>i<=l.length/\idxOf (T4) l=wc (T4) (l.drop i) i)
    (λ i=>l.length - i) 1000 (λ _=>⟨y6 rfl,y6 rfl⟩) ?_ 0 ⟨by omega,rfl⟩
  rintro i ⟨k1,k2⟩ - ih;refine i8 (Xw ..) ?_;simp only [j7,Tree.holds,sL];refine ⟨λ h=>?_,λ h=>?_⟩
  . rw [Re (show i<l.length by omega) 0,wc] at k2;refine ⟨by omega,λ _=>⟨hp,λ _=>⟨λ c=>?_,λ c=>⟨by omega,λ _=>ih (i+1) ⟨by omega,?_⟩ (by omega)⟩⟩⟩⟩
    . show (((i:Int),()):Int×Unit)=(idxOf (T4) l,());rw [k2,if_pos (show (T4) (l.getD i 0)=true from c)]
    . rw [k2,if_neg (show ¬ (T4) (l.getD i 0)=true from λ h9=>Bool.noConfusion (Eq.trans (Eq.symm h9) c))]
  . rw [List.drop_eq_nil_of_le (by omega)] at k2;show (((-1:Int),()):Int×Unit)=(idxOf (T4) l,());rw [k2]; rfl
def HQ:r9:={ ps:=[.v (.d8 false f7),.D3 82 [.fn 79]],rs:=[.bool],pre:=λ x=>Eq (α:=Bool) x.2.1.1 true,fn:=λ x=>(List.any (α:=Int) x.1 (T4),()),out:=λ _=>() }
noncomputable def Ht:Env:={ P:=Tryz.prog,tt:=tt,E4:=[(95,Gz)],res:=[Go.ResultVar.tmp 4],rs:=[Ty.bool],ps:=[PK.v (Ty.d8 false f7),PK.D3 82 [Ty.fn 79]],D5:=[],nt:=9 }
theorem QK:C0 Ht:=C7 s9 ⟨b8u,trivial⟩
theorem Qu:D7 Ht Tryz.f81:=⟨rfl,rfl⟩
theorem Xj (x0:List Int) (x1c0:Bool):exec Ht 1000 [.code (d9 Tryz.prog 81)] (y8 HQ.ps ((x0,(x1c0,()),()))) =
  .f9 (x1c0=true) (.ret ((decide ((0:Int)<=idxOf T4 x0),()))):=by kernel_rfl
theorem b6C:HQ.Valid Tryz.prog 81:=by
  refine r9.r7 QK rfl rfl Tryz.func81 (c:=d9 Tryz.prog 81) rfl rfl Qu rfl ?_;rintro ⟨(l:List (Int)),⟨(b:Bool),⟨⟩⟩,⟨⟩⟩ hp -
  refine j8 (n:=1000) QK Qu ?_;refine i8 (Xj l b) ?_;refine ⟨hp,λ _=>?_⟩;show ((decide (0<=idxOf (T4) l),()):Bool×Unit)=(l.any (T4),());rw [Nq]
def wh (n:n9):Bool:=H6 n.1 0 255 && H6 n.2.1 0 5 && H6 n.2.2.1 0 5 && H6 n.2.2.2.1 0 16777215 && H6 n.2.2.2.2.1 0 16777215
def F0 (n:n9):Int :=
  if wh n=false then 1 else if n.2.2.2.2.2.1.any T4=true then 1 else if 200<n.2.2.2.2.2.2.1.length then 2 else 0
def Ez:r9:={ ps:=[.v zH],rs:=[f7],pre:=λ _=>True,fn:=λ x=>(F0 x.1,()),out:=λ _=>() }
noncomputable def Ig:Env:={ P:=Tryz.prog,tt:=tt,E4:=[(80,Dc),(79,De),(81,HQ)],res:=[Go.ResultVar.tmp 2],rs:=[Ty.int IntKind.i64],ps:=[PK.v (Ty.pair f7 (Ty.pair f7 (Ty.pair f7 (Ty.pair f7 (Ty.pair f7 (Ty.pair Z0 (Ty.pair Ty.str Ty.unit)))))))],D5:=[],nt:=45 }
theorem RR:C0 Ig:=C7 s9 ⟨Sq,Sv,b6C,trivial⟩
theorem Si:D7 Ig Tryz.f65:=⟨rfl,rfl⟩
theorem XR (aT:Int) (ab:Int) (ae:Int) (aa:Int) (bf:Int) (aZ:List Int) (bm:yY):exec Ig 1000 [.code (d9 Tryz.prog 65)] (y8 Ez.ps (((aT,ab,ae,aa,bf,aZ,bm,()),()))) =
  .f9 (True) (cond (!H6 aT (0:Int) (255:Int)) (.ret (((1:Int),()))) (.f9 (True) (cond (!H6 ab (0:Int) (5:Int)) (.ret (((1:Int),()))) (.f9 (True) (cond (!H6 ae (0:Int) (5:Int)) (.ret (((1:Int),()))) (.f9 (true=true/\True) (cond (!H6 aa (0:Int) (16777215:Int)) (.ret (((1:Int),()))) (.f9 (true=true/\True) (cond (!H6 bf (0:Int) (16777215:Int)) (.ret (((1:Int),()))) (.f9 ((0:Int)<=(0:Int)/\(0:Int)<=(↑6:Int)/\(↑6:Int)<=(↑6:Int)) (.f9 (true=true) (cond (List.any (o5 (0:Int) (↑6:Int) aZ) T4) (.ret (((1:Int),()))) (cond (decide ((200:Int)<(↑(List.length bm):Int))) (.ret (((2:Int),()))) (.ret (((0:Int),())))))))))))))))):=by kernel_rfl
theorem Oh {α:Type} {l:List α} {n:Nat} (h:l.length=n):o5 0 (n:Int) l=l:=by subst h; simp [o5]
theorem TE:Ez.Valid Tryz.prog 65:=by
  refine r9.r7 RR rfl rfl Tryz.func65 (c:=d9 Tryz.prog 65) rfl rfl Si rfl ?_;rintro ⟨⟨(a:Int),(b:Int),(c:Int),(d:Int),(e:Int),(v:List Int),(t:yY),⟨⟩⟩,⟨⟩⟩ - ⟨⟨-,-,-,-,-,⟨hv,-⟩,-⟩,-⟩;have hv:v.length=6:=hv;refine j8 (n:=1000) RR Si ?_;refine i8 (XR a b c d e v t) ?_;have hc:o5 0 6 v=v:=Oh hv;have bad:wh (a,b,c,d,e,v,t,())=false->(((1:Int),()):Int×Unit)=(F0 (a,b,c,d,e,v,t,()),()):=λ h=>by rw [F0,if_pos h]
  simp only [j7,Tree.holds,hc,sL];refine ⟨λ h=>bad (by simp [wh,h]),λ h1=>⟨λ h=>bad (by simp [wh,h]),λ h2=>⟨λ h=>bad (by simp [wh,h]),λ h3=>⟨λ h=>bad (by simp [wh,h]),λ h4=>⟨λ h=>bad (by simp [wh,h]),λ h5=>⟨by omega,λ _=>⟨λ h=>?_,λ h6=>⟨λ h=>?_,λ h=>?_⟩⟩⟩⟩⟩⟩⟩⟩
  all_goals have hw:wh (a,b,c,d,e,v,t,())≠false:=by simp [wh,h1,h2,h3,h4,h5]
  . show (((1:Int),()):Int×Unit)=(F0 (a,b,c,d,e,v,t,()),());rw [F0,if_neg hw,if_pos h]
  . show (((2:Int),()):Int×Unit)=(F0 (a,b,c,d,e,v,t,()),());rw [F0,if_neg hw,if_neg (λ h9=>Bool.noConfusion (Eq.trans (Eq.symm h9) h6)),if_pos (by show 200<t.length; omega)]
  . show (((0:Int),()):Int×Unit)=(F0 (a,b,c,d,e,v,t,()),());rw [F0,if_neg hw,if_neg (λ h9=>Bool.noConfusion (Eq.trans (Eq.symm h9) h6)),if_neg (by show ¬ 200<t.length; omega)]
structure HI (n:n9):Prop where
  kind:0<=n.1/\n.1<=255
  from_:0<=n.2.1/\n.2.1<=5
  to:0<=n.2.2.1/\n.2.2.1<=5
  view:0<=n.2.2.2.1/\n.2.2.2.1<=16777215
  seq:0<=n.2.2.2.2.1/\n.2.2.2.2.1<=16777215
  at_:∀ x∈n.2.2.2.2.2.1,0<=x/\x<=16777215
  text:n.2.2.2.2.2.2.1.length<=200
theorem CL {n:n9} (h:F0 n=0):HI n:=by
  unfold F0 at h;split at h
  . cases h
  split at h
  . cases h
  split at h
  . cases h
  . rename_i h1 h2 h3;have h1:wh n=true:=by cases e:wh n with|true=>rfl|false=>exact absurd e h1
    simp only [wh,Bool.and_eq_true,M8] at h1;obtain ⟨⟨⟨⟨a,b⟩,c⟩,d⟩,e⟩:=h1;refine ⟨a,b,c,d,e,λ x hx=>?_,by omega⟩;have h2:n.2.2.2.2.2.1.any T4=false:=by cases e:n.2.2.2.2.2.1.any T4 with|false=>rfl|true=>exact absurd e h2
    have:=List.any_eq_false.1 h2 x hx;rw [T4,Bool.not_eq_true,Bool.not_eq_false'] at this;exact M8.1 this
def V2 (n:Int):List Int:=[IntKind.wrap .u8 n,IntKind.wrap .u8 (n / 256),IntKind.wrap .u8 (n / 65536)]
def DV:r9:={ ps:=[.v f7],rs:=[.d8 true (.int .u8)],pre:=λ _=>True,fn:=λ x=>(V2 x.1,()),out:=λ _=>() }
noncomputable def Hq:Env:={ P:=Tryz.prog,tt:=tt,E4:=[],res:=[Go.ResultVar.tmp 2],rs:=[Ty.d8 true U8],ps:=[PK.v f7],D5:=[],nt:=12 }
theorem Qs:C0 Hq:=C7 s9 trivial
theorem QG:D7 Hq Tryz.f77:=⟨rfl,rfl⟩
theorem WT (x0:Int):exec Hq 1000 [.code (d9 Tryz.prog 77)] (y8 DV.ps ((x0,()))) =
  .f9 ((0:Int)<=(8:Int)) (.f9 ((0:Int)<=(16:Int)) (.ret ((List.set (List.set (List.set [(0:Int),(0:Int),(0:Int)] (Int.toNat (↑0:Int)) (IntKind.wrap IntKind.u8 x0)) (Int.toNat (↑1:Int)) (IntKind.wrap IntKind.u8 (x0 / (2:Int)^min (Int.toNat (8:Int)) (IntKind.bits IntKind.i64)))) (Int.toNat (↑2:Int)) (IntKind.wrap IntKind.u8 (x0 / (2:Int)^min (Int.toNat (16:Int)) (IntKind.bits IntKind.i64))),())))):=by kernel_rfl
theorem TA:DV.Valid Tryz.prog 77:=by
  refine r9.r7 Qs rfl rfl Tryz.func77 (c:=d9 Tryz.prog 77) rfl rfl QG rfl ?_;rintro ⟨(n:Int),⟨⟩⟩ - -
  refine j8 (n:=1000) Qs QG ?_;refine i8 (WT n) ?_;exact ⟨Int.le.intro 8 rfl,λ _=>⟨Int.le.intro 16 rfl,λ _=>rfl⟩⟩
def wu (x:Nat):List Int:=(le4 x).map (λ b=>(b.toNat:Int))
theorem EF (x:Nat):(UInt8.ofNat x).toNat=x % 256:=by simp
theorem Wp (x:Nat):wu x=[(x:Int) % 256,(x:Int) / 256 % 256,(x:Int) / 65536 % 256,(x:Int) / 16777216 % 256]:=by
  simp only [wu,le4,List.map_cons,List.map_nil,EF];simp only [List.cons.injEq,and_true];refine ⟨by omega,by omega,by omega,by omega⟩
theorem ZA (n:Int):V2 n=[n % 256,n / 256 % 256,n / 65536 % 256]:=rfl
def DJ:r9:={ ps:=[.v (.int .u32)],rs:=[.d8 true (.int .u8)],pre:=λ _=>True,fn:=λ x=>(wu (Int.toNat x.1),()),out:=λ _=>() }
noncomputable def Gf:Env:={ P:=Tryz.prog,tt:=tt,E4:=[(77,DV)],res:=[Go.ResultVar.tmp 2],rs:=[Ty.d8 true U8],ps:=[PK.v (Ty.int IntKind.u32)],D5:=[],nt:=11 }
theorem Pk:C0 Gf:=C7 s9 ⟨TA,trivial⟩
theorem Pa:D7 Gf Tryz.f62:=⟨rfl,rfl⟩
theorem UY (x0:Int):exec Gf 1000 [.code (d9 Tryz.prog 62)] (y8 DJ.ps ((x0,()))) =
  .f9 (True) (.f9 ((0:Int)<=(24:Int)) (.f9 (List.length (V2 (IntKind.wrap IntKind.i64 x0))+List.length (List.set [(0:Int)] (Int.toNat (↑0:Int)) (IntKind.wrap IntKind.u8 (x0 / (2:Int)^min (Int.toNat (24:Int)) (IntKind.bits IntKind.u32))))<=140737488355328/\(List.length (V2 (IntKind.wrap IntKind.i64 x0))+List.length (List.set [(0:Int)] (Int.toNat (↑0:Int)) (IntKind.wrap IntKind.u8 (x0 / (2:Int)^min (Int.toNat (24:Int)) (IntKind.bits IntKind.u32)))))*Ty.wb U8<=140737488355328) (.ret ((V2 (IntKind.wrap IntKind.i64 x0)++List.set [(0:Int)] (Int.toNat (↑0:Int)) (IntKind.wrap IntKind.u8 (x0 / (2:Int)^min (Int.toNat (24:Int)) (IntKind.bits IntKind.u32))),()))))):=by kernel_rfl
theorem Tn:DJ.Valid Tryz.prog 62:=by
  refine r9.r7 Pk rfl rfl Tryz.func62 (c:=d9 Tryz.prog 62) rfl rfl Pa rfl ?_;rintro ⟨(n:Int),⟨⟩⟩ - ⟨hr,-⟩;have hr:0<=n/\n<=4294967295:=Ar.1 hr;refine j8 (n:=1000) Pk Pa ?_;refine i8 (UY n) ?_;have hw:IntKind.wrap .i64 n=n:=U0 (G9.2 ⟨by omega,by omega⟩);simp only [j7,Tree.holds,hw,Hj,ZA,sL];refine ⟨by omega,λ _=>⟨by omega,λ _=>?_⟩⟩;obtain ⟨x,rfl⟩:=Int.eq_ofNat_of_zero_le hr.1;show (([(x:Int) % 256,(x:Int) / 256 % 256,(x:Int) / 65536 % 256,(x:Int) / 16777216 % 256],()):List Int×Unit)=(wu (Int.toNat (x:Int)),());rw [Int.toNat_natCast,Wp]
def xi (l:List Int):yY:=l.map (λ n=>UInt8.ofNat n.toNat)
theorem KO (t:yY):xi (t.map (λ b=>(b.toNat:Int)))=t:=by
  rw [xi,List.map_map];have:((λ n:Int=>UInt8.ofNat n.toNat) ∘ λ b:UInt8=>(b.toNat:Int))=id:=by
    funext b
    simp
  rw [this,List.map_id]
theorem ES (l m:List Int):xi (l++m)=xi l++xi m:=List.map_append
def Bc (n:n9):List Int:=[IntKind.wrap .u8 n.1,IntKind.wrap .u8 n.2.1,IntKind.wrap .u8 n.2.2.1]
def Z7 (n:n9):List Int:=n.2.2.2.1::n.2.2.2.2.1::n.2.2.2.2.2.1
def zb (n:n9):List Int:=Bc n++(Z7 n).flatMap V2++n.2.2.2.2.2.2.1.map (λ b=>(b.toNat:Int))
def wa (n:n9):yY:=xi (zb n)
def M7 (n:n9):yY:=wa n++le4 (vz (wa n))
def U3 (n:n9):yY×Int×Unit:=if F0 n≠0 then ([],F0 n,()) else (M7 n,0,())
def GH:r9:={ ps:=[.v zH],rs:=[.str,f7],pre:=λ _=>True,fn:=λ x=>U3 x.1,out:=λ _=>() }
noncomputable def Ba:Env:={ P:=Tryz.prog,tt:=tt,E4:=[(65,Ez),(77,DV),(62,DJ),(63,Du)],res:=[Go.ResultVar.tmp 2,Go.ResultVar.tmp 3],rs:=[Ty.str,Ty.int IntKind.i64],ps:=[PK.v (Ty.pair f7 (Ty.pair f7 (Ty.pair f7 (Ty.pair f7 (Ty.pair f7 (Ty.pair Z0 (Ty.pair Ty.str Ty.unit)))))))],D5:=[(6,[(1,none),(5,some (Ty.d8 true U8)),(30,some Is),(31,none),(32,none)])],nt:=52 }
theorem Jo:C0 Ba:=C7 s9 ⟨TE,TA,Tn,RX,trivial⟩
theorem IU:D7 Ba Tryz.f60:=⟨rfl,rfl⟩
theorem Vn (aT:Int) (ab:Int) (ae:Int) (aa:Int) (bf:Int) (aZ:List Int) (bm:yY):exec Ba 1000 [.code (d9 Tryz.prog 60)] (y8 GH.ps (((aT,ab,ae,aa,bf,aZ,bm,()),()))) =
  .f9 (True) (cond (decide (F0 (aT,ab,ae,aa,bf,aZ,bm,())≠(0:Int))) (.ret ((Array.toList (ByteArray.data (ByteArray.mk #[])),F0 (aT,ab,ae,aa,bf,aZ,bm,()),()))) (.f9 ((0:Int)<=(0:Int)/\(0:Int)<=(↑6:Int)/\(↑6:Int)<=(↑6:Int)) (.f9 (List.length (List.set (List.set [(0:Int),(0:Int)] (Int.toNat (↑0:Int)) aa) (Int.toNat (↑1:Int)) bf)+List.length (o5 (0:Int) (↑6:Int) aZ)<=140737488355328/\(List.length (List.set (List.set [(0:Int),(0:Int)] (Int.toNat (↑0:Int)) aa) (Int.toNat (↑1:Int)) bf)+List.length (o5 (0:Int) (↑6:Int) aZ))*Ty.wb f7<=140737488355328) (.ctL (g8 (d9 Tryz.prog 60) 6) (St.mk [(1,AV.ptr 1 []),(5,AV.at_ 1000005 []),(30,AV.at_ 1000030 []),(31,AV.val f7 (↑(List.length (List.set (List.set [(0:Int),(0:Int)] (Int.toNat (↑0:Int)) aa) (Int.toNat (↑1:Int)) bf++o5 (0:Int) (↑6:Int) aZ)):Int)),(32,AV.val f7 (0:Int))] [(1,i7.var (Ty.pair f7 (Ty.pair f7 (Ty.pair f7 (Ty.pair f7 (Ty.pair f7 (Ty.pair Z0 (Ty.pair Ty.str Ty.unit))))))) (aT,ab,ae,aa,bf,aZ,bm,())),(1000005,i7.own (Ty.d8 true U8) (List.set (List.set (List.set [(0:Int),(0:Int),(0:Int)] (Int.toNat (↑0:Int)) (IntKind.wrap IntKind.u8 aT)) (Int.toNat (↑1:Int)) (IntKind.wrap IntKind.u8 ab)) (Int.toNat (↑2:Int)) (IntKind.wrap IntKind.u8 ae))),(1000030,i7.own Is (List.set (List.set [(0:Int),(0:Int)] (Int.toNat (↑0:Int)) aa) (Int.toNat (↑1:Int)) bf++o5 (0:Int) (↑6:Int) aZ))]))))):=by kernel_rfl
def Jp (v31:Int) (wA:Int) (eJ:Int) (dd:Int) (dW:Int) (db:Int) (cA:Int) (bX:List Int) (aQ:yY) (cN:List Int) (eo:List Int):St:=St.mk [(1,AV.ptr 1 []),(5,AV.at_ 1000005 []),(30,AV.at_ 1000030 []),(31,AV.val f7 v31),(32,AV.val f7 wA)] [(1,i7.var (Ty.pair f7 (Ty.pair f7 (Ty.pair f7 (Ty.pair f7 (Ty.pair f7 (Ty.pair Z0 (Ty.pair Ty.str Ty.unit))))))) (eJ,dd,dW,db,cA,bX,aQ,())),(1000005,i7.own (Ty.d8 true U8) cN),(1000030,i7.own Is eo)]
theorem WS (v31:Int) (wA:Int) (eJ:Int) (dd:Int) (dW:Int) (db:Int) (cA:Int) (bX:List Int) (aQ:yY) (cN:List Int) (eo:List Int):exec Ba 1000 (.code (g8 (d9 Tryz.prog 60) 6).1::.inLoop (g8 (d9 Tryz.prog 60) 6).1::(g8 (d9 Tryz.prog 60) 6).2) (Jp v31 wA eJ dd dW db cA bX aQ cN eo) =
  cond (decide (wA<v31)) (.f9 ((0:Int)<=wA/\wA<(↑(List.length eo):Int)) (.f9 (True) (.f9 (List.length cN+List.length (V2 (List.getD eo (Int.toNat wA) (0:Int)))<=140737488355328/\(List.length cN+List.length (V2 (List.getD eo (Int.toNat wA) (0:Int))))*Ty.wb U8<=140737488355328) (.f9 (u7 IntKind.i64 (wA+(1:Int))) (.ctL (g8 (d9 Tryz.prog 60) 6) (St.mk [(1,AV.ptr 1 []),(5,AV.at_ 1000005 []),(30,AV.at_ 1000030 []),(31,AV.val f7 v31),(32,AV.val f7 (wA+(1:Int)))] [(1,i7.var (Ty.pair f7 (Ty.pair f7 (Ty.pair f7 (Ty.pair f7 (Ty.pair f7 (Ty.pair Z0 (Ty.pair Ty.str Ty.unit))))))) (eJ,dd,dW,db,cA,bX,aQ,())),(1000005,i7.own (Ty.d8 true U8) (cN++V2 (List.getD eo (Int.toNat wA) (0:Int)))),(1000030,i7.own Is eo)])))))) (.f9 (List.length cN+List.length (List.map (λ b=>(↑(UInt8.toNat b):Int)) aQ)<=140737488355328/\(List.length cN+List.length (List.map (λ b=>(↑(UInt8.toNat b):Int)) aQ))*Ty.wb U8<=140737488355328) (.f9 (True) (.f9 (True) (.f9 (List.length (cN++List.map (λ b=>(↑(UInt8.toNat b):Int)) aQ)+List.length (wu (Int.toNat (↑(vz (List.map (λ n=>UInt8.ofNat (Int.toNat n)) (cN++List.map (λ b=>(↑(UInt8.toNat b):Int)) aQ))):Int)))<=140737488355328/\(List.length (cN++List.map (λ b=>(↑(UInt8.toNat b):Int)) aQ)+List.length (wu (Int.toNat (↑(vz (List.map (λ n=>UInt8.ofNat (Int.toNat n)) (cN++List.map (λ b=>(↑(UInt8.toNat b):Int)) aQ))):Int))))*Ty.wb U8<=140737488355328) (.ret ((List.map (λ n=>UInt8.ofNat (Int.toNat n)) (cN++List.map (λ b=>(↑(UInt8.toNat b):Int)) aQ++wu (Int.toNat (↑(vz (List.map (λ n=>UInt8.ofNat (Int.toNat n)) (cN++List.map (λ b=>(↑(UInt8.toNat b):Int)) aQ))):Int))),(0:Int),()))))))):=by kernel_rfl
theorem QX (l:List Int):(l.flatMap V2).length=3*l.length:=by
  induction l with
  | nil=>rfl
  | cons x l ih=>rw [List.flatMap_cons,List.length_append,ih,V2]; simp; omega
theorem b8k:GH.Valid Tryz.prog 60:=by
  refine r9.r7 Jo rfl rfl Tryz.func60 (c:=d9 Tryz.prog 60) rfl rfl IU rfl ?_;rintro ⟨⟨(a:Int),(b:Int),(c:Int),(d:Int),(e:Int),(v:List Int),(t:yY),⟨⟩⟩,⟨⟩⟩ - ⟨⟨-,-,-,-,-,⟨hv,-⟩,-⟩,-⟩;have hv:v.length=6:=hv;obtain ⟨n,hn⟩:∃ n:n9,n=(a,b,c,d,e,v,t,()):=⟨_,rfl⟩;refine j8 (n:=1000) Jo IU ?_;refine i8 (Vn a b c d e v t) ?_;have hc:o5 0 6 v=v:=Oh hv;have h0:List.set (List.set [(0:Int),0] (Int.toNat ((0:Nat):Int)) d) (Int.toNat ((1:Nat):Int)) e++v=Z7 n:=by rw [hn]; rfl
  have uV:∀ m:List Int,List.set (List.set [(0:Int),0] (Int.toNat 0) d) (Int.toNat 1) e++m=d::e::m:=λ m=>rfl;rw [<- hn];have e6:o5 0 6 v=v:=hc;simp only [j7,Tree.holds,hc,Hj,VJ,sL];refine ⟨λ h=>?_,λ h=>⟨by omega,λ _=>⟨by omega,λ _=>?_⟩⟩⟩
  . show (([],F0 n,()):yY×Int×Unit)=U3 n;rw [U3,if_pos h]
  have aK:=CL (n:=n) (by omega);have ht:t.length<=200:=by have:=aK.text; rw [hn] at this; exact this
  have mX:(Z7 n).length=8:=by rw [hn]; show (d::e::v).length=8; simp [hv]
  suffices go:Go.Ex.Reach Ba Tryz.f60 (U3 n) () (.code (g8 (d9 Tryz.prog 60) 6).1::.inLoop (g8 (d9 Tryz.prog 60) 6).1::(g8 (d9 Tryz.prog 60) 6).2) (Jp ((Z7 n).length:Int) ((0:Nat):Int) a b c d e v t (Bc n++((Z7 n).take 0).flatMap V2) (Z7 n)) by
    subst hn;exact go
  refine Reach.O8 Jo IU (λ i:Nat=>Jp ((Z7 n).length:Int) (i:Int) a b c d e v t (Bc n++((Z7 n).take i).flatMap V2) (Z7 n)) (λ i=>i<=(Z7 n).length)
    (λ i=>(Z7 n).length - i) 1000 (λ _=>⟨y6 rfl,y6 rfl⟩) ?_ 0 (Nat.zero_le _)
  . rintro i k1 - ih;have k1:i<=(Z7 n).length:=k1;refine i8 (WS ..) ?_;have hl:(Bc n++((Z7 n).take i).flatMap V2).length=3+3*i:=by
      rw [List.length_append,QX,List.length_take];show 3+_=_;omega
    have sU:∀ x,(V2 x).length=3:=λ _=>rfl;simp only [j7,Tree.holds,Hj,hl,sU,sL];refine ⟨λ c1=>⟨by omega,λ _=>⟨by omega,λ _=>⟨by omega,λ _=>?_⟩⟩⟩,λ c1=>?_⟩
    . have:=ih (i+1) (by show i+1<=(Z7 n).length; omega) (by omega);rw [Kz (show i<(Z7 n).length by omega) 0,List.flatMap_append,<- List.append_assoc] at this;simp only [List.flatMap_cons,List.flatMap_nil,List.append_nil] at this;exact this
    . rw [List.take_of_length_le (by omega)] at hl ⊢;have hb:Bc n++(Z7 n).flatMap V2++List.map (λ b:UInt8=>(b.toNat:Int)) t=zb n:=by rw [zb,hn]
      have bR:(zb n).length=27+t.length:=by rw [<- hb,List.length_append,hl,List.length_map]; omega
      have h4:∀ x,(wu x).length=4:=λ _=>rfl;rw [hb];simp only [j7,Tree.holds,bR,h4,List.length_map,sL];refine ⟨by omega,λ _=>⟨by omega,λ _=>?_⟩⟩;show ((xi (zb n++wu (vz (xi (zb n)))),0,()):yY×Int×Unit)=U3 n;rw [U3,if_neg h,ES,M7,wu,KO];rfl
def vX (s:yY) (i:Nat):Int:=((s.getD i 0).toNat:Int)
def vi (s:yY) (k:Nat):Int:=vX s (3+3*k)+vX s (4+3*k)*256+vX s (5+3*k)*65536
def GF:r9:={ ps:=[.v f7,.rd .str],rs:=[f7],pre:=λ x=>LE.le (α:=Int) 0 x.1/\LT.lt (α:=Int) (5+3*(show Int from x.1)) (List.length x.2.1),fn:=λ x=>(vi x.2.1 (Int.toNat x.1),()),out:=λ _=>() }
noncomputable def Gs:Env:={ P:=Tryz.prog,tt:=tt,E4:=[],res:=[Go.ResultVar.tmp 3],rs:=[Ty.int IntKind.i64],ps:=[PK.v f7,PK.rd Ty.str],D5:=[],nt:=26 }
theorem OV:C0 Gs:=C7 s9 trivial
theorem PE:D7 Gs Tryz.f64:=⟨rfl,rfl⟩
theorem Vl (x0:Int) (x1:yY):exec Gs 1000 [.code (d9 Tryz.prog 64)] (y8 GF.ps ((x0,x1,()))) =
  .f9 (u7 IntKind.i64 ((3:Int)*x0)) (.f9 (u7 IntKind.i64 ((3:Int)+(3:Int)*x0)) (.f9 ((0:Int)<=(3:Int)+(3:Int)*x0/\(3:Int)+(3:Int)*x0<(↑(List.length x1):Int)) (.f9 (u7 IntKind.i64 ((3:Int)+(3:Int)*x0+(1:Int))) (.f9 ((0:Int)<=(3:Int)+(3:Int)*x0+(1:Int)/\(3:Int)+(3:Int)*x0+(1:Int)<(↑(List.length x1):Int)) (.f9 ((0:Int)<=(8:Int)) (.f9 (u7 IntKind.i64 ((3:Int)+(3:Int)*x0+(2:Int))) (.f9 ((0:Int)<=(3:Int)+(3:Int)*x0+(2:Int)/\(3:Int)+(3:Int)*x0+(2:Int)<(↑(List.length x1):Int)) (.f9 ((0:Int)<=(16:Int)) (.ret ((bOr IntKind.i64 (bOr IntKind.i64 (IntKind.wrap IntKind.i64 (↑(UInt8.toNat (List.getD x1 (Int.toNat ((3:Int)+(3:Int)*x0)) (0:UInt8))):Int)) (IntKind.wrap IntKind.i64 (IntKind.wrap IntKind.i64 (↑(UInt8.toNat (List.getD x1 (Int.toNat ((3:Int)+(3:Int)*x0+(1:Int))) (0:UInt8))):Int)*(2:Int)^min (Int.toNat (8:Int)) (IntKind.bits IntKind.i64)))) (IntKind.wrap IntKind.i64 (IntKind.wrap IntKind.i64 (↑(UInt8.toNat (List.getD x1 (Int.toNat ((3:Int)+(3:Int)*x0+(2:Int))) (0:UInt8))):Int)*(2:Int)^min (Int.toNat (16:Int)) (IntKind.bits IntKind.i64))),()))))))))))):=by kernel_rfl
theorem LW {x y:Nat} (hx:x<9223372036854775808) (hy:y<9223372036854775808):bOr .i64 (x:Int) (y:Int)=((x ||| y:Nat):Int):=by
  unfold bOr;have e1:(BitVec.ofInt (IntKind.bits .i64) (x:Int) ||| BitVec.ofInt (IntKind.bits .i64) (y:Int)).toNat=x ||| y:=by
    show (BitVec.ofInt 64 (x:Int) ||| BitVec.ofInt 64 (y:Int)).toNat=x ||| y
    rw [BitVec.toNat_or,BitVec.toNat_ofInt,BitVec.toNat_ofInt];congr 1<;>omega
  rw [e1];have:=Nat.or_lt_two_pow (n:=63) hx hy;exact U0 (G9.2 ⟨by omega,by omega⟩)
theorem MJ {x y k:Nat} (hx:x<2^k):x ||| (y*2^k)=x+y*2^k:=by
  rw [Nat.or_comm,<- Nat.shiftLeft_eq,<- Nat.shiftLeft_add_eq_or_of_lt hx,Nat.add_comm]
theorem b8n:GF.Valid Tryz.prog 64:=by
  refine r9.r7 OV rfl rfl Tryz.func64 (c:=d9 Tryz.prog 64) rfl rfl PE rfl ?_;rintro ⟨(k:Int),(s:yY),⟨⟩⟩ ⟨h0,h1⟩ ⟨-,hs,-⟩;have h0:0<=k:=h0;have h1:5+3*k<(s.length:Int):=h1;have hs:s.length<=9223372036854775807:=hs;obtain ⟨m,rfl⟩:=Int.eq_ofNat_of_zero_le h0;refine j8 (n:=1000) OV PE ?_;refine i8 (Vl (m:Int) s) ?_;simp only [j7,Tree.holds,sL];refine ⟨by omega,λ _=>⟨by omega,λ _=>⟨by omega,λ _=>⟨by omega,λ _=>⟨by omega,λ _=>⟨Int.le.intro 8 rfl,λ _=>⟨by omega,λ _=>⟨by omega,λ _=>⟨Int.le.intro 16 rfl,λ _=>?_⟩⟩⟩⟩⟩⟩⟩⟩⟩;have e1:Int.toNat (3+3*(m:Int))=3+3*m:=by omega
  have e2:Int.toNat (3+3*(m:Int)+1)=4+3*m:=by omega
  have e3:Int.toNat (3+3*(m:Int)+2)=5+3*m:=by omega
  rw [e1,e2,e3];show ((_,()):Int×Unit)=(vi s (Int.toNat (m:Int)),());rw [Int.toNat_natCast];have a1:=(s.getD (3+3*m) 0).toNat_lt;have a2:=(s.getD (4+3*m) 0).toNat_lt;have a3:=(s.getD (5+3*m) 0).toNat_lt;unfold vi vX;generalize (s.getD (3+3*m) 0).toNat=x at *
  generalize (s.getD (4+3*m) 0).toNat=y at *
  generalize (s.getD (5+3*m) 0).toNat=z at *
  have w:∀ q:Nat,q<16777216->IntKind.wrap .i64 (q:Int)=(q:Int):=λ q hq=>U0 (G9.2 ⟨by omega,by omega⟩);have p8:(2:Int)^min (Int.toNat 8) (IntKind.bits .i64)=256:=rfl;have Ub:(2:Int)^min (Int.toNat 16) (IntKind.bits .i64)=65536:=rfl;rw [w x (by omega),w y (by omega),w z (by omega),p8,Ub,show (y:Int)*256=((y*2^8:Nat):Int) by omega,show (z:Int)*65536=((z*2^16:Nat):Int) by omega,w _ (by omega),w _ (by omega),LW (by omega) (by omega),MJ (k:=8) (by omega),LW (by omega) (by omega),MJ (k:=16) (by omega)];congr 1
def xl:n9:=(0,0,0,0,0,[0,0,0,0,0,0],[],())
def parse (s:yY):n9:=(vX s 0,vX s 1,vX s 2,vi s 0,vi s 1,[vi s 2,vi s 3,vi s 4,vi s 5,vi s 6,vi s 7],s.drop 27,())
def w9 (s:yY):n9×Int×Unit :=
  if 231<s.length then (xl,2,()) else if s.length<31 then (xl,3,()) else if le4 (vz (s.take (s.length - 4)))≠s.drop (s.length - 4) then (xl,5,())
  else if F0 (parse (s.take (s.length - 4)))≠0 then (xl,F0 (parse (s.take (s.length - 4))),()) else (parse (s.take (s.length - 4)),0,())
def GJ:r9:={ ps:=[.v .str],rs:=[zH,f7],pre:=λ _=>True,fn:=λ x=>w9 x.1,out:=λ _=>() }
noncomputable def DC:Env:={ P:=Tryz.prog,tt:=tt,E4:=[(63,Du),(62,DJ),(64,GF),(65,Ez)],res:=[Go.ResultVar.cell 2 91,Go.ResultVar.tmp 3],rs:=[Ty.pair f7 (Ty.pair f7 (Ty.pair f7 (Ty.pair f7 (Ty.pair f7 (Ty.pair Z0 (Ty.pair Ty.str Ty.unit)))))),Ty.int IntKind.i64],ps:=[PK.v Ty.str],D5:=[(11,[(2,none),(6,none),(7,none),(54,none)])],nt:=72 }
theorem Jq:C0 DC:=C7 s9 ⟨RX,Tn,b8n,TE,trivial⟩
theorem IV:D7 DC Tryz.f46:=⟨rfl,rfl⟩
theorem Vp (x0:yY):exec DC 1000 [.code (d9 Tryz.prog 46)] (y8 GJ.ps ((x0,()))) =
  cond (decide ((231:Int)<(↑(List.length x0):Int))) (.ret ((((0:Int),(0:Int),(0:Int),(0:Int),(0:Int),[(0:Int),(0:Int),(0:Int),(0:Int),(0:Int),(0:Int)],[],()),(2:Int),()))) (cond (decide ((↑(List.length x0):Int)<(31:Int))) (.ret ((((0:Int),(0:Int),(0:Int),(0:Int),(0:Int),[(0:Int),(0:Int),(0:Int),(0:Int),(0:Int),(0:Int)],[],()),(3:Int),()))) (.f9 (u7 IntKind.i64 ((↑(List.length x0):Int) - (4:Int))) (.f9 ((0:Int)<=(0:Int)/\(0:Int)<=(↑(List.length x0):Int) - (4:Int)/\(↑(List.length x0):Int) - (4:Int)<=(↑(List.length x0):Int)) (.f9 (u7 IntKind.i64 ((↑(List.length x0):Int) - (4:Int))) (.f9 ((0:Int)<=(↑(List.length x0):Int) - (4:Int)/\(↑(List.length x0):Int) - (4:Int)<=(↑(List.length x0):Int)/\(↑(List.length x0):Int)<=(↑(List.length x0):Int)) (.f9 (True) (.f9 (True) (cond (decide (List.map (λ n=>UInt8.ofNat (Int.toNat n)) (wu (Int.toNat (↑(vz (o5 (0:Int) ((↑(List.length x0):Int) - (4:Int)) x0)):Int)))≠o5 ((↑(List.length x0):Int) - (4:Int)) (↑(List.length x0):Int) x0)) (.ret ((((0:Int),(0:Int),(0:Int),(0:Int),(0:Int),[(0:Int),(0:Int),(0:Int),(0:Int),(0:Int),(0:Int)],[],()),(5:Int),()))) (.f9 ((0:Int)<=(0:Int)/\(0:Int)<(↑(List.length (o5 (0:Int) ((↑(List.length x0):Int) - (4:Int)) x0)):Int)) (.f9 ((0:Int)<=(1:Int)/\(1:Int)<(↑(List.length (o5 (0:Int) ((↑(List.length x0):Int) - (4:Int)) x0)):Int)) (.f9 ((0:Int)<=(2:Int)/\(2:Int)<(↑(List.length (o5 (0:Int) ((↑(List.length x0):Int) - (4:Int)) x0)):Int)) (.f9 ((0:Int)<=(0:Int)/\(5:Int)+(3:Int)*(0:Int)<(↑(List.length (o5 (0:Int) ((↑(List.length x0):Int) - (4:Int)) x0)):Int)) (.f9 ((0:Int)<=(1:Int)/\(5:Int)+(3:Int)*(1:Int)<(↑(List.length (o5 (0:Int) ((↑(List.length x0):Int) - (4:Int)) x0)):Int)) (.f9 ((0:Int)<=(27:Int)/\(27:Int)<=(↑(List.length (o5 (0:Int) ((↑(List.length x0):Int) - (4:Int)) x0)):Int)/\(↑(List.length (o5 (0:Int) ((↑(List.length x0):Int) - (4:Int)) x0)):Int)<=(↑(List.length (o5 (0:Int) ((↑(List.length x0):Int) - (4:Int)) x0)):Int)) (.ctL (g8 (d9 Tryz.prog 46) 11) (St.mk [(2,AV.ptr 2 []),(6,AV.D3 64 (AV.cons (AV.ptr 4 []) AV.nil)),(7,AV.ptr 7 []),(54,AV.val f7 (0:Int))] [(2,i7.var (Ty.pair f7 (Ty.pair f7 (Ty.pair f7 (Ty.pair f7 (Ty.pair f7 (Ty.pair Z0 (Ty.pair Ty.str Ty.unit))))))) ((0:Int),(0:Int),(0:Int),(0:Int),(0:Int),[(0:Int),(0:Int),(0:Int),(0:Int),(0:Int),(0:Int)],[],())),(4,i7.var Ty.str (o5 (0:Int) ((↑(List.length x0):Int) - (4:Int)) x0)),(7,i7.var (Ty.pair f7 (Ty.pair f7 (Ty.pair f7 (Ty.pair f7 (Ty.pair f7 (Ty.pair Z0 (Ty.pair Ty.str Ty.unit))))))) (IntKind.wrap IntKind.i64 (↑(UInt8.toNat (List.getD (o5 (0:Int) ((↑(List.length x0):Int) - (4:Int)) x0) (Int.toNat (0:Int)) (0:UInt8))):Int),IntKind.wrap IntKind.i64 (↑(UInt8.toNat (List.getD (o5 (0:Int) ((↑(List.length x0):Int) - (4:Int)) x0) (Int.toNat (1:Int)) (0:UInt8))):Int),IntKind.wrap IntKind.i64 (↑(UInt8.toNat (List.getD (o5 (0:Int) ((↑(List.length x0):Int) - (4:Int)) x0) (Int.toNat (2:Int)) (0:UInt8))):Int),vi (o5 (0:Int) ((↑(List.length x0):Int) - (4:Int)) x0) (Int.toNat (0:Int)),vi (o5 (0:Int) ((↑(List.length x0):Int) - (4:Int)) x0) (Int.toNat (1:Int)),[(0:Int),(0:Int),(0:Int),(0:Int),(0:Int),(0:Int)],o5 (27:Int) (↑(List.length (o5 (0:Int) ((↑(List.length x0):Int) - (4:Int)) x0)):Int) (o5 (0:Int) ((↑(List.length x0):Int) - (4:Int)) x0),()))])))))))))))))))):=by kernel_rfl
def Qr (vW:Int) (dV:Int) (cS:Int) (dU:Int) (da:Int) (cz:Int) (bW:List Int) (bO:yY) (o4:yY) (cR:Int) (bu:Int) (cF:Int) (bT:Int) (bC:Int) (bs:List Int) (bn:yY):St:=St.mk [(2,AV.ptr 2 []),(6,AV.D3 64 (AV.cons (AV.ptr 4 []) AV.nil)),(7,AV.ptr 7 []),(54,AV.val f7 vW)] [(2,i7.var (Ty.pair f7 (Ty.pair f7 (Ty.pair f7 (Ty.pair f7 (Ty.pair f7 (Ty.pair Z0 (Ty.pair Ty.str Ty.unit))))))) (dV,cS,dU,da,cz,bW,bO,())),(4,i7.var Ty.str o4),(7,i7.var (Ty.pair f7 (Ty.pair f7 (Ty.pair f7 (Ty.pair f7 (Ty.pair f7 (Ty.pair Z0 (Ty.pair Ty.str Ty.unit))))))) (cR,bu,cF,bT,bC,bs,bn,()))]
theorem XP (vW:Int) (dV:Int) (cS:Int) (dU:Int) (da:Int) (cz:Int) (bW:List Int) (bO:yY) (o4:yY) (cR:Int) (bu:Int) (cF:Int) (bT:Int) (bC:Int) (bs:List Int) (bn:yY):exec DC 1000 (.code (g8 (d9 Tryz.prog 46) 11).1::.inLoop (g8 (d9 Tryz.prog 46) 11).1::(g8 (d9 Tryz.prog 46) 11).2) (Qr vW dV cS dU da cz bW bO o4 cR bu cF bT bC bs bn) =
  cond (decide (vW<(6:Int))) (.f9 (u7 IntKind.i64 ((2:Int)+vW)) (.f9 ((0:Int)<=(2:Int)+vW/\(5:Int)+(3:Int)*((2:Int)+vW)<(↑(List.length o4):Int)) (.f9 ((0:Int)<=vW/\vW<(↑6:Int)) (.f9 (u7 IntKind.i64 (vW+(1:Int))) (.ctL (g8 (d9 Tryz.prog 46) 11) (St.mk [(2,AV.ptr 2 []),(6,AV.D3 64 (AV.cons (AV.ptr 4 []) AV.nil)),(7,AV.ptr 7 []),(54,AV.val f7 (vW+(1:Int)))] [(2,i7.var (Ty.pair f7 (Ty.pair f7 (Ty.pair f7 (Ty.pair f7 (Ty.pair f7 (Ty.pair Z0 (Ty.pair Ty.str Ty.unit))))))) (dV,cS,dU,da,cz,bW,bO,())),(4,i7.var Ty.str o4),(7,i7.var (Ty.pair f7 (Ty.pair f7 (Ty.pair f7 (Ty.pair f7 (Ty.pair f7 (Ty.pair Z0 (Ty.pair Ty.str Ty.unit))))))) (cR,bu,cF,bT,bC,List.set bs (Int.toNat vW) (vi o4 (Int.toNat ((2:Int)+vW))),bn,()))])))))) (.f9 (True) (cond (decide (F0 (cR,bu,cF,bT,bC,bs,bn,())≠(0:Int))) (.ret ((((0:Int),(0:Int),(0:Int),(0:Int),(0:Int),[(0:Int),(0:Int),(0:Int),(0:Int),(0:Int),(0:Int)],[],()),F0 (cR,bu,cF,bT,bC,bs,bn,()),()))) (.ret (((cR,bu,cF,bT,bC,bs,bn,()),(0:Int),()))))):=by kernel_rfl
def atL (s:yY) (i:Nat):List Int:=(List.range 6).map (λ j=>if j<i then vi s (2+j) else 0)
theorem b8i:GJ.Valid Tryz.prog 46:=by
  refine r9.r7 Jq rfl rfl Tryz.func46 (c:=d9 Tryz.prog 46) rfl rfl IV rfl ?_;rintro ⟨(s:yY),⟨⟩⟩ - -
  refine j8 (n:=1000) Jq IV ?_;refine i8 (Vp s) ?_;simp only [j7,Tree.holds,sL];refine ⟨λ h=>?_,λ h1=>⟨λ h=>?_,λ h2=>⟨by omega,λ _=>⟨by omega,λ _=>⟨by omega,λ _=>⟨by omega,λ _=>?_⟩⟩⟩⟩⟩⟩
  . show ((xl,2,()):n9×Int×Unit)=w9 s;rw [w9,if_pos (by omega)]
  . show ((xl,3,()):n9×Int×Unit)=w9 s;rw [w9,if_neg (by omega),if_pos (by omega)]
  obtain ⟨n,hn⟩:∃ n:Nat,(s.length:Int) - 4=n:=⟨s.length - 4,by omega⟩;have sN:s.length - 4=n:=by omega
  have b1:o5 0 ((s.length:Int) - 4) s=s.take n:=by rw [hn,o5]; simp
  have b2:o5 ((s.length:Int) - 4) (s.length:Int) s=s.drop n:=by rw [hn,o5,Int.toNat_natCast,List.take_of_length_le (by rw [List.length_drop]; omega)]
  have bR:(s.take n).length=n:=by rw [List.length_take]; omega
  have b3:o5 27 (n:Int) (s.take n)=(s.take n).drop 27:=by rw [o5,List.take_of_length_le (by rw [List.length_drop,bR]; show n - 27<=((n:Int) - 27).toNat; omega)]; rfl
  have b4:List.map (λ n:Int=>UInt8.ofNat n.toNat) (wu (vz (s.take n)))=le4 (vz (s.take n)):=KO _;have hR:w9 s=if le4 (vz (s.take n))≠s.drop n then (xl,5,()) else if F0 (parse (s.take n))≠0 then (xl,F0 (parse (s.take n)),()) else (parse (s.take n),0,()):=by
    rw [w9,if_neg (by omega),if_neg (by omega),sN]
  generalize ib:s.take n=body at *
  have w:∀ q:UInt8,IntKind.wrap .i64 (q.toNat:Int)=(q.toNat:Int):=λ q=>by have:=q.toNat_lt; exact U0 (G9.2 ⟨by omega,by omega⟩)
  simp only [j7,Tree.holds,b1,b2,b4,bR,b3,w,sL];refine ⟨λ h=>?_,λ h=>⟨by omega,λ _=>⟨by omega,λ _=>⟨by omega,λ _=>⟨by omega,λ _=>⟨by omega,λ _=>⟨by omega,λ _=>?_⟩⟩⟩⟩⟩⟩⟩
  . show ((xl,5,()):n9×Int×Unit)=w9 s;rw [hR,if_pos h]
  rw [if_neg h] at hR;refine Reach.O8 Jq IV (λ i:Nat=>Qr (i:Int) 0 0 0 0 0 [0,0,0,0,0,0] [] body (vX body 0) (vX body 1) (vX body 2) (vi body 0) (vi body 1) (atL body i) (body.drop 27)) (λ i=>i<=6)
    (λ i=>6 - i) 1000 (λ _=>⟨y6 rfl,y6 rfl⟩) ?_ 0 (Nat.zero_le _)
  rintro i k1 - ih;have k1:i<=6:=k1;refine i8 (XP ..) ?_;simp only [j7,Tree.holds,bR,sL];refine ⟨λ c=>⟨by omega,λ _=>⟨by omega,λ _=>⟨by omega,λ _=>⟨by omega,λ _=>?_⟩⟩⟩⟩,λ c=>?_⟩
  . have hi:i<6:=by omega
    have:=ih (i+1) (by show i+1<=6; omega) (by omega);have e2:Int.toNat (2+(i:Int))=2+i:=by omega
    have:(atL body i).set i (vi body (2+i))=atL body (i+1):=by
      rw [atL,b4G _ _ hi,atL];refine List.map_congr_left (λ j hj=>?_);by_cases e:j=i
      . rw [if_pos e,if_pos (by omega),e]
      . rw [if_neg e];by_cases e2:j<i
        . rw [if_pos e2,if_pos (by omega)]
        . rw [if_neg e2,if_neg (by omega)]
    rw [e2,this]
    assumption
  . obtain rfl:i=6:=by omega
    have hp:(vX body 0,vX body 1,vX body 2,vi body 0,vi body 1,atL body 6,body.drop 27,())=parse body:=rfl;rw [hp];refine ⟨λ h=>?_,λ h=>?_⟩
    . show ((xl,F0 (parse body),()):n9×Int×Unit)=w9 s;rw [hR,if_pos h]
    . show ((parse body,0,()):n9×Int×Unit)=w9 s;rw [hR,if_neg h]
abbrev vP:=Int×Int×Unit
def outside (m:Int):Bool:=decide (64<=m)
def half (p o:Int):Bool:=decide (vI o<2*vI (U2 .u8 p o))
def S9 (v:vP):Int:=if v.1<0\/16777215<v.1\/v.2.1=0\/64<=v.2.1 then 1 else 0
def S5 (v:vP) (g c:Int):vP×Int×Unit :=
  if S9 v≠0 then ((0,0,()),S9 v,()) else if outside (bOr .u8 g c)=true then ((0,0,()),1,()) else if U2 .u8 g c≠0 then ((0,0,()),1,())
  else if v.1=16777215 then ((0,0,()),8,()) else if (!half (S3 .u8 v.2.1 g) v.2.1)=true then ((0,0,()),11,()) else ((v.1+1,bOr .u8 (S3 .u8 v.2.1 g) c,()),0,())
def EG:r9:={ ps:=[.v U8],rs:=[.bool],pre:=λ _=>True,fn:=λ x=>(outside x.1,()),out:=λ _=>() }
def BP:r9:={ ps:=[.v View],rs:=[f7],pre:=λ _=>True,fn:=λ x=>(S9 x.1,()),out:=λ _=>() }
def GG:r9:={ ps:=[.v U8],rs:=[f7],pre:=λ _=>True,fn:=λ x=>(vI x.1,()),out:=λ _=>() }
def Gy:r9:={ ps:=[.v U8,.v U8],rs:=[.bool],pre:=λ _=>True,fn:=λ x=>(half x.1 x.2.1,()),out:=λ _=>() }
def Bw:r9:={ ps:=[.v View,.v U8,.v U8],rs:=[View,f7],pre:=λ _=>True,fn:=λ x=>S5 x.1 x.2.1 x.2.2.1,out:=λ _=>() }
noncomputable def Jn:Env:={ P:=Tryz.prog,tt:=tt,E4:=[],res:=[Go.ResultVar.tmp 2],rs:=[Ty.bool],ps:=[PK.v U8],D5:=[],nt:=6 }
theorem Ta:C0 Jn:=C7 s9 trivial
theorem Tb:D7 Jn Tryz.f71:=⟨rfl,rfl⟩
theorem ZY (x0:Int):exec Jn 1000 [.code (d9 Tryz.prog 71)] (y8 EG.ps ((x0,()))) =
  .f9 ((0:Int)<=(6:Int)) (.ret ((decide (x0 / (2:Int)^min (Int.toNat (6:Int)) (IntKind.bits IntKind.u8)≠(0:Int)),()))):=by kernel_rfl
theorem TX:EG.Valid Tryz.prog 71:=by
  refine r9.r7 Ta rfl rfl Tryz.func71 (c:=d9 Tryz.prog 71) rfl rfl Tb rfl ?_;rintro ⟨(x0:Int),⟨⟩⟩ - ⟨h0,-⟩;refine j8 (n:=1000) Ta Tb ?_;refine i8 (ZY x0) ?_;refine ⟨by decide,λ _=>?_⟩;have h:0<=x0/\x0<=255:=h0;show (decide (x0 / 2^6≠0),())=(outside x0,());unfold outside;congr 1;exact decide_eq_decide.2 (by omega)
noncomputable def Ie:Env:={ P:=Tryz.prog,tt:=tt,E4:=[(71,EG)],res:=[Go.ResultVar.tmp 2],rs:=[Ty.int IntKind.i64],ps:=[PK.v View],D5:=[],nt:=21 }
theorem RQ:C0 Ie:=C7 s9 ⟨TX,trivial⟩
theorem Sh:D7 Ie Tryz.f70:=⟨rfl,rfl⟩
theorem XQ (aT:Int) (ab:Int):exec Ie 1000 [.code (d9 Tryz.prog 70)] (y8 BP.ps (((aT,ab,()),()))) =
  cond (decide (aT<(0:Int))) (.ret (((1:Int),()))) (cond (decide ((16777215:Int)<aT)) (.ret (((1:Int),()))) (cond (decide (ab=(0:Int))) (.ret (((1:Int),()))) (.f9 (True) (cond (outside ab) (.ret (((1:Int),()))) (.ret (((0:Int),()))))))):=by kernel_rfl
theorem TD:BP.Valid Tryz.prog 70:=by
  refine r9.r7 RQ rfl rfl Tryz.func70 (c:=d9 Tryz.prog 70) rfl rfl Sh rfl ?_;rintro ⟨⟨(x0:Int),(x1:Int),⟨⟩⟩,⟨⟩⟩ - ⟨⟨h0,h1,-⟩,-⟩;refine j8 (n:=1000) RQ Sh ?_;refine i8 (XQ x0 x1) ?_;have g0:-9223372036854775808<=x0/\x0<=9223372036854775807:=h0;have g1:0<=x1/\x1<=255:=h1;simp only [j7,Tree.holds,decide_eq_true_eq,decide_eq_false_iff_not];have key:∀ r:Int,r=S9 (x0,x1,())->((r,()):DL [Ty.int .i64])=BP.fn ((x0,x1,()),()):=by rintro r rfl; rfl
  refine ⟨λ a=>key _ ?_,λ a=>⟨λ b=>key _ ?_,λ b=>⟨λ c=>key _ ?_,λ c=>⟨trivial,λ _=>⟨λ d=>key _ ?_,λ d=>key _ ?_⟩⟩⟩⟩⟩
  all_goals simp only [S9,outside,decide_eq_true_eq,decide_eq_false_iff_not] at *
  all_goals (first|rw [if_pos (by omega)]|rw [if_neg (by omega)])
noncomputable def Gt:Env:={ P:=Tryz.prog,tt:=tt,E4:=[],res:=[Go.ResultVar.tmp 2],rs:=[Ty.int IntKind.i64],ps:=[PK.v U8],D5:=[],nt:=6 }
theorem OW:C0 Gt:=C7 s9 trivial
theorem PF:D7 Gt Tryz.f88:=⟨rfl,rfl⟩
theorem Vm (x0:Int):exec Gt 1000 [.code (d9 Tryz.prog 88)] (y8 GG.ps ((x0,()))) =
  .f9 ((0:Int)<=x0/\x0<(↑(List.length (Array.toList (ByteArray.data (ByteArray.mk (List.toArray (List.append (List.append ([0,1,1,2,1,2,2,3,1,2,2,3,2,3,3,4,1,2,2,3,2,3,3,4,2,3,3,4,3,4,4,5,1,2,2,3,2,3,3,4,2,3,3,4,3,4,4,5,2,3,3,4,3,4,4,5,3,4,4,5,4,5,5,6]:yY) ([1,2,2,3,2,3,3,4,2,3,3,4,3,4,4,5,2,3,3,4,3,4,4,5,3,4,4,5,4,5,5,6,2,3,3,4,3,4,4,5,3,4,4,5,4,5,5,6,3,4,4,5,4,5,5,6,4,5,5,6,5,6,6,7]:yY)) (List.append ([1,2,2,3,2,3,3,4,2,3,3,4,3,4,4,5,2,3,3,4,3,4,4,5,3,4,4,5,4,5,5,6,2,3,3,4,3,4,4,5,3,4,4,5,4,5,5,6,3,4,4,5,4,5,5,6,4,5,5,6,5,6,6,7]:yY) ([2,3,3,4,3,4,4,5,3,4,4,5,4,5,5,6,3,4,4,5,4,5,5,6,4,5,5,6,5,6,6,7,3,4,4,5,4,5,5,6,4,5,5,6,5,6,6,7,4,5,5,6,5,6,6,7,5,6,6,7,6,7,7,8]:yY)))))))):Int)) (.ret ((IntKind.wrap IntKind.i64 (↑(UInt8.toNat (List.getD (Array.toList (ByteArray.data (ByteArray.mk (List.toArray (List.append (List.append ([0,1,1,2,1,2,2,3,1,2,2,3,2,3,3,4,1,2,2,3,2,3,3,4,2,3,3,4,3,4,4,5,1,2,2,3,2,3,3,4,2,3,3,4,3,4,4,5,2,3,3,4,3,4,4,5,3,4,4,5,4,5,5,6]:yY) ([1,2,2,3,2,3,3,4,2,3,3,4,3,4,4,5,2,3,3,4,3,4,4,5,3,4,4,5,4,5,5,6,2,3,3,4,3,4,4,5,3,4,4,5,4,5,5,6,3,4,4,5,4,5,5,6,4,5,5,6,5,6,6,7]:yY)) (List.append ([1,2,2,3,2,3,3,4,2,3,3,4,3,4,4,5,2,3,3,4,3,4,4,5,3,4,4,5,4,5,5,6,2,3,3,4,3,4,4,5,3,4,4,5,4,5,5,6,3,4,4,5,4,5,5,6,4,5,5,6,5,6,6,7]:yY) ([2,3,3,4,3,4,4,5,3,4,4,5,4,5,5,6,3,4,4,5,4,5,5,6,4,5,5,6,5,6,6,7,3,4,4,5,4,5,5,6,4,5,5,6,5,6,6,7,4,5,5,6,5,6,6,7,5,6,6,7,6,7,7,8]:yY))))))) (Int.toNat x0) (0:UInt8))):Int),()))):=by kernel_rfl
theorem b8m:GG.Valid Tryz.prog 88:=by
  refine r9.r7 OW rfl rfl Tryz.func88 (c:=d9 Tryz.prog 88) rfl rfl PF rfl ?_;rintro ⟨(x0:Int),⟨⟩⟩ - ⟨h0,-⟩;refine j8 (n:=1000) OW PF ?_;refine i8 (Vm x0) ?_;have g0:0<=x0/\x0<=255:=h0;obtain ⟨n,rfl⟩:∃ n:Fin 256,x0=((n.val:Nat):Int):=⟨⟨x0.toNat,by omega⟩,by simp; omega⟩;refine ⟨?_,λ _=>?_⟩
  . clear h0 g0; revert n; decide +kernel
  . show ((_,()):Int×Unit)=(vI n,());clear h0 g0; revert n; decide +kernel
noncomputable def Gm:Env:={ P:=Tryz.prog,tt:=tt,E4:=[(88,GG)],res:=[Go.ResultVar.tmp 4],rs:=[Ty.bool],ps:=[PK.v U8,PK.v U8],D5:=[],nt:=13 }
theorem OO:C0 Gm:=C7 s9 ⟨b8m,trivial⟩
theorem PA:D7 Gm Tryz.f72:=⟨rfl,rfl⟩
theorem Vf (x0:Int) (x1:Int):exec Gm 1000 [.code (d9 Tryz.prog 72)] (y8 Gy.ps ((x0,x1,()))) =
  .f9 (True) (.f9 (u7 IntKind.i64 ((2:Int)*vI (U2 IntKind.u8 x0 x1))) (.f9 (True) (.ret ((decide (vI x1<(2:Int)*vI (U2 IntKind.u8 x0 x1)),()))))):=by kernel_rfl
theorem b8w:Gy.Valid Tryz.prog 72:=by
  refine r9.r7 OO rfl rfl Tryz.func72 (c:=d9 Tryz.prog 72) rfl rfl PA rfl ?_;rintro ⟨(x0:Int),(x1:Int),⟨⟩⟩ - ⟨h0,h1,-⟩;refine j8 (n:=1000) OO PA ?_;refine i8 (Vf x0 x1) ?_;have hb:∀ a b:Int,0<=vI (U2 .u8 a b)/\vI (U2 .u8 a b)<=8:=λ a b=>Nz _;refine ⟨trivial,λ _=>⟨?_,λ _=>⟨trivial,λ _=>rfl⟩⟩⟩;have:=hb x0 x1;show -9223372036854775808<=_/\_<=9223372036854775807;omega
theorem c0a {v:vP} (h:S9 v=0):0<=v.1/\v.1<=16777215/\v.2.1≠0/\v.2.1<64:=by
  unfold S9 at h;split at h
  . cases h
  . omega
noncomputable def Hp:Env:={ P:=Tryz.prog,tt:=tt,E4:=[(71,EG),(70,BP),(72,Gy)],res:=[Go.ResultVar.cell 6 57,Go.ResultVar.tmp 7],rs:=[Ty.pair f7 (Ty.pair U8 Ty.unit),Ty.int IntKind.i64],ps:=[PK.v View,PK.v U8,PK.v U8],D5:=[],nt:=52 }
theorem Qq:C0 Hp:=C7 s9 ⟨TX,TD,b8w,trivial⟩
theorem QF:D7 Hp Tryz.f53:=⟨rfl,rfl⟩
theorem WR (aT:Int) (ab:Int) (x1:Int) (x2:Int):exec Hp 1000 [.code (d9 Tryz.prog 53)] (y8 Bw.ps (((aT,ab,()),x1,x2,()))) =
  .f9 (True) (cond (decide (S9 (aT,ab,())≠(0:Int))) (.ret ((((0:Int),(0:Int),()),S9 (aT,ab,()),()))) (.f9 (True) (cond (outside (bOr IntKind.u8 x1 x2)) (.ret ((((0:Int),(0:Int),()),(1:Int),()))) (cond (decide (U2 IntKind.u8 x1 x2≠(0:Int))) (.ret ((((0:Int),(0:Int),()),(1:Int),()))) (cond (decide (aT=(16777215:Int))) (.ret ((((0:Int),(0:Int),()),(8:Int),()))) (.f9 (True) (cond (!half (S3 IntKind.u8 ab x1) ab) (.ret ((((0:Int),(0:Int),()),(11:Int),()))) (.f9 (u7 IntKind.i64 (aT+(1:Int))) (.ret (((aT+(1:Int),bOr IntKind.u8 (S3 IntKind.u8 ab x1) x2,()),(0:Int),()))))))))))):=by kernel_rfl
theorem Tz:Bw.Valid Tryz.prog 53:=by
  refine r9.r7 Qq rfl rfl Tryz.func53 (c:=d9 Tryz.prog 53) rfl rfl QF rfl ?_;rintro ⟨⟨(x0:Int),(x1:Int),⟨⟩⟩,(g:Int),(c:Int),⟨⟩⟩ - ⟨⟨h0,h1,-⟩,h2,h3,-⟩;refine j8 (n:=1000) Qq QF ?_;refine i8 (WR x0 x1 g c) ?_;have g0:-9223372036854775808<=x0/\x0<=9223372036854775807:=h0;have key:∀ r:vP×Int×Unit,S5 (x0,x1,()) g c=r->((r:DL [View,.int .i64])=Bw.fn ((x0,x1,()),g,c,())):=by rintro r rfl; rfl
  simp only [j7,Tree.holds,decide_eq_true_eq,decide_eq_false_iff_not];refine ⟨trivial,λ _=>⟨λ a=>key _ ?_,λ a=>⟨trivial,λ _=>⟨λ b=>key _ ?_,λ b=>⟨λ d=>key _ ?_,λ d=>⟨λ e=>key _ ?_,λ e=>⟨trivial,λ _=>⟨λ f=>key _ ?_,λ f=>⟨⟨?_,?_⟩,λ _=>key _ ?_⟩⟩⟩⟩⟩⟩⟩⟩⟩
  . rw [S5,if_pos a]; rfl
  . rw [S5,if_neg a,if_pos b]; rfl
  . rw [S5,if_neg a,if_neg (by simpa using b),if_pos d]; rfl
  . rw [S5,if_neg a,if_neg (by simpa using b),if_neg d,if_pos e]; rfl
  . rw [S5,if_neg a,if_neg (by simpa using b),if_neg d,if_neg e,if_pos f]; rfl
  . show -9223372036854775808<=_; omega
  . have:=(c0a (v:=(x0,x1,())) (by simpa using a)).2.1;show x0+1<=9223372036854775807; simp only at this; omega
  . rw [S5,if_neg a,if_neg (by simpa using b),if_neg d,if_neg e,if_neg (by simpa using f)]; rfl
def T5 (f:Nat->Int):Nat->Int
  | 0=>0
  | k+1=>if T5 f k≠0 then T5 f k else f k
theorem SR {f:Nat->Int} {k:Nat} (h0:T5 f k=0) (h1:f k≠0):∀ {n:Nat},k<n->T5 f n=f k
  | 0,h=>by omega
  | n+1,h=>by
    by_cases e:k=n
    . subst e; simp [T5,h0]
    . have:=SR h0 h1 (n:=n) (by omega);simp [T5,this,h1]
theorem SQ {f:Nat->Int} {k:Nat} (h0:T5 f k=0) (h1:f k=0):T5 f (k+1)=0:=by simp [T5,h0,h1]
theorem FA {f:Nat->Int}:∀ {n:Nat},T5 f n=0↔∀ k,k<n->f k=0
  | 0=>by simp [T5]
  | n+1=>by
    constructor
    . intro h k hk;have h2:T5 f n=0:=by
        by_cases e:T5 f n=0
        . exact e
        . rw [T5,if_pos e] at h; exact absurd h e
      by_cases e:k=n
      . subst e; simpa [T5,h2] using h
      . exact FA.1 h2 k (by omega)
    . intro h;exact SQ (FA.2 (λ k hk=>h k (by omega))) (h n (by omega))
abbrev w7:=Int×yY×Unit
abbrev vK:=Int×List yY×Unit
abbrev ToD:=Int×List w7×Unit
def AR:r9:={ ps:=[.v f7,.v f7,.v f7],rs:=[.bool],pre:=λ _=>True,fn:=λ x=>(inF x.1 x.2.1 x.2.2.1,()),out:=λ _=>() }
noncomputable def FV:Env:={ P:=Tryz.prog,tt:=tt,E4:=[],res:=[Go.ResultVar.tmp 6],rs:=[Ty.bool],ps:=[PK.v f7,PK.v f7,PK.v f7],D5:=[],nt:=15 }
theorem NI:C0 FV:=C7 s9 trivial
theorem NR:D7 FV Tryz.f75:=⟨rfl,rfl⟩
theorem Uh (x0:Int) (x1:Int) (x2:Int):exec FV 1000 [.code (d9 Tryz.prog 75)] (y8 AR.ps ((x0,x1,x2,()))) =
  cond (decide (x1<=x0)) (.ret ((decide (x0<=x2),()))) (.ret ((false,()))):=by kernel_rfl
theorem KS:AR.Valid Tryz.prog 75:=by
  refine r9.r7 NI rfl rfl Tryz.func75 (c:=d9 Tryz.prog 75) rfl rfl NR rfl ?_;rintro ⟨(a:Int),(b:Int),(c:Int),⟨⟩⟩ - -
  refine j8 (n:=1000) NI NR ?_;refine i8 (Uh a b c) ?_;simp only [j7,Tree.holds,sL]
  repeat' first|exact trivial|(refine And.intro ?_ ?_)|(intro _)
  all_goals (show ((_,()):Bool×Unit)=(inF a b c,()); simp [inF, *])
def F1 (s:yY):Bool:=decide ((200:Int)<s.length)
def Ah:r9:={ ps:=[.v .str],rs:=[.bool],pre:=λ _=>True,fn:=λ x=>(F1 x.1,()),out:=λ _=>() }
noncomputable def Ho:Env:={ P:=Tryz.prog,tt:=tt,E4:=[],res:=[Go.ResultVar.tmp 2],rs:=[Ty.bool],ps:=[PK.v Ty.str],D5:=[],nt:=6 }
theorem Qp:C0 Ho:=C7 s9 trivial
theorem QE:D7 Ho Tryz.f59:=⟨rfl,rfl⟩
theorem Xy (x0:yY):exec Ho 1000 [.code (d9 Tryz.prog 59)] (y8 Ah.ps ((x0,()))) =
  .ret ((decide ((200:Int)<(↑(List.length x0):Int)),())):=by kernel_rfl
theorem Fv:Ah.Valid Tryz.prog 59:=by
  refine r9.r7 Qp rfl rfl Tryz.func59 (c:=d9 Tryz.prog 59) rfl rfl QE rfl ?_;rintro ⟨(s:yY),⟨⟩⟩ - -
  refine j8 (n:=1000) Qp QE ?_;refine i8 (Xy s) ?_;rfl
def GA:r9:={ ps:=[.v (.d8 false .str),.D3 59 []],rs:=[f7],pre:=λ x=>True,fn:=λ x=>(idxOf (F1) x.1,()),out:=λ _=>() }
noncomputable def DB:Env:={ P:=Tryz.prog,tt:=tt,E4:=[(59,Ah)],res:=[Go.ResultVar.tmp 4],rs:=[Ty.int IntKind.i64],ps:=[PK.v (Ty.d8 false Ty.str),PK.D3 59 []],D5:=[(2,[(0,none),(1,none),(7,none),(8,none)])],nt:=19 }
theorem Jm:C0 DB:=C7 s9 ⟨Fv,trivial⟩
theorem IT:D7 DB Tryz.f94:=⟨rfl,rfl⟩
theorem Vh (x0:List yY):exec DB 1000 [.code (d9 Tryz.prog 94)] (y8 GA.ps ((x0,(),()))) =
  .ctL (g8 (d9 Tryz.prog 94) 2) (St.mk [(0,AV.val (Ty.d8 false Ty.str) x0),(1,AV.D3 59 AV.nil),(7,AV.val f7 (↑(List.length x0):Int)),(8,AV.val f7 (0:Int))] []):=by kernel_rfl
def OQ (v0:List yY) (v7:Int) (v8:Int):St:=St.mk [(0,AV.val (Ty.d8 false Ty.str) v0),(1,AV.D3 59 AV.nil),(7,AV.val f7 v7),(8,AV.val f7 v8)] []
theorem Xx (v0:List yY) (v7:Int) (v8:Int):exec DB 1000 (.code (g8 (d9 Tryz.prog 94) 2).1::.inLoop (g8 (d9 Tryz.prog 94) 2).1::(g8 (d9 Tryz.prog 94) 2).2) (OQ v0 v7 v8) =
  cond (decide (v8<v7)) (.f9 ((0:Int)<=v8/\v8<(↑(List.length v0):Int)) (.f9 (True) (cond (F1 (List.getD v0 (Int.toNat v8) [])) (.ret ((v8,()))) (.f9 (u7 IntKind.i64 (v8+(1:Int))) (.ctL (g8 (d9 Tryz.prog 94) 2) (St.mk [(0,AV.val (Ty.d8 false Ty.str) v0),(1,AV.D3 59 AV.nil),(7,AV.val f7 v7),(8,AV.val f7 (v8+(1:Int)))] [])))))) (.ret (((-1:Int),()))):=by kernel_rfl
theorem b8t:GA.Valid Tryz.prog 94:=by
  refine r9.r7 Jm rfl rfl Tryz.func94 (c:=d9 Tryz.prog 94) rfl rfl IT rfl ?_;rintro ⟨(l:List yY),⟨⟩,⟨⟩⟩ - ⟨⟨hl,-⟩,-⟩;have hl:l.length<=9223372036854775807:=hl;refine j8 (n:=1000) Jm IT ?_;refine i8 (Vh l ) ?_;refine Reach.O8 Jm IT (λ i:Nat=>OQ l  (l.length:Int) (i:Int)) (λ i=>i<=l.length/\idxOf (F1) l=wc (F1) (l.drop i) i)
    (λ i=>l.length - i) 1000 (λ _=>⟨y6 rfl,y6 rfl⟩) ?_ 0 ⟨by omega,rfl⟩
  rintro i ⟨k1,k2⟩ - ih;refine i8 (Xx ..) ?_;simp only [j7,Tree.holds,sL];refine ⟨λ h=>?_,λ h=>?_⟩
  . rw [Re (show i<l.length by omega) [],wc] at k2;refine ⟨by omega,λ _=>⟨λ c=>?_,λ c=>⟨by omega,λ _=>ih (i+1) ⟨by omega,?_⟩ (by omega)⟩⟩⟩
    . show (((i:Int),()):Int×Unit)=(idxOf (F1) l,());rw [k2,if_pos (show (F1) (l.getD i [])=true from c)]
    . rw [k2,if_neg (show ¬ (F1) (l.getD i [])=true from λ h9=>Bool.noConfusion (Eq.trans (Eq.symm h9) c))]
  . rw [List.drop_eq_nil_of_le (by omega)] at k2;show (((-1:Int),()):Int×Unit)=(idxOf (F1) l,());rw [k2]; rfl
def HR:r9:={ ps:=[.v (.d8 false .str),.D3 59 []],rs:=[.bool],pre:=λ x=>True,fn:=λ x=>(List.any (α:=yY) x.1 (F1),()),out:=λ _=>() }
noncomputable def Hu:Env:={ P:=Tryz.prog,tt:=tt,E4:=[(94,GA)],res:=[Go.ResultVar.tmp 4],rs:=[Ty.bool],ps:=[PK.v (Ty.d8 false Ty.str),PK.D3 59 []],D5:=[],nt:=9 }
theorem QL:C0 Hu:=C7 s9 ⟨b8t,trivial⟩
theorem Qv:D7 Hu Tryz.f76:=⟨rfl,rfl⟩
theorem Xk (x0:List yY):exec Hu 1000 [.code (d9 Tryz.prog 76)] (y8 HR.ps ((x0,(),()))) =
  .f9 (True) (.ret ((decide ((0:Int)<=idxOf F1 x0),()))):=by kernel_rfl
theorem b6A:HR.Valid Tryz.prog 76:=by
  refine r9.r7 QL rfl rfl Tryz.func76 (c:=d9 Tryz.prog 76) rfl rfl Qv rfl ?_;rintro ⟨(l:List yY),⟨⟩,⟨⟩⟩ - -
  refine j8 (n:=1000) QL Qv ?_;refine i8 (Xk l ) ?_;refine ⟨trivial,λ _=>?_⟩;show ((decide (0<=idxOf (F1) l),()):Bool×Unit)=(l.any (F1),());rw [Nq]
theorem UK:Ty.wb .str=16:=rfl
def Dt:r9:={ ps:=[.v (.d8 false .str)],rs:=[.d8 true .str],pre:=λ x=>List.length (α:=yY) x.1<=1048576,fn:=λ x=>x,out:=λ _=>() }
noncomputable def FK:Env:={ P:=Tryz.prog,tt:=tt,E4:=[],res:=[Go.ResultVar.tmp 2],rs:=[Ty.d8 true Ty.str],ps:=[PK.v (Ty.d8 false Ty.str)],D5:=[],nt:=8 }
theorem NK:C0 FK:=C7 s9 trivial
theorem NT:D7 FK Tryz.f32:=⟨rfl,rfl⟩
theorem Uj (x0:List yY):exec FK 1000 [.code (d9 Tryz.prog 32)] (y8 Dt.ps ((x0,()))) =
  .both (x0=[]) (.ret (([],()))) (.f9 ((0:Nat)+List.length x0<=140737488355328/\((0:Nat)+List.length x0)*Ty.wb Ty.str<=140737488355328) (.ret (([]++x0,())))):=by kernel_rfl
theorem RW:Dt.Valid Tryz.prog 32:=by
  refine r9.r7 NK rfl rfl Tryz.func32 (c:=d9 Tryz.prog 32) rfl rfl NT rfl ?_;rintro ⟨(l:List yY),⟨⟩⟩ hp -
  have hp:l.length<=1048576:=hp;refine j8 (n:=1000) NK NT ?_;refine i8 (Uj l) ?_;simp only [j7,Tree.holds,UK,sL];refine ⟨λ h=>?_,by omega,λ _=>rfl⟩;show (([],()):List yY×Unit)=(l,());rw [show l=[] from h]
def f00:vK:=(0,[],())
def I9 (s:vK):Int:=if inF s.1 0 16777215=false then 1 else if (16:Int)<s.2.1.length then 1 else if s.2.1.any F1=true then 2 else 0
def Bv:r9:={ ps:=[.v R4],rs:=[f7],pre:=λ _=>True,fn:=λ x=>(I9 x.1,()),out:=λ _=>() }
noncomputable def Hw:Env:={ P:=Tryz.prog,tt:=tt,E4:=[(75,AR),(76,HR)],res:=[Go.ResultVar.tmp 2],rs:=[Ty.int IntKind.i64],ps:=[PK.v R4],D5:=[],nt:=18 }
theorem QN:C0 Hw:=C7 s9 ⟨KS,b6A,trivial⟩
theorem Qx:D7 Hw Tryz.f58:=⟨rfl,rfl⟩
theorem Xo (aT:Int) (ab:List yY):exec Hw 1000 [.code (d9 Tryz.prog 58)] (y8 Bv.ps (((aT,ab,()),()))) =
  .f9 (True) (cond (!inF aT (0:Int) (16777215:Int)) (.ret (((1:Int),()))) (cond (decide ((16:Int)<(↑(List.length ab):Int))) (.ret (((1:Int),()))) (.f9 (True) (cond (List.any ab F1) (.ret (((2:Int),()))) (.ret (((0:Int),()))))))):=by kernel_rfl
theorem lnf {b:Bool} (h:b=true):¬ b=false:=by rw [h]; simp
theorem LL:Bv.Valid Tryz.prog 58:=by
  refine r9.r7 QN rfl rfl Tryz.func58 (c:=d9 Tryz.prog 58) rfl rfl Qx rfl ?_;rintro ⟨⟨(b:Int),(l:List yY),⟨⟩⟩,⟨⟩⟩ - -
  refine j8 (n:=1000) QN Qx ?_;refine i8 (Xo b l) ?_;have key:∀ {x:Int},I9 (b,l,())=x->((x,()):Int×Unit)=(I9 (b,l,()),()):=by rintro x rfl; rfl
  have hd:I9 (b,l,())=if inF b 0 16777215=false then 1 else if (16:Int)<l.length then 1 else if l.any F1=true then 2 else 0:=rfl
  simp only [j7,Tree.holds,sL];refine ⟨λ a=>key (by rw [hd,if_pos a]),λ a=>⟨λ c=>key (by rw [hd,if_neg (lnf a),if_pos c]),λ c=>⟨λ d=>key (by rw [hd,if_neg (lnf a),if_neg c,if_pos d]),λ d=>key (by rw [hd,if_neg (lnf a),if_neg c,if_neg (by rw [d]; simp)])⟩⟩⟩
theorem xR {s:vK} (h:I9 s=0):(0<=s.1/\s.1<=16777215)/\s.2.1.length<=16/\s.2.1.any F1=false:=by
  unfold I9 at h;split at h
  . cases h
  rename_i c1;split at h
  . cases h
  rename_i c2;split at h
  . cases h
  rename_i c3;exact ⟨xM.1 (Bool.not_eq_false _▸c1),by omega,by simpa using c3⟩
def K3 (s:vK) (x:yY):vK×Int×Unit :=
  if I9 s≠0 then (f00,I9 s,()) else if F1 x=true then (f00,2,()) else if (s.2.1.length:Int)=16\/16777215<=s.1+s.2.1.length then (f00,8,()) else ((s.1,s.2.1++[x],()),0,())
def GD:r9:={ ps:=[.v R4,.v .str],rs:=[Mc,f7],pre:=λ _=>True,fn:=λ x=>K3 x.1 x.2.1,out:=λ _=>() }
noncomputable def Gq:Env:={ P:=Tryz.prog,tt:=tt,E4:=[(58,Bv),(59,Ah),(32,Dt)],res:=[Go.ResultVar.cell 4 78,Go.ResultVar.tmp 5],rs:=[Ty.pair f7 (Ty.pair (Ty.d8 true Ty.str) Ty.unit),Ty.int IntKind.i64],ps:=[PK.v R4,PK.v Ty.str],D5:=[],nt:=41 }
theorem OU:C0 Gq:=C7 s9 ⟨LL,Fv,RW,trivial⟩
theorem PD:D7 Gq Tryz.f42:=⟨rfl,rfl⟩
theorem Vk (aT:Int) (ab:List yY) (x1:yY):exec Gq 1000 [.code (d9 Tryz.prog 42)] (y8 GD.ps (((aT,ab,()),x1,()))) =
  .f9 (True) (cond (decide (I9 (aT,ab,())≠(0:Int))) (.ret ((((0:Int),[],()),I9 (aT,ab,()),()))) (.f9 (True) (cond (F1 x1) (.ret ((((0:Int),[],()),(2:Int),()))) (cond (decide ((↑(List.length ab):Int)=(16:Int))) (.ret ((((0:Int),[],()),(8:Int),()))) (.f9 (u7 IntKind.i64 (aT+(↑(List.length ab):Int))) (cond (decide ((16777215:Int)<=aT+(↑(List.length ab):Int))) (.ret ((((0:Int),[],()),(8:Int),()))) (.f9 (List.length ab<=1048576) (.f9 (List.length ab+List.length (List.set [[]] (Int.toNat (↑0:Int)) x1)<=140737488355328/\(List.length ab+List.length (List.set [[]] (Int.toNat (↑0:Int)) x1))*Ty.wb Ty.str<=140737488355328) (.ret (((aT,ab++List.set [[]] (Int.toNat (↑0:Int)) x1,()),(0:Int),()))))))))))):=by kernel_rfl
theorem b8o:GD.Valid Tryz.prog 42:=by
  refine r9.r7 OU rfl rfl Tryz.func42 (c:=d9 Tryz.prog 42) rfl rfl PD rfl ?_;rintro ⟨⟨(b:Int),(l:List yY),⟨⟩⟩,(x:yY),⟨⟩⟩ - -
  refine j8 (n:=1000) OU PD ?_;refine i8 (Vk b l x) ?_;have key:∀ {y:vK×Int×Unit},K3 (b,l,()) x=y->y=K3 (b,l,()) x:=λ h=>h.symm;have hd:K3 (b,l,()) x=if I9 (b,l,())≠0 then (f00,I9 (b,l,()),()) else if F1 x=true then (f00,2,()) else if (l.length:Int)=16\/16777215<=b+l.length then (f00,8,()) else ((b,l++[x],()),0,()):=rfl
  have hw:Ty.wb .str=16:=rfl;simp only [j7,Tree.holds,hw,sL];refine ⟨λ a=>key (by rw [hd,if_pos a]<;>rfl),λ a=>?_⟩;have aK:=xR (Decidable.not_not.1 a);simp only at aK;rw [if_neg a] at hd;refine ⟨λ c=>key (by rw [hd,if_pos c]<;>rfl),λ c=>?_⟩;rw [if_neg (by rw [c]; simp)] at hd;refine ⟨λ d=>key (by rw [hd,if_pos (.inl d)]<;>rfl),λ d=>⟨by omega,λ _=>⟨λ e=>key (by rw [hd,if_pos (.inr e)]<;>rfl),λ e=>⟨by omega,λ _=>⟨⟨by omega,by omega⟩,λ _=>key ?_⟩⟩⟩⟩⟩;rw [hd,if_neg (by rintro (h|h); exact d h; exact e h)]; rfl
def ahd (b x:Int):Int:=if x - b<0 then 0 else x - b
def R9 (s:vK) (x:Int):vK×Int×Unit :=
  if I9 s≠0 then (f00,I9 s,()) else if s.1+s.2.1.length<x then (f00,1,()) else ((s.1+ahd s.1 x,s.2.1.drop (ahd s.1 x).toNat,()),0,())
def Iy:r9:={ ps:=[.v R4,.v f7],rs:=[Mc,f7],pre:=λ x=>LE.le (α:=Int) 0 x.2.1,fn:=λ x=>R9 x.1 x.2.1,out:=λ _=>() }
noncomputable def Ia:Env:={ P:=Tryz.prog,tt:=tt,E4:=[(58,Bv),(32,Dt)],res:=[Go.ResultVar.cell 4 78,Go.ResultVar.tmp 5],rs:=[Ty.pair f7 (Ty.pair (Ty.d8 true Ty.str) Ty.unit),Ty.int IntKind.i64],ps:=[PK.v R4,PK.v f7],D5:=[],nt:=38 }
theorem RM:C0 Ia:=C7 s9 ⟨LL,RW,trivial⟩
theorem Sf:D7 Ia Tryz.f86:=⟨rfl,rfl⟩
theorem XM (aT:Int) (ab:List yY) (x1:Int):exec Ia 1000 [.code (d9 Tryz.prog 86)] (y8 Iy.ps (((aT,ab,()),x1,()))) =
  .f9 (True) (cond (decide (I9 (aT,ab,())≠(0:Int))) (.ret ((((0:Int),[],()),I9 (aT,ab,()),()))) (.f9 (u7 IntKind.i64 (aT+(↑(List.length ab):Int))) (cond (decide (aT+(↑(List.length ab):Int)<x1)) (.ret ((((0:Int),[],()),(1:Int),()))) (.f9 (u7 IntKind.i64 (x1 - aT)) (.f9 (u7 IntKind.i64 (aT+if x1 - aT<(0:Int) then (0:Int) else x1 - aT)) (.f9 (((0:Int)<=if x1 - aT<(0:Int) then (0:Int) else x1 - aT)/\(if x1 - aT<(0:Int) then (0:Int) else x1 - aT)<=(↑(List.length ab):Int)/\(↑(List.length ab):Int)<=(↑(List.length ab):Int)) (.f9 (List.length (o5 (if x1 - aT<(0:Int) then (0:Int) else x1 - aT) (↑(List.length ab):Int) ab)<=1048576) (.ret (((aT+if x1 - aT<(0:Int) then (0:Int) else x1 - aT,o5 (if x1 - aT<(0:Int) then (0:Int) else x1 - aT) (↑(List.length ab):Int) ab,()),(0:Int),())))))))))):=by kernel_rfl
theorem b4V:Iy.Valid Tryz.prog 86:=by
  refine r9.r7 RM rfl rfl Tryz.func86 (c:=d9 Tryz.prog 86) rfl rfl Sf rfl ?_;rintro ⟨⟨(b:Int),(l:List yY),⟨⟩⟩,(x:Int),⟨⟩⟩ (h0:0<=x) -
  refine j8 (n:=1000) RM Sf ?_;refine i8 (XM b l x) ?_;have key:∀ {y:vK×Int×Unit},R9 (b,l,()) x=y->y=R9 (b,l,()) x:=λ h=>h.symm;have hd:R9 (b,l,()) x=if I9 (b,l,())≠0 then (f00,I9 (b,l,()),()) else if b+l.length<x then (f00,1,()) else ((b+ahd b x,l.drop (ahd b x).toNat,()),0,()):=rfl
  have ha:(if x - b<0 then 0 else x - b)=ahd b x:=rfl;have tL:0<=ahd b x/\(x<=b+l.length->ahd b x<=l.length)/\(ahd b x=0\/ahd b x=x - b):=by rw [ahd]; split<;>omega
  have jO:0<=ahd b x->o5 (ahd b x) (l.length:Int) l=l.drop (ahd b x).toNat:=λ h=>by
    rw [o5,List.take_of_length_le (by rw [List.length_drop]; omega)]
  rw [ha];generalize ahd b x=n at *
  rw [jO tL.1];simp only [j7,Tree.holds,sL];refine ⟨λ a=>key (by rw [hd,if_pos a]<;>rfl),λ a=>?_⟩;have aK:=xR (Decidable.not_not.1 a);simp only at aK;rw [if_neg a] at hd;refine ⟨by omega,λ _=>⟨λ c=>key (by rw [hd,if_pos c]<;>rfl),λ c=>?_⟩⟩;rw [if_neg c] at hd;refine ⟨by omega,λ _=>⟨by omega,λ _=>⟨by omega,λ _=>⟨?_,λ _=>key (by rw [hd]<;>rfl)⟩⟩⟩⟩;rw [List.length_drop]; omega
def xJ (b most:Int) (l:List yY):Nat->List w7
  | 0=>[]
  | i+1=>xJ b most l i++(if (i:Int)<most then [(b+i,l.getD i [],())] else [])
theorem Kv {b most:Int} {l:List yY}:∀ {i:Nat},(xJ b most l i).length<=i
  | 0=>Nat.le_refl _
  | i+1=>by
    have:=Kv (b:=b) (most:=most) (l:=l) (i:=i);rw [xJ,List.length_append]
    split<;>simp<;>omega
def wO (s:vK) (most:Int):List w7×Int×Unit:=if I9 s≠0 then ([],I9 s,()) else (xJ s.1 most s.2.1 s.2.1.length,0,())
def Iz:r9:={ ps:=[.v R4,.v f7],rs:=[.d8 true w4,f7],pre:=λ _=>True,fn:=λ x=>wO x.1 x.2.1,out:=λ _=>() }
noncomputable def Em:Env:={ P:=Tryz.prog,tt:=tt,E4:=[(58,Bv)],res:=[Go.ResultVar.tmp 4,Go.ResultVar.tmp 5],rs:=[Ty.d8 true w4,Ty.int IntKind.i64],ps:=[PK.v R4,PK.v f7],D5:=[(6,[(1,none),(2,none),(7,some (Ty.d8 true w4)),(16,none),(17,none),(18,none)])],nt:=37 }
theorem Ka:C0 Em:=C7 s9 ⟨LL,trivial⟩
theorem Kc:D7 Em Tryz.f54:=⟨rfl,rfl⟩
theorem XN (aT:Int) (ab:List yY) (x1:Int):exec Em 1000 [.code (d9 Tryz.prog 54)] (y8 Iz.ps (((aT,ab,()),x1,()))) =
  .f9 (True) (cond (decide (I9 (aT,ab,())≠(0:Int))) (.ret (([],I9 (aT,ab,()),()))) (.ctL (g8 (d9 Tryz.prog 54) 6) (St.mk [(1,AV.val f7 x1),(2,AV.ptr 2 []),(7,AV.at_ 1000007 []),(16,AV.val (Ty.d8 false Ty.str) ab),(17,AV.val f7 (↑(List.length ab):Int)),(18,AV.val f7 (0:Int))] [(2,i7.var R4 (aT,ab,())),(1000007,i7.own (Ty.d8 true w4) [])]))):=by kernel_rfl
def RN (v1:Int) (xn:List yY) (vy:Int) (uY:Int) (dV:Int) (cS:List yY) (ep:List (Int×yY×Unit)):St:=St.mk [(1,AV.val f7 v1),(2,AV.ptr 2 []),(7,AV.at_ 1000007 []),(16,AV.val (Ty.d8 false Ty.str) xn),(17,AV.val f7 vy),(18,AV.val f7 uY)] [(2,i7.var R4 (dV,cS,())),(1000007,i7.own (Ty.d8 true w4) ep)]
theorem Zp (v1:Int) (xn:List yY) (vy:Int) (uY:Int) (dV:Int) (cS:List yY) (ep:List (Int×yY×Unit)):exec Em 1000 (.code (g8 (d9 Tryz.prog 54) 6).1::.inLoop (g8 (d9 Tryz.prog 54) 6).1::(g8 (d9 Tryz.prog 54) 6).2) (RN v1 xn vy uY dV cS ep) =
  cond (decide (uY<vy)) (.f9 ((0:Int)<=uY/\uY<(↑(List.length xn):Int)) (cond (decide (uY<v1)) (.f9 (u7 IntKind.i64 (dV+uY)) (.f9 (List.length ep+List.length (List.set [((0:Int),[],())] (Int.toNat (↑0:Int)) (dV+uY,List.getD xn (Int.toNat uY) [],()))<=140737488355328/\(List.length ep+List.length (List.set [((0:Int),[],())] (Int.toNat (↑0:Int)) (dV+uY,List.getD xn (Int.toNat uY) [],())))*Ty.wb w4<=140737488355328) (.f9 (u7 IntKind.i64 (uY+(1:Int))) (.ctL (g8 (d9 Tryz.prog 54) 6) (St.mk [(1,AV.val f7 v1),(2,AV.ptr 2 []),(7,AV.at_ 1000007 []),(16,AV.val (Ty.d8 false Ty.str) xn),(17,AV.val f7 vy),(18,AV.val f7 (uY+(1:Int)))] [(2,i7.var R4 (dV,cS,())),(1000007,i7.own (Ty.d8 true w4) (ep++List.set [((0:Int),[],())] (Int.toNat (↑0:Int)) (dV+uY,List.getD xn (Int.toNat uY) [],())))]))))) (.f9 (u7 IntKind.i64 (uY+(1:Int))) (.ctL (g8 (d9 Tryz.prog 54) 6) (St.mk [(1,AV.val f7 v1),(2,AV.ptr 2 []),(7,AV.at_ 1000007 []),(16,AV.val (Ty.d8 false Ty.str) xn),(17,AV.val f7 vy),(18,AV.val f7 (uY+(1:Int)))] [(2,i7.var R4 (dV,cS,())),(1000007,i7.own (Ty.d8 true w4) ep)]))))) (.ret ((ep,(0:Int),()))):=by kernel_rfl
theorem b4U:Iz.Valid Tryz.prog 54:=by
  refine r9.r7 Ka rfl rfl Tryz.func54 (c:=d9 Tryz.prog 54) rfl rfl Kc rfl ?_;rintro ⟨⟨(b:Int),(l:List yY),⟨⟩⟩,(m:Int),⟨⟩⟩ - -
  refine j8 (n:=1000) Ka Kc ?_;refine i8 (XN b l m) ?_;have key:∀ {y:List w7×Int×Unit},wO (b,l,()) m=y->y=wO (b,l,()) m:=λ h=>h.symm;have hd:wO (b,l,()) m=if I9 (b,l,())≠0 then ([],I9 (b,l,()),()) else (xJ b m l l.length,0,()):=rfl
  have hw:Ty.wb w4=24:=rfl;simp only [j7,Tree.holds,sL];refine ⟨λ a=>key (by rw [hd,if_pos a]<;>rfl),λ a=>?_⟩;have aK:=xR (Decidable.not_not.1 a);simp only at aK;rw [if_neg a] at hd;refine Reach.O8 Ka Kc (λ i:Nat=>RN m l (l.length:Int) (i:Int) b l (xJ b m l i)) (λ i=>i<=l.length) (λ i=>l.length - i) 1000 (λ _=>⟨y6 rfl,y6 rfl⟩) ?_ 0 (by omega);rintro i k1 - ih;have k1:i<=l.length:=k1;refine i8 (Zp ..) ?_;have oq:=Kv (b:=b) (most:=m) (l:=l) (i:=i);simp only [j7,Tree.holds,hw,sL];refine ⟨λ c=>⟨by omega,λ _=>?_⟩,λ c=>key (by rw [hd,show i=l.length by omega]<;>rfl)⟩;have next:=ih (i+1) (by show i+1<=l.length; omega) (by omega)
  rw [xJ] at next
  refine ⟨λ d=>⟨by omega,λ _=>⟨⟨by omega,by omega⟩,λ _=>⟨by omega,λ _=>?_⟩⟩⟩,λ d=>⟨by omega,λ _=>?_⟩⟩
  . rw [if_pos d] at next; exact next
  . rw [if_neg d,List.append_nil] at next; exact next
def p00:w7:=(0,[],())
def t00:ToD:=(0,[],())
def zI (r:Int) (l:List w7):Nat->Int
  | 0=>r
  | i+1=>(l.getD i p00).1
def xH (r:Int) (l:List w7) (i:Nat):Int:=if (l.getD i p00).1<=zI r l i then 4 else if r+16<=(l.getD i p00).1 then 4 else if F1 (l.getD i p00).2.1=true then 4 else 0
def toE (s:ToD):Int:=if inF s.1 0 16777215=false then 1 else if (16:Int)<s.2.1.length then 2 else T5 (xH s.1 s.2.1) s.2.1.length
def FP:r9:={ ps:=[.v ToT],rs:=[f7],pre:=λ _=>True,fn:=λ x=>(toE x.1,()),out:=λ _=>() }
noncomputable def Df:Env:={ P:=Tryz.prog,tt:=tt,E4:=[(75,AR),(59,Ah)],res:=[Go.ResultVar.tmp 2],rs:=[Ty.int IntKind.i64],ps:=[PK.v ToT],D5:=[(7,[(1,none),(3,none),(19,none),(20,none),(21,none)])],nt:=45 }
theorem Ic:C0 Df:=C7 s9 ⟨KS,Fv,trivial⟩
theorem Ii:D7 Df Tryz.f96:=⟨rfl,rfl⟩
theorem Ul (aT:Int) (ab:List (Int×yY×Unit)):exec Df 1000 [.code (d9 Tryz.prog 96)] (y8 FP.ps (((aT,ab,()),()))) =
  .f9 (True) (cond (!inF aT (0:Int) (16777215:Int)) (.ret (((1:Int),()))) (cond (decide ((16:Int)<(↑(List.length ab):Int))) (.ret (((2:Int),()))) (.ctL (g8 (d9 Tryz.prog 96) 7) (St.mk [(1,AV.ptr 1 []),(3,AV.val f7 aT),(19,AV.val M6 ab),(20,AV.val f7 (↑(List.length ab):Int)),(21,AV.val f7 (0:Int))] [(1,i7.var ToT (aT,ab,()))])))):=by kernel_rfl
def NM (v3:Int) (uW:List (Int×yY×Unit)) (v20:Int) (v21:Int) (eJ:Int) (dd:List (Int×yY×Unit)):St:=St.mk [(1,AV.ptr 1 []),(3,AV.val f7 v3),(19,AV.val M6 uW),(20,AV.val f7 v20),(21,AV.val f7 v21)] [(1,i7.var ToT (eJ,dd,()))]
theorem Vr (v3:Int) (uW:List (Int×yY×Unit)) (v20:Int) (v21:Int) (eJ:Int) (dd:List (Int×yY×Unit)):exec Df 1000 (.code (g8 (d9 Tryz.prog 96) 7).1::.inLoop (g8 (d9 Tryz.prog 96) 7).1::(g8 (d9 Tryz.prog 96) 7).2) (NM v3 uW v20 v21 eJ dd) =
  cond (decide (v21<v20)) (.f9 ((0:Int)<=v21/\v21<(↑(List.length uW):Int)) (cond (decide (Prod.fst (List.getD uW (Int.toNat v21) ((0:Int),[],()))<=v3)) (.ret (((4:Int),()))) (.f9 (u7 IntKind.i64 (eJ+(16:Int))) (cond (decide (eJ+(16:Int)<=Prod.fst (List.getD uW (Int.toNat v21) ((0:Int),[],())))) (.ret (((4:Int),()))) (.f9 (True) (cond (F1 (Prod.fst (Prod.snd (List.getD uW (Int.toNat v21) ((0:Int),[],()))))) (.ret (((4:Int),()))) (.f9 (u7 IntKind.i64 (v21+(1:Int))) (.ctL (g8 (d9 Tryz.prog 96) 7) (St.mk [(1,AV.ptr 1 []),(3,AV.val f7 (Prod.fst (List.getD uW (Int.toNat v21) ((0:Int),[],())))),(19,AV.val M6 uW),(20,AV.val f7 v20),(21,AV.val f7 (v21+(1:Int)))] [(1,i7.var ToT (eJ,dd,()))]))))))))) (.ret (((0:Int),()))):=by kernel_rfl
theorem c04:FP.Valid Tryz.prog 96:=by
  refine r9.r7 Ic rfl rfl Tryz.func96 (c:=d9 Tryz.prog 96) rfl rfl Ii rfl ?_;rintro ⟨⟨(r:Int),(l:List w7),⟨⟩⟩,⟨⟩⟩ - -
  refine j8 (n:=1000) Ic Ii ?_;refine i8 (Ul r l) ?_;have key:∀ {x:Int},toE (r,l,())=x->((x,()):Int×Unit)=(toE (r,l,()),()):=by rintro x rfl; rfl
  have hd:toE (r,l,())=if inF r 0 16777215=false then 1 else if (16:Int)<l.length then 2 else T5 (xH r l) l.length:=rfl
  simp only [j7,Tree.holds,sL];refine ⟨λ a=>key (by rw [hd,if_pos a]),λ a=>?_⟩;have hr:=xM.1 a;rw [if_neg (lnf a)] at hd;refine ⟨λ a=>key (by rw [hd,if_pos a]),λ a=>?_⟩;rw [if_neg a] at hd;refine Reach.O8 Ic Ii (λ i:Nat=>NM (zI r l i) l (l.length:Int) (i:Int) r l) (λ i=>i<=l.length/\T5 (xH r l) i=0) (λ i=>l.length - i) 1000 (λ _=>⟨y6 rfl,y6 rfl⟩) ?_ 0 ⟨by omega,rfl⟩;rintro i ⟨k1,k2⟩ - ih;have k1:i<=l.length:=k1;refine i8 (Vr ..) ?_;simp only [j7,Tree.holds,sL];have hE:xH r l i=if (l.getD i (0,[],())).1<=zI r l i then 4 else if r+16<=(l.getD i (0,[],())).1 then 4 else if F1 (l.getD i (0,[],())).2.1=true then 4 else 0:=rfl
  have hB:zI r l (i+1)=(l.getD i (0,[],())).1:=rfl;have stop:xH r l i=4->i<l.length->toE (r,l,())=4:=λ h9 hi=>by rw [hd,SR k2 (by rw [h9]; decide) hi,h9]
  have next:=λ(h:xH r l i=0) (hi:i<l.length)=>ih (i+1) ⟨by omega,SQ k2 h⟩ (by omega)
  rw [hB] at next
  generalize l.getD i (0,[],())=w at *
  obtain ⟨q,x,u⟩:=w;simp only at hE next ⊢
  refine ⟨λ c=>⟨by omega,λ _=>⟨λ c1=>key (stop (by rw [hE,if_pos c1]) (by omega)),λ c1=>⟨by omega,λ _=>⟨λ c2=>key (stop (by rw [hE,if_neg c1,if_pos c2]) (by omega)),λ c2=>⟨λ c3=>key (stop (by rw [hE,if_neg c1,if_neg c2,if_pos c3]) (by omega)),λ c3=>⟨by omega,λ _=>next (by rw [hE,if_neg c1,if_neg c2,if_neg (by rw [c3]; simp)]) (by omega)⟩⟩⟩⟩⟩⟩,λ c=>key (by rw [hd,show l.length=i by omega,k2])⟩
def FZ (p:w7) (n:Int):Int:=p.1 - n
def GC:r9:={ ps:=[.v w4,.v f7],rs:=[f7],pre:=λ x=>(LE.le (α:=Int) (-100000000) x.1.1/\LE.le (α:=Int) x.1.1 100000000)/\(LE.le (α:=Int) (-100000000) x.2.1/\LE.le (α:=Int) x.2.1 100000000),fn:=λ x=>(FZ x.1 x.2.1,()),out:=λ _=>() }
noncomputable def Gp:Env:={ P:=Tryz.prog,tt:=tt,E4:=[],res:=[Go.ResultVar.tmp 4],rs:=[Ty.int IntKind.i64],ps:=[PK.v w4,PK.v f7],D5:=[],nt:=9 }
theorem OT:C0 Gp:=C7 s9 trivial
theorem PC:D7 Gp Tryz.f99:=⟨rfl,rfl⟩
theorem Vj (aT:Int) (ab:yY) (x1:Int):exec Gp 1000 [.code (d9 Tryz.prog 99)] (y8 GC.ps (((aT,ab,()),x1,()))) =
  .f9 (u7 IntKind.i64 (aT - x1)) (.ret ((aT - x1,()))):=by kernel_rfl
theorem b8q:GC.Valid Tryz.prog 99:=by
  refine r9.r7 OT rfl rfl Tryz.func99 (c:=d9 Tryz.prog 99) rfl rfl PC rfl ?_;rintro ⟨⟨(q:Int),(s:yY),⟨⟩⟩,(n:Int),⟨⟩⟩ ⟨⟨(h1:-100000000<=q),(h2:q<=100000000)⟩,(h3:-100000000<=n),(h4:n<=100000000)⟩ -
  refine j8 (n:=1000) OT PC ?_;refine i8 (Vj q s n) ?_;simp only [j7,Tree.holds,sL];exact ⟨by omega,λ _=>rfl⟩
def atF (n:Int) (l:List w7):Nat:=(l.takeWhile λ p=>decide (p.1<n)).length
theorem ML {n:Int}:∀ {l:List w7} {i:Nat},i<=l.length->(∀ k,k<i->(l.getD k p00).1<n)->(i<l.length->n<=(l.getD i p00).1)->atF n l=i
  | [],i,hi,_,_=>by simp at hi; subst hi; rfl
  | p::l,0,_,_,h=>by
    have:=h (by simp);rw [atF,List.takeWhile_cons,if_neg]
    . rfl
    . rw [decide_eq_true_eq]; show ¬ p.1<n; exact Int.not_lt.2 this
  | p::l,i+1,hi,h1,h2=>by
    have h0:p.1<n:=h1 0 (by omega);have:=ML (l:=l) (i:=i) (by simpa using hi) (λ k hk=>h1 (k+1) (by omega)) (λ hk=>h2 (by simpa using hk));rw [atF,List.takeWhile_cons,if_pos (decide_eq_true h0),List.length_cons];rw [atF] at this; omega
def sorted (l:List w7):Prop:=(∀ i j,i<j->j<l.length->(l.getD i p00).1<(l.getD j p00).1)/\(∀ i,i<l.length->-100000000<=(l.getD i p00).1/\(l.getD i p00).1<=100000000)
def Z8 (n:Int) (l:List w7):Bool:=decide (atF n l<l.length) && decide ((l.getD (atF n l) p00).1 - n=0)
def FM:r9:={ ps:=[.v (.d8 false w4),.v f7,.D3 99 []],rs:=[f7,.bool],pre:=λ x=>(List.length (α:=w7) x.1<=1000/\sorted x.1)/\(LE.le (α:=Int) (-100000000) x.2.1/\LE.le (α:=Int) x.2.1 100000000),fn:=λ x=>((atF x.2.1 x.1:Int),Z8 x.2.1 x.1,()),out:=λ _=>() }
noncomputable def Db:Env:={ P:=Tryz.prog,tt:=tt,E4:=[(99,GC)],res:=[Go.ResultVar.tmp 6,Go.ResultVar.tmp 7],rs:=[Ty.int IntKind.i64,Ty.bool],ps:=[PK.v M6,PK.v f7,PK.D3 99 []],D5:=[(3,[(0,none),(1,none),(2,none),(8,none),(9,none),(10,none)])],nt:=49 }
theorem HY:C0 Db:=C7 s9 ⟨b8q,trivial⟩
theorem Ih:D7 Db Tryz.f98:=⟨rfl,rfl⟩
theorem UP (x0:List (Int×yY×Unit)) (x1:Int):exec Db 1000 [.code (d9 Tryz.prog 98)] (y8 FM.ps ((x0,x1,(),()))) =
  .ctL (g8 (d9 Tryz.prog 98) 3) (St.mk [(0,AV.val M6 x0),(1,AV.val f7 x1),(2,AV.D3 99 AV.nil),(8,AV.val f7 (↑(List.length x0):Int)),(9,AV.val f7 (0:Int)),(10,AV.val f7 (↑(List.length x0):Int))] []):=by kernel_rfl
def Ol (v0:List (Int×yY×Unit)) (v1:Int) (v8:Int) (v9:Int) (v10:Int):St:=St.mk [(0,AV.val M6 v0),(1,AV.val f7 v1),(2,AV.D3 99 AV.nil),(8,AV.val f7 v8),(9,AV.val f7 v9),(10,AV.val f7 v10)] []
theorem UU (v0:List (Int×yY×Unit)) (v1:Int) (v8:Int) (v9:Int) (v10:Int):exec Db 1000 (.code (g8 (d9 Tryz.prog 98) 3).1::.inLoop (g8 (d9 Tryz.prog 98) 3).1::(g8 (d9 Tryz.prog 98) 3).2) (Ol v0 v1 v8 v9 v10) =
  cond (decide (v9<v10)) (.f9 (u7 IntKind.i64 (v9+v10)) (.f9 ((0:Int)<=(1:Int)) (.f9 ((0:Int)<=IntKind.wrap IntKind.i64 (IntKind.wrap IntKind.u64 (v9+v10) / (2:Int)^min (Int.toNat (1:Int)) (IntKind.bits IntKind.u64))/\IntKind.wrap IntKind.i64 (IntKind.wrap IntKind.u64 (v9+v10) / (2:Int)^min (Int.toNat (1:Int)) (IntKind.bits IntKind.u64))<(↑(List.length v0):Int)) (.f9 (((-100000000:Int)<=Prod.fst (List.getD v0 (Int.toNat (IntKind.wrap IntKind.i64 (IntKind.wrap IntKind.u64 (v9+v10) / (2:Int)^min (Int.toNat (1:Int)) (IntKind.bits IntKind.u64)))) ((0:Int),[],()))/\Prod.fst (List.getD v0 (Int.toNat (IntKind.wrap IntKind.i64 (IntKind.wrap IntKind.u64 (v9+v10) / (2:Int)^min (Int.toNat (1:Int)) (IntKind.bits IntKind.u64)))) ((0:Int),[],()))<=(100000000:Int))/\(-100000000:Int)<=v1/\v1<=(100000000:Int)) (cond (decide (FZ (List.getD v0 (Int.toNat (IntKind.wrap IntKind.i64 (IntKind.wrap IntKind.u64 (v9+v10) / (2:Int)^min (Int.toNat (1:Int)) (IntKind.bits IntKind.u64)))) ((0:Int),[],())) v1<(0:Int))) (.f9 (u7 IntKind.i64 (IntKind.wrap IntKind.i64 (IntKind.wrap IntKind.u64 (v9+v10) / (2:Int)^min (Int.toNat (1:Int)) (IntKind.bits IntKind.u64))+(1:Int))) (.ctL (g8 (d9 Tryz.prog 98) 3) (St.mk [(0,AV.val M6 v0),(1,AV.val f7 v1),(2,AV.D3 99 AV.nil),(8,AV.val f7 v8),(9,AV.val f7 (IntKind.wrap IntKind.i64 (IntKind.wrap IntKind.u64 (v9+v10) / (2:Int)^min (Int.toNat (1:Int)) (IntKind.bits IntKind.u64))+(1:Int))),(10,AV.val f7 v10)] []))) (.ctL (g8 (d9 Tryz.prog 98) 3) (St.mk [(0,AV.val M6 v0),(1,AV.val f7 v1),(2,AV.D3 99 AV.nil),(8,AV.val f7 v8),(9,AV.val f7 v9),(10,AV.val f7 (IntKind.wrap IntKind.i64 (IntKind.wrap IntKind.u64 (v9+v10) / (2:Int)^min (Int.toNat (1:Int)) (IntKind.bits IntKind.u64))))] []))))))) (cond (decide (v9<v8)) (.f9 ((0:Int)<=v9/\v9<(↑(List.length v0):Int)) (.f9 (((-100000000:Int)<=Prod.fst (List.getD v0 (Int.toNat v9) ((0:Int),[],()))/\Prod.fst (List.getD v0 (Int.toNat v9) ((0:Int),[],()))<=(100000000:Int))/\(-100000000:Int)<=v1/\v1<=(100000000:Int)) (.ret ((v9,decide (FZ (List.getD v0 (Int.toNat v9) ((0:Int),[],())) v1=(0:Int)),()))))) (.ret ((v9,false,())))):=by kernel_rfl
theorem ZR:FM.Valid Tryz.prog 98:=by
  refine r9.r7 HY rfl rfl Tryz.func98 (c:=d9 Tryz.prog 98) rfl rfl Ih rfl ?_;rintro ⟨(l:List w7),(n:Int),⟨⟩,⟨⟩⟩ ⟨⟨(h0:l.length<=1000),(hs:sorted l)⟩,(h1:-100000000<=n),(h2:n<=100000000)⟩ -
  refine j8 (n:=1000) HY Ih ?_;refine i8 (UP l n) ?_;refine Reach.O8 HY Ih (λ s:Nat×Nat=>Ol l n (l.length:Int) (s.1:Int) (s.2:Int)) (λ s=>s.1<=s.2/\s.2<=l.length/\(∀ k,k<s.1->(l.getD k p00).1<n)/\(∀ k,s.2<=k->k<l.length->n<=(l.getD k p00).1)) (λ s=>s.2 - s.1) 1000 (λ _=>⟨y6 rfl,y6 rfl⟩) ?_ (0,l.length) ⟨Nat.zero_le _,Nat.le_refl _,λ k hk=>by omega,λ k hk fk=>by omega⟩;rintro ⟨i,j⟩ ⟨k1,k2,k3,k4⟩ - ih;have k1:i<=j:=k1;have k2:j<=l.length:=k2;have k3:∀ k,k<i->(l.getD k p00).1<n:=k3;have k4:∀ k,j<=k->k<l.length->n<=(l.getD k p00).1:=k4;refine i8 (UU ..) ?_;have hh:IntKind.wrap .i64 (IntKind.wrap .u64 ((i:Int)+(j:Int)) / 2^min (Int.toNat 1) (IntKind.bits .u64))=(((i+j) / 2:Nat):Int):=by
    rw [U0 (k:=.u64) (by show (0:Int)<=_/\_<=(18446744073709551615:Int); omega)];rw [show (2:Int)^min (Int.toNat 1) (IntKind.bits .u64)=2 from rfl];rw [U0 (k:=.i64) (by show (-9223372036854775808:Int)<=_/\_<=(9223372036854775807:Int); omega)];omega
  rw [show ((i,j):Nat×Nat).1=i from rfl,show ((i,j):Nat×Nat).2=j from rfl,hh];simp only [j7,Tree.holds,sL];refine ⟨λ c=>⟨by omega,λ _=>⟨by omega,λ _=>?_⟩⟩,λ c=>?_⟩
  . have hm:(i+j) / 2<l.length:=by omega
    have lV:=hs.2 _ hm;have e0:l.getD ((i+j) / 2) (0,[],())=l.getD ((i+j) / 2) p00:=rfl;rw [e0];refine ⟨⟨by omega,by omega⟩,λ _=>⟨⟨lV,h1,h2⟩,λ _=>⟨λ d=>⟨by omega,λ _=>?_⟩,λ d=>?_⟩⟩⟩
    . have d:(l.getD ((i+j) / 2) p00).1 - n<0:=d;exact ih ((i+j) / 2+1,j) ⟨by show (i+j) / 2+1<=j; omega,k2,λ k hk=>(by
        have hk:k<(i+j) / 2+1:=hk;by_cases e:k=(i+j) / 2
        . subst e; omega
        . have:=hs.1 k ((i+j) / 2) (by omega) hm; omega),k4⟩ (by show j - ((i+j) / 2+1)<j - i; omega)
    . have d:¬ (l.getD ((i+j) / 2) p00).1 - n<0:=d;exact ih (i,(i+j) / 2) ⟨by show i<=(i+j) / 2; omega,by show (i+j) / 2<=l.length; omega,k3,λ k hk fk=>(by
        have hk:(i+j) / 2<=k:=hk;by_cases e:k=(i+j) / 2
        . subst e; omega
        . have:=hs.1 ((i+j) / 2) k (by omega) fk; omega)⟩ (by show (i+j) / 2 - i<j - i; omega)
  . have e:j=i:=by omega
    subst e;have jQ:atF n l=j:=ML k2 k3 (λ h=>k4 j (Nat.le_refl _) h);have key:∀ {x:Bool},Z8 n l=x->(((j:Int),x,()):Int×Bool×Unit)=((atF n l:Int),Z8 n l,()):=by rintro x rfl; rw [jQ]
    have hk:Z8 n l=(decide (j<l.length) && decide ((l.getD j p00).1 - n=0)):=by rw [Z8,jQ]
    refine ⟨λ d=>⟨by omega,λ _=>⟨⟨hs.2 j (by omega),h1,h2⟩,λ _=>key ?_⟩⟩,λ d=>key ?_⟩
    . rw [hk,decide_eq_true (show j<l.length by omega),Bool.true_and]; rfl
    . rw [hk,decide_eq_false (show ¬ j<l.length by omega)]; rfl
theorem Pp {a b:w7}:eqD w4 a b=true↔a=b:=by
  obtain ⟨a1,a2,a3⟩:=a;obtain ⟨b1,b2,b3⟩:=b;show (decide (a1=b1) && (decide ((a2:yY)=b2) && decide ((a3:Unit)=b3)))=true↔_;rw [Bool.and_eq_true,Bool.and_eq_true,decide_eq_true_eq,decide_eq_true_eq];constructor
  . rintro ⟨rfl,rfl,_⟩; rfl
  . intro h; cases h; exact ⟨rfl,rfl,by simp⟩
theorem YW {a b:w7} (d:eqD w4 a b=false):¬ a=b:=λ h=>by rw [Pp.2 h] at d; cases d
end Go.Proofs.YtijlnmgondibnaaGreatDoor
namespace Go.Proofs.YtijlnmgondibnaaGreatDoor
open Go.Ex
def E9:List w7->Int->Int×List w7×List yY
  | [],n=>(n,[],[])
  | p::l,n=>if p.1=n then ((E9 l (n+1)).1,(E9 l (n+1)).2.1,p.2.1::(E9 l (n+1)).2.2) else (n,p::l,[])
def yf (b:Int):List w7->Prop
  | []=>True
  | p::l=>b<p.1/\yf p.1 l
theorem a91 {b:Int}:∀ {l:List w7} {p:w7},yf b l->p∈l->b<p.1
  | q::l,p,⟨h1,h2⟩,hp=>by
    rcases List.mem_cons.1 hp with rfl|hp
    . exact h1
    . have:=a91 h2 hp; omega
theorem NF:∀ {l:List w7} {n:Int},yf (n - 1) l->yf (E9 l n).1 (E9 l n).2.1/\(E9 l n).1=n+(E9 l n).2.2.length/\(E9 l n).2.1.length+(E9 l n).2.2.length=l.length/\(∀ p∈(E9 l n).2.1,p∈l)
  | [],n,_=>⟨trivial,by simp [E9],by simp [E9],by simp [E9]⟩
  | p::l,n,⟨h1,h2⟩=>by
    rw [E9];by_cases e:p.1=n
    . rw [if_pos e];obtain ⟨a1,a2,a3,a4⟩:=NF (l:=l) (n:=n+1) (by rw [show n+1 - 1=p.1 by omega]; exact h2);refine ⟨a1,?_,?_,λ q hq=>List.mem_cons_of_mem _ (a4 q hq)⟩
      . show (E9 l (n+1)).1=n+((p.2.1::(E9 l (n+1)).2.2).length:Int);rw [List.length_cons]; omega
      . show (E9 l (n+1)).2.1.length+(p.2.1::(E9 l (n+1)).2.2).length=(p::l).length;rw [List.length_cons,List.length_cons]; omega
    . rw [if_neg e];exact ⟨⟨by show n<p.1; omega,h2⟩,by simp,by simp,λ q hq=>hq⟩
theorem PZ {c:Int}:∀ {l:List w7} {b:Int},yf b l->(∀ p∈l,p.1<c)->l≠[]->(l.length:Int)+b<c
  | [p],b,⟨h1,_⟩,h,_=>by have:=h p List.mem_cons_self; show ((1:Nat):Int)+b<c; omega
  | p::x::l,b,⟨h1,h2⟩,h,_=>by
    have:=PZ (l:=x::l) h2 (λ y hy=>h y (List.mem_cons_of_mem _ hy)) (by simp);rw [List.length_cons]; omega
def wZ (p:w7) (l:List w7):List w7:=l.take (atF p.1 l)++p::l.drop (atF p.1 l)
theorem XV {p y:w7} {l:List w7}:y∈wZ p l↔y=p\/y∈l:=by
  have h:y∈l↔y∈l.take (atF p.1 l)\/y∈l.drop (atF p.1 l):=by rw [<- List.mem_append,List.take_append_drop]
  rw [wZ,List.mem_append,List.mem_cons,h];constructor
  . rintro (a|a|a)
    . exact .inr (.inl a)
    . exact .inl a
    . exact .inr (.inr a)
  . rintro (a|a|a)
    . exact .inr (.inl a)
    . exact .inl a
    . exact .inr (.inr a)
theorem XU {p:w7} {l:List w7}:(wZ p l).length=l.length+1:=by
  rw [wZ,List.length_append,List.length_cons,List.length_take,List.length_drop]; omega
theorem Cd:∀ {l:List w7} {b:Int},yf b l↔∀ i,i<l.length->zI b l i<(l.getD i p00).1
  | [],b=>⟨λ _ i hi=>absurd hi (Nat.not_lt_zero _),λ _=>trivial⟩
  | p::l,b=>by
    constructor
    . rintro ⟨h1,h2⟩ i hi
      match i,hi with
      | 0,_=>exact h1
      | 1,hi=>exact (Cd.1 h2) 0 (by simpa using hi)
      | i+2,hi=>exact (Cd.1 h2) (i+1) (by rw [List.length_cons] at hi; omega)
    . intro h;refine ⟨h 0 (by simp),Cd.2 λ i hi=>?_⟩
      match i,hi with
      | 0,hi=>exact h 1 (by simpa using hi)
      | i+1,hi=>exact h (i+2) (by rw [List.length_cons]; omega)
structure xp (r:Int) (l:List w7):Prop where
  rg:0<=r/\r<=16777215
  len:l.length<=16
  up:yf r l
  b:∀ p∈l,p.1<r+16/\F1 p.2.1=false
theorem Iv {r:Int} {l:List w7} {u:Unit}:toE (r,l,u)=0↔xp r l:=by
  have hd:toE (r,l,u)=if inF r 0 16777215=false then 1 else if (16:Int)<l.length then 2 else T5 (xH r l) l.length:=rfl
  rw [hd];constructor
  . intro h;split at h
    . cases h
    rename_i c1;split at h
    . cases h
    rename_i c2;have h:=FA.1 h;have hE:∀ i,i<l.length->zI r l i<(l.getD i p00).1/\(l.getD i p00).1<r+16/\F1 (l.getD i p00).2.1=false:=λ i hi=>by
      have:=h i hi;unfold xH at this;split at this
      . cases this
      split at this
      . cases this
      split at this
      . cases this
      rename_i d1 d2 d3;exact ⟨by omega,by omega,by simpa using d3⟩
    refine ⟨xM.1 (Bool.not_eq_false _▸c1),by omega,Cd.2 λ i hi=>(hE i hi).1,λ p hp=>?_⟩;obtain ⟨i,hi,rfl⟩:=List.getElem_of_mem hp;have:=hE i hi;rw [List.getD_eq_getElem?_getD,List.getElem?_eq_getElem hi] at this;exact this.2
  . intro h;rw [if_neg (by rw [xM.2 h.rg]; simp),if_neg (by have:=h.len; omega)];refine FA.2 λ i hi=>?_;have h1:=Cd.1 h.up i hi;obtain ⟨h2,h3⟩:=h.b (l.getD i p00) (EI hi);rw [xH,if_neg (by omega),if_neg (by omega),if_neg (by rw [h3]; simp)]
theorem b7Y {l:List w7}:∀ {b:Int},yf b l->∀ i j,i<j->j<l.length->(l.getD i p00).1<(l.getD j p00).1:=by
  induction l with
  | nil=>intro b _ i j _ h; exact absurd h (Nat.not_lt_zero _)
  | cons p l ih =>
    rintro b ⟨h1,h2⟩ i j bS hj
    match i,j,bS,hj with
    | 0,j+1,_,hj=>exact a91 h2 (EI (by simpa using hj))
    | i+1,j+1,bS,hj=>exact ih h2 i j (by omega) (by simpa using hj)
end Go.Proofs.YtijlnmgondibnaaGreatDoor
namespace Go.Proofs.YtijlnmgondibnaaGreatDoor
open Go.Ex
def E2 (s:ToD) (p:w7):ToD×List yY×Int×Unit :=
  if toE s≠0 then (t00,[],toE s,()) else if inF p.1 0 16777214=false then (t00,[],1,()) else if F1 p.2.1=true then (t00,[],2,()) else
  if p.1<s.1\/s.1+16<=p.1\/Z8 p.1 s.2.1=true then (s,[],0,()) else if s.1<p.1 then ((s.1,wZ p s.2.1,()),[],0,()) else
  (((E9 s.2.1 (s.1+1)).1,(E9 s.2.1 (s.1+1)).2.1,()),p.2.1::(E9 s.2.1 (s.1+1)).2.2,0,())
theorem JA {r:Int} {l:List w7} {p:w7} (h:xp r l) (h1:0<=p.1/\p.1<=16777214) (h2:F1 p.2.1=false):E2 (r,l,()) p =
    if p.1<r\/r+16<=p.1\/Z8 p.1 l=true then ((r,l,()),[],0,()) else if r<p.1 then ((r,wZ p l,()),[],0,()) else
    (((E9 l (r+1)).1,(E9 l (r+1)).2.1,()),p.2.1::(E9 l (r+1)).2.2,0,()):=by
  rw [E2,if_neg (by simp [Iv.2 h]),if_neg (by rw [xM.2 h1]; simp),if_neg (by rw [h2]; simp)]
theorem YF {s:ToD} {p:w7} (h:(E2 s p).2.2.1≠0):(E2 s p).2.1=[]:=by
  by_cases c1:toE s≠0
  . rw [E2,if_pos c1]
  by_cases c2:inF p.1 0 16777214=false
  . rw [E2,if_neg c1,if_pos c2]
  by_cases c3:F1 p.2.1=true
  . rw [E2,if_neg c1,if_neg c2,if_pos c3]
  by_cases c4:p.1<s.1\/s.1+16<=p.1\/Z8 p.1 s.2.1=true
  . rw [E2,if_neg c1,if_neg c2,if_neg c3,if_pos c4]
  by_cases c5:s.1<p.1
  . rw [E2,if_neg c1,if_neg c2,if_neg c3,if_neg c4,if_pos c5]
  . rw [E2,if_neg c1,if_neg c2,if_neg c3,if_neg c4,if_neg c5] at h; exact absurd rfl h
end Go.Proofs.YtijlnmgondibnaaGreatDoor
set_option linter.unusedVariables false
set_option linter.unusedSimpArgs false
namespace Go.Proofs.YtijlnmgondibnaaGreatDoor
open Go Go.Shelf Go.RowKit Go.Lib
theorem b5j {P:Program} (w:World) {o:Oper} {a:Act} {K:Act->World->Prop} {Q:Exit->Act->World->Prop} (d s:Operand) (t t':TypeId)
    (ho:o.op=.call { callee:=.builtin .copy,args:=#[d,s],argTypes:=#[t,t'] }) (v u:Value) (hd:a.eval d=v) (hs:a.eval s=u) {v':Value} {w':World}
    (hr:(Builtin.copy_ #[t,t'] o.type #[v,u]).run P w=.ok v' w') (h:K (a.put o.dst v') w'):o.wp P a w K Q:=by
  unfold Oper.wp execOp;simp only [ho,resolve,invoke,builtin,Sem.run_bind,Sem.run_pure,Result.andThen_ok,List.map_toArray,List.map_cons,List.map_nil,hd,hs,hr];exact h
theorem TY {P:Program} (w:World) {ops:Array Oper} {rest:List Oper} {o:Oper} {a:Act} {Q:Exit->Act->World->Prop} (qf:o.guard=none) (d s:Operand) (t t':TypeId)
    (ho:o.op=.call { callee:=.builtin .copy,args:=#[d,s],argTypes:=#[t,t'] }) (v u:Value) (hd:a.eval d=v) (hs:a.eval s=u) {v':Value} {w':World}
    (hr:(Builtin.copy_ #[t,t'] o.type #[v,u]).run P w=.ok v' w') (h:wpList P ops Q rest (a.put o.dst v') w'):wpList P ops Q (o::rest) a w :=
  wpList_plain qf λ _ hK=>b5j w d s t t' ho v u hd hs hr (hK _ _ h)
theorem TW {P:Program} {ops:Array Oper} {o:Oper} {a:Act} {w:World} {K:Act->World->Prop} {Q:Exit->Act->World->Prop} {E:Prop}
    (hg:o.guard=none) (d x:Operand) (dT sT:TypeId) (cB:o.op=Op.call { callee:=Callee.builtin Builtin.copy,args:=#[d,x],argTypes:=#[dT,sT] })
    (v u:Value) (hd:a.eval d=v) (hx:a.eval x=u) {v':Value} {w':World} (hr:(Builtin.copy_ #[dT,sT] o.type #[v,u]).run P w=.ok v' w') (hK:K (a.put o.dst v') w') :
    if Region.wanted o (yielded ops a.tmps)=true then Oper.wp P o a w K Q else E:=by
  have hw:Region.wanted o (yielded ops a.tmps)=true:=by simp [Region.wanted,hg]
  rw [if_pos hw];unfold Oper.wp;simp [execOp,cB,resolve,invoke,builtin,hd,hx,hr,Result.andThen];exact hK
theorem FG (b:Nat) (vs:List Value) (o:Nat) (w:World) (h:∀ j,j<vs.length->(w.cell? ⟨b,o+j,none⟩).isSome=true) (k:Nat) (hk:(w.cell? ⟨b,k,none⟩).isSome=true):((w.setCells b o vs).cell? ⟨b,k,none⟩).isSome=true:=by
  by_cases dz:o<=k/\k<o+vs.length
  . have:=World.cell?_setCells_in b vs o w h (k - o) (by omega);rw [show o+(k - o)=k by omega] at this;rw [this]; rfl
  . rw [World.cell?_setCells_out b vs o w ⟨b,k,none⟩ (λ _ _=>by show k<o\/o+vs.length<=k; omega)];exact hk
theorem Fq {P:Program} (w:World) (dT sT ty elem:TypeId) (k b o dLen dCap:Nat) (a:Addr) (sLen sCap:Nat) (cs:List Value)
    (hu:P.underlying dT=some (.slice elem)) (hs:(P.info? elem).map (·.size)=some k) (hn:cs.length=Nat.min sLen dLen*k)
    (eL:∀ j v,cs[j]?=some v->w.cell? (a.add j)=some v) (hc:∀ j,j<cs.length->(w.cell? ⟨b,o+j,none⟩).isSome=true) (hf:∀ j,j<cs.length->w.frozen? ⟨b,o+j,none⟩=false) (h1:∀ v∈cs,v.oneCell'=true) :
    (Builtin.copy_ #[dT,sT] ty #[.slice (some ⟨b,o,none⟩) dLen dCap,.slice (some a) sLen sCap]).run P w=.ok (goInt (Nat.min sLen dLen)) (w.setCells b o cs):=by
  have hl:=run_loadCells_list (P:=P) w a cs eL;have bP:=run_storeCells_cells (P:=P) b o cs 0 w (by simpa using hc) (by simpa using hf) h1;cases hq:P.info? elem with
  | none=>simp [hq] at hs
  | some i =>
    have hi:i.size=k:=by simpa [hq] using hs
    rw [hn] at hl;simp [Builtin.copy_,run_underlying hu,Builtin.lenOf,Builtin.firstCells,sizeOf,typeInfo,hq,hi,hl,bP]
set_option maxHeartbeats 4000000 in
set_option maxRecDepth 100000 in
theorem Yz (b off n c i vb voff vc:Nat) (cs vs:List Value) (w:World) (hi:i<n) (cy:n+1<=c) (tG:c<=9223372036854775807) (oi:vb≠b)
    (cM:cs.length=n*2) (iD:vs.length=2)
    (cI:∀ j v,cs[j]?=some v->w.cell? ⟨b,off+j,none⟩=some v) (fG:∀ j,j<(n+1)*2->(w.cell? ⟨b,off+j,none⟩).isSome=true) (rB:∀ j,j<(n+1)*2->w.frozen? ⟨b,off+j,none⟩=false)
    (jc:∀ j v,vs[j]?=some v->w.cell? ⟨vb,voff+j,none⟩=some v) (lO:∀ v∈cs,v.oneCell'=true) (qX:∀ v∈vs,v.oneCell'=true)
    (tA tB:TypeId) (kA kB:Nat) (ss:w.shape? vb=some (tA,kA)) (sr:w.shape? b=some (tB,kB)) (sX:kB≠0) (lz:w.frozen? ⟨vb,voff,none⟩=false) (qi:w.frozen? ⟨vb,kA,none⟩=false) :
    Calls Tryz.prog 100 #[.slice (some ⟨b,off,none⟩) n c,.int .i64 i,.slice (some ⟨vb,voff,none⟩) 1 vc] w λ e w' =>
      e=.returned (.slice (some ⟨b,off,none⟩) (n+1) c)/\w'=(w.drew.setCells b (off+(i+1)*2) (cs.drop (i*2))).setCells b (off+i*2) vs:=by
  have ml:¬ ((i:Int)=(n:Int)):=by omega
  have bc:(Tryz.prog.info? 104).map (·.size)=some 2:=by kernel_rfl
  have oy:∀ lb cb,(callFunc 111 #[.slice (some ⟨vb,voff,none⟩) 1 vc,.slice (some ⟨b,off+(i+1)*2,none⟩) lb cb]).run Tryz.prog w=.ok (.value (.bool false)) w:=λ lb cb=>by
    rw [run_callFunc_extern Tryz.func111 (by kernel_rfl) (by kernel_rfl) (by kernel_rfl) (e:=Extern.SlicesOverlaps.overlaps #[81,81] #[4]) (by kernel_rfl),
      Lib.run_overlaps_apart w 81 4 104 Tryz.underlying81 2 Tryz.sizeOf104 ⟨vb,voff,none⟩ ⟨b,off+(i+1)*2,none⟩ 1 vc lb cb oi tA tB kA kB ss sr sX lz qi]
    rfl
  have iV:(cs.drop (i*2)).length=(n - i)*2:=by rw [List.length_drop,cM]; omega
  have jW:IntKind.i64.wrap ((i:Int)+(1:Int))=(i:Int)+(1:Int):=by rw [IntKind.wrap_i64]; omega
  have dK:(0:Int)<=(i:Int)+(1:Int):=by omega
  have dz:i<=n:=by omega
  have rh:((i:Int)+(1:Int)).toNat=i+1:=by omega
  have fE:¬ (c=i+1):=by omega
  have qF:(i:Int)<=(n:Int)+(1:Int):=by omega
  have uQ:¬ (c=i):=by omega
  have nK:∀ ty dc sc,(Builtin.copy_ #[81,81] ty #[.slice (some ⟨b,off+(i+1)*2,none⟩) (n - i) dc,.slice (some ⟨b,off+i*2,none⟩) (n+1 - i) sc]).run Tryz.prog w.drew=.ok (goInt (Nat.min (n+1 - i) (n - i))) (w.drew.setCells b (off+(i+1)*2) (cs.drop (i*2))):=λ ty dc sc =>
    Fq w.drew _ _ ty 104 2 b (off+(i+1)*2) (n - i) dc ⟨b,off+i*2,none⟩ (n+1 - i) sc (cs.drop (i*2)) Tryz.underlying81 bc (by rw [iV]; simp only [Nat.min_def]; split<;>omega)
      (λ j v hj=>by rw [Addr.add_lit,Nat.add_assoc]; exact cI (i*2+j) v (by rwa [List.getElem?_drop] at hj))
      (λ j hj=>by rw [Nat.add_assoc]; exact fG _ (by omega)) (λ j hj=>by rw [Nat.add_assoc]; exact rB _ (by omega)) (λ v hv=>lO v (List.mem_of_mem_drop hv))
  obtain ⟨W1,gC⟩:∃ W1,W1=w.drew.setCells b (off+(i+1)*2) (cs.drop (i*2)):=⟨_,rfl⟩;have pf:∀ k,k<(n+1)*2->(W1.cell? ⟨b,off+k,none⟩).isSome=true:=λ k hk=>by
    rw [gC];exact FG b _ _ _ (λ j hj=>by rw [Nat.add_assoc]; exact fG _ (by omega)) _ (fG k hk)
  have qt:∀ (W:World),(∀ x,W.cell? x=W1.cell? x)->(∀ x,W.frozen? x=W1.frozen? x)->∀ ty dc,(Builtin.copy_ #[81,81] ty #[.slice (some ⟨b,off+i*2,none⟩) (n+1 - i) dc,.slice (some ⟨vb,voff,none⟩) 1 vc]).run Tryz.prog W=.ok (goInt (Nat.min 1 (n+1 - i))) (W.setCells b (off+i*2) vs):=λ W kC nR ty dc =>
    Fq W _ _ ty 104 2 b (off+i*2) (n+1 - i) dc ⟨vb,voff,none⟩ 1 vc vs Tryz.underlying81 bc (by rw [iD]; simp only [Nat.min_def]; split<;>omega)
      (λ j v hj=>by
        rw [Addr.add_lit,kC,gC,World.cell?_setCells_out b _ _ _ _ (λ h _=>absurd h oi)];exact jc j v hj)
      (λ j hj=>by rw [kC,Nat.add_assoc]; exact pf _ (by omega)) (λ j hj=>by rw [nR,gC,World.frozen?_setCells,Nat.add_assoc]; exact rB _ (by omega)) qX
  rw [<- gC] at nK;have mixed:Tryz.prog.follows .mixedOrders=true:=by kernel_rfl
  go_enter Tryz.func100,Tryz.ntmps100
  go_wp2_with (simp only [oy])
  go_region_law_o (refine TW rfl _ _ 81 81 rfl _ _ (by simp [Act.eval,Act.put]) (by simp [Act.eval,Act.put]) (nK _ _ _) ?_)
  go_wp2_with (at_builtin; refine TY _ rfl _ _ 81 81 rfl _ _ rfl rfl (qt _ (λ _=>rfl) (λ _=>rfl) _ _) ?_)
  go_ret
  first|exact ⟨rfl,rfl⟩|exact ⟨rfl,by rw [gC]⟩
end Go.Proofs.YtijlnmgondibnaaGreatDoor
namespace Go.Proofs.YtijlnmgondibnaaGreatDoor
open Go Go.Shelf Go.RowKit Go.Lib
set_option linter.unusedVariables false
set_option linter.unusedSimpArgs false
theorem Rc {z:Array Value} {k m:Nat} (h:z.size=k):(Builtin.zeroCells z m).size=m*k:=by
  simp [Builtin.zeroCells,h]
set_option maxHeartbeats 4000000 in
set_option maxRecDepth 100000 in
theorem XW (b off n c i vb voff vc:Nat) (cs vs:List Value) (w:World) (hi:i<n) (uK:n<=c) (cy:c<n+1) (qD:(n+1)*24<=140737488355328)
    (cM:cs.length=n*2) (iD:vs.length=2)
    (cI:∀ j v,cs[j]?=some v->w.cell? ⟨b,off+j,none⟩=some v)
    (jc:∀ j v,vs[j]?=some v->w.cell? ⟨vb,voff+j,none⟩=some v) (lO:∀ v∈cs,v.oneCell'=true) (qX:∀ v∈vs,v.oneCell'=true) :
    Calls Tryz.prog 100 #[.slice (some ⟨b,off,none⟩) n c,.int .i64 i,.slice (some ⟨vb,voff,none⟩) 1 vc] w λ e w' =>
      ∃ G Z,n+1<=G/\G<=maxLen/\Z.size=(G - i)*2/\e=.returned (.slice (some ⟨w.heap.size,0,none⟩) (n+1) G) /\
      w'=(((w.alloc (.cells ((cs.take (i*2)).toArray++Z) 104)).drew.setCells w.heap.size (i*2) vs).drew).setCells w.heap.size ((i+1)*2) (cs.drop (i*2)):=by
  have bc:(Tryz.prog.info? 104).map (·.size)=some 2:=by kernel_rfl
  have eU:(Tryz.prog.info? 104).map (λ i=>(i.size,i.bytes,i.zero.map (λ z=>z.cells.size)))=some (2,24,some 2):=by kernel_rfl
  have mixed:Tryz.prog.follows .mixedOrders=true:=by kernel_rfl
  obtain ⟨i0,nD,nZ,oS,z,oc,kF⟩:∃ i0,Tryz.prog.info? 104=some i0/\i0.size=2/\i0.bytes=24/\∃ z,i0.zero=some z/\z.cells.size=2:=by
    cases h:Tryz.prog.info? 104 with
    | none=>rw [h] at eU; cases eU
    | some i0 =>
      rw [h] at eU;simp only [Option.map_some,Option.some.injEq,Prod.mk.injEq,Option.map_eq_some_iff] at eU;obtain ⟨h1,h2,z,h3,h4⟩:=eU;exact ⟨i0,rfl,h1,h2,z,h3,h4⟩
  have ml:¬ ((i:Int)=(n:Int)):=by omega
  have uI:(c:Int)<(n:Int)+(1:Int):=by omega
  have tH:b<w.heap.size:=block_lt_of_cell (cI 0 _ (List.getElem?_eq_getElem (by omega)));have ed:vb<w.heap.size:=block_lt_of_cell (jc 0 _ (List.getElem?_eq_getElem (by omega)));have nr:(n:Int)+(1:Int) - (i:Int)=((n+1 - i:Nat):Int):=by omega
  have nB:i+(n+1 - i)=n+1:=by omega
  have ju:(cs.take (i*2)).length=i*2:=by rw [List.length_take,cM]; omega
  have hold:(Builtin.firstCells i0.size i (.slice (some ⟨b,off,none⟩) i c)).run Tryz.prog w.drew=.ok (cs.take (i*2)).toArray w.drew:=by
    rw [nZ];exact run_firstCells_some w.drew 2 i ⟨b,off,none⟩ i c (cs.take (i*2)) ju (λ j v hj=>by
      rw [Addr.add_lit];rw [List.getElem?_take] at hj;split at hj
      . exact cI j v hj
      . cases hj)
  obtain ⟨G,hG⟩:∃ G,G=grownCap w (n+1) c 104:=⟨_,rfl⟩;have uf:n+1<=G:=by rw [hG]; exact grownCap_ge w _ _ _
  have oP:G<=maxLen:=by
    rw [hG]; exact grownCap_le_maxLen w (n+1) c 104 (by unfold maxLen; omega)
  have uh:G<=9223372036854775807:=oP;obtain ⟨Z,hZ⟩:∃ Z:Array Value,Z=Builtin.zeroCells z.cells (n+1 - i)++Builtin.zeroCells z.cells (G - (n+1)):=⟨_,rfl⟩;have qI:Z.size=(G - i)*2:=by rw [hZ,Array.size_append,Rc kF,Rc kF]; omega
  have ph:∀ ty,(Builtin.append_ #[81,3] ty #[.slice (some ⟨b,off,none⟩) i c,.int .i64 ((n:Int)+(1:Int) - (i:Int))]).run Tryz.prog w =
      .ok (.slice (some ⟨w.heap.size,0,none⟩) (n+1) G) (w.drew.alloc (.cells ((cs.take (i*2)).toArray++Z) 104)):=λ ty=>by
    have h:=Lib.run_append_grow_zeros w 81 3 ty 104 i0 z .i64 .i64 Tryz.underlying81 Tryz.underlying3 nD oc (some ⟨b,off,none⟩) i c (cs.take (i*2)) hold (n+1 - i) (by omega) (by omega) (by omega) (by omega) (by rw [oS]; omega) (by rw [oS,nB]; exact growslice_fits cy qD);rw [nB,<- hG,Array.append_assoc,<- hZ] at h;rw [nr];exact h
  obtain ⟨ROW,jS⟩:∃ ROW:Array Value,ROW=(cs.take (i*2)).toArray++Z:=⟨_,rfl⟩;rw [<- jS] at ph;have qN:(n+1)*2<=ROW.size:=by
    rw [jS,Array.size_append,qI,List.size_toArray,ju];omega
  obtain ⟨W1,gC⟩:∃ W1,W1=w.drew.alloc (.cells ROW 104):=⟨_,rfl⟩;rw [<- gC] at ph;have hN:∀ j,j<(n+1)*2->(W1.cell? ⟨w.heap.size,j,none⟩).isSome=true:=λ j hj=>by
    rw [gC,World.cell?_alloc_at (w:=w.drew) ROW _ w.heap.size j rfl,Array.getElem?_eq_getElem (by omega)]; rfl
  have rM:∀ j,W1.frozen? ⟨w.heap.size,j,none⟩=false:=λ j=>by rw [gC]; exact World.frozen?_alloc_at (w:=w.drew) ROW _ w.heap.size j rfl
  have oK:∀ j v,w.cell? ⟨b,j,none⟩=some v->W1.cell? ⟨b,j,none⟩=some v:=λ j v h=>by rw [gC,World.cell?_alloc_past (w:=w.drew) _ b j tH]; exact h
  have tW:∀ j v,w.cell? ⟨vb,j,none⟩=some v->W1.cell? ⟨vb,j,none⟩=some v:=λ j v h=>by rw [gC,World.cell?_alloc_past (w:=w.drew) _ vb j ed]; exact h
  have qs:∀ (W:World),(∀ x,W.cell? x=W1.cell? x)->(∀ x,W.frozen? x=W1.frozen? x)->∀ ty dc,(Builtin.copy_ #[81,81] ty #[.slice (some ⟨w.heap.size,i*2,none⟩) (n+1 - i) dc,.slice (some ⟨vb,voff,none⟩) 1 vc]).run Tryz.prog W=.ok (goInt (Nat.min 1 (n+1 - i))) (W.setCells w.heap.size (i*2) vs):=λ W kC nR ty dc =>
    Fq W _ _ ty 104 2 w.heap.size (i*2) (n+1 - i) dc ⟨vb,voff,none⟩ 1 vc vs Tryz.underlying81 bc (by rw [iD]; simp only [Nat.min_def]; split<;>omega)
      (λ j v hj=>by rw [Addr.add_lit,kC]; exact tW _ v (jc j v hj))
      (λ j hj=>by rw [kC]; exact hN _ (by omega)) (λ j hj=>by rw [nR]; exact rM _) qX
  have uR:¬ (G=i):=by omega
  have ug:¬ (G=i+1):=by omega
  have kx:¬ (c=i):=by omega
  have tJ:b≠w.heap.size:=by omega
  have iV:(cs.drop (i*2)).length=(n - i)*2:=by rw [List.length_drop,cM]; omega
  have qp:∀ (W:World),(∀ x,W.cell? x=(W1.setCells w.heap.size (i*2) vs).cell? x)->(∀ x,W.frozen? x=(W1.setCells w.heap.size (i*2) vs).frozen? x)->∀ ty dc sc,(Builtin.copy_ #[81,81] ty #[.slice (some ⟨w.heap.size,(i+1)*2,none⟩) (n - i) dc,.slice (some ⟨b,off+i*2,none⟩) (n - i) sc]).run Tryz.prog W=.ok (goInt (Nat.min (n - i) (n - i))) (W.setCells w.heap.size ((i+1)*2) (cs.drop (i*2))):=λ W kC nR ty dc sc =>
    Fq W _ _ ty 104 2 w.heap.size ((i+1)*2) (n - i) dc ⟨b,off+i*2,none⟩ (n - i) sc (cs.drop (i*2)) Tryz.underlying81 bc (by rw [iV]; simp only [Nat.min_def]; split<;>omega)
      (λ j v hj=>by
        rw [Addr.add_lit,kC,World.cell?_setCells_out _ _ _ _ _ (λ h _=>absurd h tJ),Nat.add_assoc];exact oK _ v (cI (i*2+j) v (by rwa [List.getElem?_drop] at hj)))
      (λ j hj=>by rw [kC]; exact FG _ _ _ _ (λ t ht=>hN _ (by omega)) _ (hN _ (by omega)))
      (λ j hj=>by rw [nR,World.frozen?_setCells]; exact rM _) (λ v hv=>lO v (List.mem_of_mem_drop hv))
  subst gC;have uj:∀ x,((w.alloc (.cells ROW 104)).drew).cell? x=(w.drew.alloc (.cells ROW 104)).cell? x:=λ x=>rfl;have ui:∀ x,((w.alloc (.cells ROW 104)).drew).frozen? x=(w.drew.alloc (.cells ROW 104)).frozen? x:=λ x=>rfl;have nY:∀ x,(((w.alloc (.cells ROW 104)).drew.setCells w.heap.size (i*2) vs).drew).cell? x=((w.drew.alloc (.cells ROW 104)).setCells w.heap.size (i*2) vs).cell? x:=λ x=>rfl;have nX:∀ x,(((w.alloc (.cells ROW 104)).drew.setCells w.heap.size (i*2) vs).drew).frozen? x=((w.drew.alloc (.cells ROW 104)).setCells w.heap.size (i*2) vs).frozen? x:=λ x=>rfl;have jW:IntKind.i64.wrap ((i:Int)+(1:Int))=(i:Int)+(1:Int):=by rw [IntKind.wrap_i64]; omega
  have dK:(0:Int)<=(i:Int)+(1:Int):=by omega
  have dz:i<=n:=by omega
  have rh:((i:Int)+(1:Int)).toNat=i+1:=by omega
  have qF:(i:Int)<=(n:Int):=by omega
  suffices eR:Calls Tryz.prog 100 #[.slice (some ⟨b,off,none⟩) n c,.int .i64 i,.slice (some ⟨vb,voff,none⟩) 1 vc] w λ e w'=>e=.returned (.slice (some ⟨w.heap.size,0,none⟩) (n+1) G) /\
      w'=(((w.alloc (.cells ROW 104)).drew.setCells w.heap.size (i*2) vs).drew).setCells w.heap.size ((i+1)*2) (cs.drop (i*2)) by
    refine eR.mono ?_;rintro e w' ⟨rfl,rfl⟩;exact ⟨G,Z,uf,oP,qI,rfl,by rw [<- jS]⟩
  clear nr nB hold qN eU bc nD oc nZ oS kF hG hZ jS qI
  go_enter Tryz.func100,Tryz.ntmps100
  go_wp2_with (first
    | (at_builtin; refine Lib.wpList_append_run _ rfl _ _ _ _ rfl _ _ rfl rfl _ _ (ph _) ?_)
    | (at_builtin; refine TY _ rfl _ _ 81 81 rfl _ _ rfl rfl (qs _ uj ui _ _) ?_))
  go_region_law_o (refine TW rfl _ _ 81 81 rfl (.slice (some ⟨w.heap.size,(i+1)*2,none⟩) (n - i) (G - (i+1))) (.slice (some ⟨b,off+i*2,none⟩) (n - i) (c - i)) (by simp [Act.eval,Act.put]) (by simp [Act.eval,Act.put]) (qp _ nY nX 3 (G - (i+1)) (c - i)) ?_)
  go_wp2
  go_ret
  exact ⟨rfl,rfl⟩
end Go.Proofs.YtijlnmgondibnaaGreatDoor
namespace Go.Proofs.YtijlnmgondibnaaGreatDoor
open Go.Ex
set_option maxRecDepth 100000
abbrev E5:=Int×yY×Unit
def yU (l:List E5) (i:Int) (m:List E5):List E5:=l.take i.toNat++m++l.drop i.toNat
theorem CV (b:Nat):∀ (vs:List Value) (o:Nat) (w:World),(w.setCells b o vs).heap.size=w.heap.size/\(w.setCells b o vs).os=w.os/\(w.setCells b o vs).output=w.output/\(w.setCells b o vs).tape=w.tape/\(w.setCells b o vs).drawn=w.drawn /\
    (∀ c,c≠b->(w.setCells b o vs).heap[c]?=w.heap[c]?)/\∀ arr T fz,w.heap[b]?=some (.cells arr T fz)->∃ df,(w.setCells b o vs).heap[b]?=some (.cells df T fz)/\df.size=arr.size
  | [],_,_=>⟨rfl,rfl,rfl,rfl,rfl,λ _ _=>rfl,λ arr _ _ h=>⟨arr,h,rfl⟩⟩
  | v::r,o,w=>by
    obtain ⟨h1,h2,h3,h4,h5,h6,h7⟩:=CV b r (o+1) (w.setCell ⟨b,o,none⟩ v);have e1:(w.setCell ⟨b,o,none⟩ v).heap.size=w.heap.size:=by simp [World.setCell]
    have e2:∀ c,c≠b->(w.setCell ⟨b,o,none⟩ v).heap[c]?=w.heap[c]?:=λ c hc=>by
      simp only [World.setCell,Array.getElem?_modify,if_neg (Ne.symm hc)]
    refine ⟨h1.trans e1,h2,h3,h4,h5,λ c hc=>(h6 c hc).trans (e2 c hc),λ arr T fz h=>?_⟩;have:(w.setCell ⟨b,o,none⟩ v).heap[b]?=some (.cells (arr.setIfInBounds o v) T fz):=by
      simp [World.setCell,Array.getElem?_modify,h]
    obtain ⟨df,g1,g2⟩:=h7 _ T fz this;exact ⟨df,g1,by rw [g2,Array.size_setIfInBounds]⟩
theorem Sp {w:World} {b off:Nat} {arr:Array Value} {T:TypeId} {fz:Nat×Nat} (h:w.heap[b]?=some (.cells arr T fz)) {F:List Value} {n:Nat} (hn:F.length=n) (hc:∀ j,j<n->w.cell? ⟨b,off+j,none⟩=F[j]?):e8 w.heap b off n=F:=by
  have bN:∀ k,w.cell? ⟨b,k,none⟩=arr[k]?:=λ k=>by simp [World.cell?,h]
  simp only [e8,x8,h];apply List.ext_getElem?;intro j;rw [List.getElem?_take,List.getElem?_drop];by_cases hj:j<n
  . rw [if_pos hj,<- hc j hj,bN,Array.getElem?_toList]
  . rw [if_neg hj,List.getElem?_eq_none (by omega)]
theorem So {α:Type} (A B C:List α) (j:Nat):(A++B++C)[j]?=if j<A.length then A[j]? else if j<A.length+B.length then B[j - A.length]? else C[j - (A.length+B.length)]?:=by
  rw [List.getElem?_append,List.getElem?_append,List.length_append]
  split<;>split<;>first|rfl|omega|(split<;>first|rfl|omega)
theorem NC {w:World} {S:Nat->Prop} {t:Ty} (ht:t.shared=true) {L:List Nat} {cs:List Value} {l:List t.den} (h:i6 w.heap S (.d8 true t) L cs l) (hl:0<l.length) :
    ∃ b off cap,L=[b]/\cs=[.slice (some ⟨b,off,none⟩) l.length cap]/\l.length<=cap/\zT true cap/\j6 (i6 w.heap S t) t.size [] (e8 w.heap b off (l.length*t.size)) l/\V1 t.isB w.heap b (off+cap*t.size):=by
  rcases h with ⟨_,_,rfl⟩|⟨b,off,cap,O',h1,h2,h3,h4,h5,h6,h7⟩
  . simp at hl
  have hO:O'=[]:=j6.O7 (λ _ _ _ hr=>i6.O7 ht hr) h5;subst hO;exact ⟨b,off,cap,h6,h1,h2,h3,h5,h7⟩
def Ab:r9:={ ps:=[.own (.d8 true w4),.v f7,.own (.d8 true w4)],rs:=[.d8 true w4],pre:=λ x=>(LE.le (α:=Int) 0 x.2.1/\LT.lt (α:=Int) x.2.1 (List.length (α:=E5) x.1))/\List.length (α:=E5) x.1<=1000/\List.length (α:=E5) x.2.2.1=1,fn:=λ x=>(yU x.1 x.2.1 x.2.2.1,()),out:=λ _=>() }
theorem ND {w w':World} {L:List Nat} (h1:w'.os=w.os) (h2:w'.tape=w.tape) (h3:w.drawn<=w'.drawn) (h4:w'.output=w.output) (h5:w.heap.size<=w'.heap.size) (h6:∀ c,c<w.heap.size->c∉L->w'.heap[c]?=w.heap[c]?):F9 L w w':=⟨h1,⟨h2,h3⟩,h4,h5,h6⟩
theorem To:Ab.Valid Tryz.prog 100:=by
  refine ⟨⟨_,Tryz.func100,by kernel_rfl,by kernel_rfl⟩,?_,λ h=>by cases h⟩;rintro w S vs ⟨(l:List E5),(i0:Int),(m:List E5),⟨⟩⟩ L hS - ⟨⟨(p0:0<=i0),(p1:i0<(l.length:Int))⟩,(p2:l.length<=1000),(p3:m.length=1)⟩ oA - aN hL;obtain ⟨v1,us,L1,L2,rfl,rfl,⟨cs1,rfl,r1⟩,v2,us,L3,L4,rfl,rfl,⟨rfl,cs2,rfl,r2⟩,v3,us,L5,L6,rfl,rfl,⟨cs3,rfl,r3⟩,rfl,rfl⟩:=oA;obtain ⟨i,rfl⟩:∃ i:Nat,i0=i:=⟨i0.toNat,by omega⟩;have r1:i6 w.heap S (.d8 true w4) L1 cs1 l:=r1;have r3:i6 w.heap S (.d8 true w4) L5 cs3 m:=r3;obtain ⟨b,off,cap,rfl,rfl,c2,c3,c4,c5⟩:=NC rfl r1 (by omega);obtain ⟨vb,voff,vc,rfl,rfl,d2,d3,d4,d5⟩:=NC rfl r3 (by omega);obtain ⟨-,rfl,-⟩:=r2;have bc:Ty.size w4=2:=rfl;have c4:j6 (i6 w.heap S w4) 2 [] (e8 w.heap b off (l.length*2)) l:=c4;have c5:V1 false w.heap b (off+cap*2):=c5;have d5:V1 false w.heap vb (voff+vc*2):=d5;have d4:j6 (i6 w.heap S w4) 2 [] (e8 w.heap vb voff (1*2)) m:=by rw [<- p3]; exact d4
  have oi:vb≠b:=by
    rintro rfl;simp at aN
  have oG:=hL b (by simp);have kL:=hL vb (by simp);obtain ⟨arr,T,⟨fz,e1,ef⟩,en⟩:=c5;obtain rfl:fz=(0,0):=ef.elim id (λ h=>by cases h.1);obtain ⟨varr,vT,⟨vfz,g1,gf⟩,gn⟩:=d5;obtain rfl:vfz=(0,0):=gf.elim id (λ h=>by cases h.1);rw [p3];have cT:cap<=maxLen:=c3.1;have cM:(e8 w.heap b off (l.length*2)).length=l.length*2:=j6.length (λ _ _ _ h=>h.length) c4;have iD:(e8 w.heap vb voff (1*2)).length=2:=by have:=j6.length (λ _ _ _ h=>h.length) d4; rw [p3] at this; exact this
  have bZ:=j6.plain (λ _ _ _ hr=>hr.plain) c4;have mK:=j6.plain (λ _ _ _ hr=>hr.plain) d4;have bN:∀ k,w.cell? ⟨b,k,none⟩=arr[k]?:=λ k=>by simp [World.cell?,e1]
  have lu:∀ k,w.frozen? ⟨b,k,none⟩=false:=λ k=>by simp [World.frozen?,e1]
  have nE:∀ k,w.frozen? ⟨vb,k,none⟩=false:=λ k=>by simp [World.frozen?,g1]
  have cI:∀ j v,(e8 w.heap b off (l.length*2))[j]?=some v->w.cell? ⟨b,off+j,none⟩=some v:=λ j v h=>N3 h;have jc:∀ j v,(e8 w.heap vb voff (1*2))[j]?=some v->w.cell? ⟨vb,voff+j,none⟩=some v:=λ j v h=>N3 h;have jN:Ab.fn (l,(i:Int),m,())=(l.take i++m++l.drop i,()):=rfl;have kq:i<l.length:=by omega
  obtain ⟨q1,q2⟩:j6 (i6 w.heap S w4) 2 [] ((e8 w.heap b off (l.length*2)).take (i*2)) (l.take i)/\j6 (i6 w.heap S w4) 2 [] ((e8 w.heap b off (l.length*2)).drop (i*2)) (l.drop i):=by
    obtain ⟨P1,P2,P3,e,k1,k2,k3⟩:=j6.split (d:=((0:Int),([]:yY),())) kq c4;have e:=e.symm;simp only [List.append_eq_nil_iff] at e;obtain ⟨rfl,rfl,rfl⟩:=e;refine ⟨k1,?_⟩;have h9:l.drop i=l.getD i (0,[],())::l.drop (i+1):=by
      rw [List.drop_eq_getElem_cons kq,List.getD_eq_getElem?_getD,List.getElem?_eq_getElem kq]; rfl
    rw [h9];refine ⟨[],[],rfl,k2,?_⟩;rw [List.drop_drop,show i*2+2=(i+1)*2 by omega];exact k3
  have pk:j6 (i6 w.heap S w4) 2 [] ((e8 w.heap b off (l.length*2)).take (i*2)++e8 w.heap vb voff (1*2)++(e8 w.heap b off (l.length*2)).drop (i*2)) (l.take i++m++l.drop i):=by
    have h1:=j6.append (λ _ _ _ h=>h.length) q1 d4;exact j6.append (λ _ _ _ h=>h.length) h1 q2
  have hlen:(l.take i++m++l.drop i).length=l.length+1:=by simp only [List.length_append,List.length_take,List.length_drop]; omega
  have ju:((e8 w.heap b off (l.length*2)).take (i*2)).length=i*2:=by rw [List.length_take,cM]; omega
  have iV:((e8 w.heap b off (l.length*2)).drop (i*2)).length=(l.length - i)*2:=by rw [List.length_drop,cM]; omega
  have fin:∀ {w':World} {c o G:Nat} {df:Array Value} {T':TypeId},F9 [b,vb] w w'->(c=b\/w.heap.size<=c)->l.length+1<=G->G<=maxLen->w'.heap[c]?=some (.cells df T' (0,0))->o+G*2<=df.size ->
      e8 w'.heap c o ((l.length+1)*2)=(e8 w.heap b off (l.length*2)).take (i*2)++e8 w.heap vb voff (1*2)++(e8 w.heap b off (l.length*2)).drop (i*2) ->
      xA w S Ab.rs Ab.ps [s5 (.d8 true w4) [.slice (some ⟨b,off,none⟩) l.length cap],s5 f7 [.int .i64 i],s5 (.d8 true w4) [.slice (some ⟨vb,voff,none⟩) 1 vc]] [b,vb] (Ab.fn (l,(i:Int),m,())) (Ab.out (l,(i:Int),m,())) (.returned (.slice (some ⟨c,o,none⟩) (l.length+1) G)) w':=by
    intro w' c o G df T' hp hc hG oP ha hs qx;have ch:∀ {cs:List Value} {l':List E5},j6 (i6 w.heap S w4) 2 [] cs l'->j6 (i6 w'.heap S w4) 2 [] cs l':=λ hr=>j6.mono (L:=[]) (λ _ h=>h) (λ O cs x hO hr=>hr.w6 (λ d hd=>by
      rcases hd with hd|hd
      . exact absurd (hO d hd) (by simp)
      . refine hp.frame d (hS d hd) (λ hm=>?_);rcases List.mem_cons.1 hm with rfl|hm
        . exact oG.1 hd
        . rw [List.mem_singleton] at hm; subst hm; exact kL.1 hd) (λ _ h=>h)) hr
    refine ⟨[.slice (some ⟨c,o,none⟩) (l.length+1) G],[c],[],S,rfl,hp,λ _ h=>h,λ _ h=>.inl h,⟨_,[],[c],[],[.slice (some ⟨c,o,none⟩) (l.length+1) G],rfl,rfl,rfl,?_,rfl,rfl⟩,⟨_,_,rfl,_,_,rfl,_,_,rfl,rfl,rfl⟩,by simp,?_⟩
    . rw [jN];refine .inr ⟨c,o,G,[],by rw [hlen],by rw [hlen]; exact hG,⟨oP,λ _=>by omega⟩,?_,?_,rfl,df,T',⟨(0,0),ha,.inl rfl⟩,hs⟩
      . rw [hlen,bc]; simp only [x8,ha,Array.length_toList]; omega
      . rw [hlen,bc,qx]; exact ch pk
    . intro d hd;simp only [List.append_nil,List.mem_singleton] at hd;subst hd;refine ⟨λ h=>?_,?_,?_⟩
      . rcases hc with rfl|hc
        . exact oG.1 h
        . have:=hS d h; omega
      . rcases hc with rfl|hc
        . right; simp
        . left; exact hc
      . exact (Array.getElem?_eq_some_iff.1 ha).1
  by_cases cy:l.length+1<=cap
  . have kj:(l.length+1)*2<=cap*2:=Nat.mul_le_mul_right _ cy;refine (Yz b off l.length cap i vb voff vc (e8 w.heap b off (l.length*2)) (e8 w.heap vb voff (1*2)) w kq cy cT oi cM iD cI
      (λ j hj=>by rw [bN,Array.getElem?_eq_getElem (by omega)]; rfl) (λ j _=>lu _) jc (λ v hv=>(bZ v hv).1) (λ v hv=>(mK v hv).1)
      vT T varr.size arr.size (by simp [World.shape?,g1]) (by simp [World.shape?,e1]) (by omega) (nE _) (nE _)).mono ?_
    rintro e w' ⟨rfl,rfl⟩;obtain ⟨A1,A2,A3,A4,A5,A6,A7⟩:=CV b ((e8 w.heap b off (l.length*2)).drop (i*2)) (off+(i+1)*2) w.drew;obtain ⟨B1,B2,B3,B4,B5,B6,B7⟩:=CV b (e8 w.heap vb voff (1*2)) (off+i*2) (w.drew.setCells b (off+(i+1)*2) ((e8 w.heap b off (l.length*2)).drop (i*2)));obtain ⟨arr1,x1,x2⟩:=A7 arr T (0,0) e1;obtain ⟨arr2,y1,y2⟩:=B7 arr1 T (0,0) x1;have cr:∀ k,off+k<off+cap*2->(w.drew.cell? ⟨b,off+k,none⟩).isSome=true:=λ k hk=>by
      show (w.cell? ⟨b,off+k,none⟩).isSome=true;rw [bN,Array.getElem?_eq_getElem (by omega)]; rfl
    have gE:∀ k,off+k<off+cap*2->((w.drew.setCells b (off+(i+1)*2) ((e8 w.heap b off (l.length*2)).drop (i*2))).cell? ⟨b,off+k,none⟩).isSome=true:=λ k hk =>
      FG b _ _ _ (λ j hj=>by rw [iV] at hj; rw [Nat.add_assoc]; exact cr _ (by omega)) _ (cr k hk)
    refine fin (T':=T) (df:=arr2) ?_ (.inl rfl) cy cT y1 (by rw [y2,x2]; exact en) ?_
    . refine ND (B2.trans A2) (B4.trans A4) (by rw [B5,A5]; exact Nat.le_succ _) (B3.trans A3) (by rw [B1,A1]; exact Nat.le_refl _) (λ c hc hn=>?_);have cD:c≠b:=λ e=>hn (by simp [e]);exact (B6 c cD).trans (A6 c cD)
    . refine Sp y1 (by rw [List.length_append,List.length_append,ju,iD,iV]; omega) (λ j hj=>?_);rw [So,ju,iD];by_cases k1:j<i*2
      . rw [if_pos k1,World.cell?_setCells_out b _ _ _ _ (λ _ _=>.inl (by show off+j<_; omega)),World.cell?_setCells_out b _ _ _ _ (λ _ _=>.inl (by show off+j<_; omega)),List.getElem?_take,if_pos k1];have jh:j<(e8 w.heap b off (l.length*2)).length:=by omega
        rw [List.getElem?_eq_getElem jh];exact cI j _ (List.getElem?_eq_getElem jh)
      . rw [if_neg k1];by_cases k2:j<i*2+2
        . rw [if_pos k2];have:=World.cell?_setCells_in b (e8 w.heap vb voff (1*2)) (off+i*2) (w.drew.setCells b (off+(i+1)*2) ((e8 w.heap b off (l.length*2)).drop (i*2))) (λ j hj=>by rw [Nat.add_assoc]; exact gE _ (by omega)) (j - i*2) (by omega);rw [show off+i*2+(j - i*2)=off+j by omega] at this;rw [this,List.getElem?_eq_getElem]
        . rw [if_neg k2,World.cell?_setCells_out b _ _ _ _ (λ _ _=>.inr (by show _<=off+j; rw [iD]; omega))];have:=World.cell?_setCells_in b ((e8 w.heap b off (l.length*2)).drop (i*2)) (off+(i+1)*2) w.drew (λ j hj=>by rw [iV] at hj; rw [Nat.add_assoc]; exact cr _ (by omega)) (j - (i*2+2)) (by omega);rw [show off+(i+1)*2+(j - (i*2+2))=off+j by omega] at this;rw [this,List.getElem?_eq_getElem]
  . refine (XW b off l.length cap i vb voff vc (e8 w.heap b off (l.length*2)) (e8 w.heap vb voff (1*2)) w kq c2 (by omega) (by omega) cM iD cI jc (λ v hv=>(bZ v hv).1) (λ v hv=>(mK v hv).1)).mono ?_;rintro e w' ⟨G,Z,z1,z2,z3,rfl,rfl⟩;generalize jZ:((e8 w.heap b off (l.length*2)).take (i*2)).toArray++Z=ROW;have tS:ROW.size=G*2:=by rw [<- jZ,Array.size_append,List.size_toArray,ju,z3]; omega
    generalize hN:w.heap.size=N;have n1:((w.alloc (.cells ROW 104)).drew).heap[N]?=some (.cells ROW 104 (0,0)):=by
      show (w.heap.push _)[N]?=_;rw [<- hN]; simp
    have n2:∀ c,c<N->((w.alloc (.cells ROW 104)).drew).heap[c]?=w.heap[c]?:=λ c hc=>by
      show (w.heap.push _)[c]?=_;rw [Array.getElem?_push,if_neg (by omega)]
    have n3:((w.alloc (.cells ROW 104)).drew).heap.size=N+1:=by show (w.heap.push _).size=_; rw [Array.size_push,hN]
    obtain ⟨A1,A2,A3,A4,A5,A6,A7⟩:=CV N (e8 w.heap vb voff (1*2)) (i*2) ((w.alloc (.cells ROW 104)).drew);generalize gC:((w.alloc (.cells ROW 104)).drew).setCells N (i*2) (e8 w.heap vb voff (1*2))=W1 at *
    obtain ⟨B1,B2,B3,B4,B5,B6,B7⟩:=CV N ((e8 w.heap b off (l.length*2)).drop (i*2)) ((i+1)*2) W1.drew;obtain ⟨arr1,x1,x2⟩:=A7 ROW 104 (0,0) n1;obtain ⟨arr2,y1,y2⟩:=B7 arr1 104 (0,0) x1;have rC:∀ k,((w.alloc (.cells ROW 104)).drew).cell? ⟨N,k,none⟩=ROW[k]?:=λ k=>by simp only [World.cell?,n1]; rfl
    have cr:∀ k,k<G*2->(((w.alloc (.cells ROW 104)).drew).cell? ⟨N,k,none⟩).isSome=true:=λ k hk=>by
      rw [rC,Array.getElem?_eq_getElem (by omega)]; rfl
    have gE:∀ k,k<G*2->(W1.drew.cell? ⟨N,k,none⟩).isSome=true:=λ k hk=>by
      show (W1.cell? ⟨N,k,none⟩).isSome=true;rw [<- gC];exact FG N _ _ _ (λ j hj=>cr _ (by omega)) _ (cr k hk)
    refine fin (c:=N) (o:=0) (G:=G) (T':=104) (df:=arr2) ?_ (.inr (by omega)) z1 z2 y1 (by rw [y2,x2,tS]; omega) ?_
    . refine ND (B2.trans A2) (B4.trans A4) (by rw [B5]; show _<=W1.drawn+1; rw [A5]; show w.drawn<=w.drawn+1+1; omega) (B3.trans A3) (by rw [B1]; show _<=W1.heap.size; rw [A1,n3]; omega) (λ c hc hn=>?_);have cD:c≠N:=by omega
      exact (B6 c cD).trans ((A6 c cD).trans (n2 c (by omega)))
    . refine Sp y1 (by rw [List.length_append,List.length_append,ju,iD,iV]; omega) (λ j hj=>?_);rw [So,ju,iD,Nat.zero_add];by_cases k1:j<i*2
      . rw [if_pos k1,World.cell?_setCells_out N _ _ _ _ (λ _ _=>.inl (by show j<_; omega))];show W1.cell? ⟨N,j,none⟩=_;rw [<- gC,World.cell?_setCells_out N _ _ _ _ (λ _ _=>.inl (by show j<_; omega)),rC,<- jZ];rw [Array.getElem?_append,if_pos (by rw [List.size_toArray,ju]; exact k1),List.getElem?_toArray]
      . rw [if_neg k1];by_cases k2:j<i*2+2
        . rw [if_pos k2,World.cell?_setCells_out N _ _ _ _ (λ _ _=>.inl (by show j<_; omega))];show W1.cell? ⟨N,j,none⟩=_;have:=World.cell?_setCells_in N (e8 w.heap vb voff (1*2)) (i*2) ((w.alloc (.cells ROW 104)).drew) (λ j hj=>cr _ (by omega)) (j - i*2) (by omega);rw [gC,show i*2+(j - i*2)=j by omega] at this;rw [this,List.getElem?_eq_getElem]
        . rw [if_neg k2];have:=World.cell?_setCells_in N ((e8 w.heap b off (l.length*2)).drop (i*2)) ((i+1)*2) W1.drew (λ j hj=>by rw [iV] at hj; exact gE _ (by omega)) (j - (i*2+2)) (by omega);rw [show (i+1)*2+(j - (i*2+2))=j by omega] at this;rw [this,List.getElem?_eq_getElem]
def Mg:r9:={ ps:=[.own (.d8 true w4),.v f7,.own (.d8 true w4)],rs:=[.d8 true w4],pre:=λ x=>x.2.1=(List.length (α:=E5) x.1:Int)/\List.length (α:=E5) x.1<=1000/\List.length (α:=E5) x.2.2.1=1,fn:=λ x=>(yU x.1 x.2.1 x.2.2.1,()),out:=λ _=>() }
noncomputable def Gn:Env:={ P:=Tryz.prog,tt:=tt,E4:=[],res:=[Go.ResultVar.tmp 6],rs:=[Ty.d8 true w4],ps:=[PK.own (Ty.d8 true w4),PK.v f7,PK.own (Ty.d8 true w4)],D5:=[],nt:=95 }
theorem OS:C0 Gn:=C7 s9 trivial
theorem PB:D7 Gn Tryz.f100:=⟨rfl,rfl⟩
theorem Vi (x0:List (Int×yY×Unit)) (x1:Int) (x2:List (Int×yY×Unit)):exec Gn 1000 [.code (d9 Tryz.prog 100)] (y8 Mg.ps ((x0,x1,x2,()))) =
  .f9 ((0:Int)<=x1/\x1<=(↑(List.length x0):Int)/\(↑(List.length x0):Int)<=(↑(List.length x0):Int)) (cond (decide ((↑(List.length x2):Int)=(0:Int))) (.ret ((x0,()))) (cond (decide (x1=(↑(List.length x0):Int))) (.f9 (List.length x0+List.length x2<=140737488355328/\(List.length x0+List.length x2)*Ty.wb w4<=140737488355328) (.ret ((x0++x2,())))) (.f9 (u7 IntKind.i64 ((↑(List.length x0):Int)+(↑(List.length x2):Int))) (.stuck "cap")))):=by kernel_rfl
theorem b8s:Mg.Valid Tryz.prog 100:=by
  refine r9.r7 OS rfl rfl Tryz.func100 (c:=d9 Tryz.prog 100) rfl rfl PB rfl ?_;rintro ⟨(l:List E5),(i:Int),(m:List E5),⟨⟩⟩ ⟨(p1:i=(l.length:Int)),(p2:l.length<=1000),(p3:m.length=1)⟩ -
  subst p1;refine j8 (n:=1000) OS PB ?_;refine i8 (Vi l (l.length:Int) m) ?_;have Ua:Ty.wb w4=24:=rfl;simp only [j7,Tree.holds,Ua,sL];refine ⟨by omega,λ _=>⟨λ h=>absurd h (by omega),λ _=>⟨⟨⟨by omega,by omega⟩,λ _=>?_⟩,λ h=>absurd trivial h⟩⟩⟩;show ((l++m,()):List E5×Unit)=(yU l (l.length:Int) m,());unfold yU;rw [Int.toNat_natCast,List.take_length,List.drop_length,List.append_nil]
def LZ:r9:={ ps:=[.own (.d8 true w4),.v f7,.own (.d8 true w4)],rs:=[.d8 true w4],pre:=λ x=>(LE.le (α:=Int) 0 x.2.1/\LE.le (α:=Int) x.2.1 (List.length (α:=E5) x.1))/\List.length (α:=E5) x.1<=1000/\List.length (α:=E5) x.2.2.1=1,fn:=λ x=>(yU x.1 x.2.1 x.2.2.1,()),out:=λ _=>() }
theorem ZV:LZ.Valid Tryz.prog 100:=by
  refine ⟨To.ent,?_,λ h=>by cases h⟩;rintro w S vs ⟨(l:List E5),(i:Int),(m:List E5),⟨⟩⟩ L hS ec ⟨⟨(p0:0<=i),(p1:i<=(l.length:Int))⟩,(p2:l.length<=1000),(p3:m.length=1)⟩ oA dq aN hL;by_cases h:i<(l.length:Int)
  . exact To.run w S vs (l,i,m,()) L hS ec ⟨⟨p0,h⟩,p2,p3⟩ oA dq aN hL
  . exact b8s.run w S vs (l,i,m,()) L hS ec ⟨by show i=(l.length:Int); omega,p2,p3⟩ oA dq aN hL
theorem VK:Ty.wb w4=24:=rfl
def GI:r9:={ ps:=[.v (.d8 false w4)],rs:=[.d8 true w4],pre:=λ x=>List.length (α:=w7) x.1<=1048576,fn:=λ x=>x,out:=λ _=>() }
noncomputable def GL:Env:={ P:=Tryz.prog,tt:=tt,E4:=[],res:=[Go.ResultVar.tmp 2],rs:=[Ty.d8 true w4],ps:=[PK.v M6],D5:=[],nt:=8 }
theorem OX:C0 GL:=C7 s9 trivial
theorem PG:D7 GL Tryz.f97:=⟨rfl,rfl⟩
theorem Vo (x0:List (Int×yY×Unit)):exec GL 1000 [.code (d9 Tryz.prog 97)] (y8 GI.ps ((x0,()))) =
  .both (x0=[]) (.ret (([],()))) (.f9 ((0:Nat)+List.length x0<=140737488355328/\((0:Nat)+List.length x0)*Ty.wb w4<=140737488355328) (.ret (([]++x0,())))):=by kernel_rfl
theorem b8j:GI.Valid Tryz.prog 97:=by
  refine r9.r7 OX rfl rfl Tryz.func97 (c:=d9 Tryz.prog 97) rfl rfl PG rfl ?_;rintro ⟨(l:List (w7)),⟨⟩⟩ hp -
  have hp:l.length<=1048576:=hp;refine j8 (n:=1000) OX PG ?_;refine i8 (Vo l) ?_;simp only [j7,Tree.holds,VK,sL];refine ⟨λ h=>?_,by omega,λ _=>rfl⟩;show (([],()):List (w7)×Unit)=(l,());rw [show l=[] from h]
def HC:r9:={ ps:=[.v ToT,.v w4],rs:=[ToO,.d8 true .str,f7],pre:=λ _=>True,fn:=λ x=>E2 x.1 x.2.1,out:=λ _=>() }
noncomputable def DU:Env:={ P:=Tryz.prog,tt:=tt,E4:=[(96,FP),(75,AR),(59,Ah),(97,GI),(98,FM),(100,LZ)],res:=[Go.ResultVar.cell 4 83,Go.ResultVar.tmp 5,Go.ResultVar.tmp 6],rs:=[Ty.pair f7 (Ty.pair (Ty.d8 true w4) Ty.unit),Ty.d8 true Ty.str,Ty.int IntKind.i64],ps:=[PK.v ToT,PK.v w4],D5:=[(17,[(4,none),(8,none),(11,some (Ty.d8 true Ty.str))])],nt:=116 }
theorem JQ:C0 DU:=C7 s9 ⟨c04,KS,Fv,b8j,ZR,ZV,trivial⟩
theorem JS:D7 DU Tryz.f83:=⟨rfl,rfl⟩
theorem WQ (aT:Int) (ab:List (Int×yY×Unit)) (bJ:Int) (aS:yY):exec DU 1000 [.code (d9 Tryz.prog 83)] (y8 HC.ps (((aT,ab,()),(bJ,aS,()),()))) =
  .f9 (True) (cond (decide (toE (aT,ab,())≠(0:Int))) (.ret ((((0:Int),[],()),[],toE (aT,ab,()),()))) (.f9 (True) (cond (!inF bJ (0:Int) (16777214:Int)) (.ret ((((0:Int),[],()),[],(1:Int),()))) (.f9 (True) (cond (F1 aS) (.ret ((((0:Int),[],()),[],(2:Int),()))) (.f9 (List.length ab<=1048576) (.f9 ((List.length ab<=1000/\sorted ab)/\(-100000000:Int)<=bJ/\bJ<=(100000000:Int)) (cond (decide (bJ<aT)) (.ret (((aT,ab,()),[],(0:Int),()))) (.f9 (u7 IntKind.i64 (aT+(16:Int))) (cond (decide (aT+(16:Int)<=bJ)) (.ret (((aT,ab,()),[],(0:Int),()))) (cond (Z8 bJ ab) (.ret (((aT,ab,()),[],(0:Int),()))) (cond (decide (aT<bJ)) (.f9 (((0:Int)<=(↑(atF bJ ab):Int)/\(↑(atF bJ ab):Int)<=(↑(List.length ab):Int))/\List.length ab<=1000/\List.length (List.set [((0:Int),[],())] (Int.toNat (↑0:Int)) (bJ,aS,()))=1) (.ret (((aT,yU ab (↑(atF bJ ab):Int) (List.set [((0:Int),[],())] (Int.toNat (↑0:Int)) (bJ,aS,())),()),[],(0:Int),())))) (.f9 (u7 IntKind.i64 (aT+(1:Int))) (.ctL (g8 (d9 Tryz.prog 83) 17) (St.mk [(4,AV.ptr 4 []),(8,AV.ptr 8 []),(11,AV.at_ 1000011 [])] [(4,i7.var ToO ((0:Int),[],())),(8,i7.var ToO (aT+(1:Int),ab,())),(1000011,i7.own (Ty.d8 true Ty.str) (List.set [[]] (Int.toNat (↑0:Int)) aS))]))))))))))))))):=by kernel_rfl
def RO (jq:Int) (fp:List (Int×yY×Unit)) (fO:Int) (bB:List (Int×yY×Unit)) (bt:List yY):St:=St.mk [(4,AV.ptr 4 []),(8,AV.ptr 8 []),(11,AV.at_ 1000011 [])] [(4,i7.var ToO (jq,fp,())),(8,i7.var ToO (fO,bB,())),(1000011,i7.own (Ty.d8 true Ty.str) bt)]
theorem Zq (jq:Int) (fp:List (Int×yY×Unit)) (fO:Int) (bB:List (Int×yY×Unit)) (bt:List yY):exec DU 1000 (.code (g8 (d9 Tryz.prog 83) 17).1::.inLoop (g8 (d9 Tryz.prog 83) 17).1::(g8 (d9 Tryz.prog 83) 17).2) (RO jq fp fO bB bt) =
  cond (decide ((0:Int)<(↑(List.length bB):Int))) (.f9 ((0:Int)<=(0:Int)/\(0:Int)<(↑(List.length bB):Int)) (cond (decide (Prod.fst (List.getD bB (Int.toNat (0:Int)) ((0:Int),[],()))=fO)) (.f9 ((0:Int)<=(0:Int)/\(0:Int)<(↑(List.length bB):Int)) (.f9 (List.length bt+List.length (List.set [[]] (Int.toNat (↑0:Int)) (Prod.fst (Prod.snd (List.getD bB (Int.toNat (0:Int)) ((0:Int),[],())))))<=140737488355328/\(List.length bt+List.length (List.set [[]] (Int.toNat (↑0:Int)) (Prod.fst (Prod.snd (List.getD bB (Int.toNat (0:Int)) ((0:Int),[],()))))))*Ty.wb Ty.str<=140737488355328) (.f9 ((0:Int)<=(1:Int)/\(1:Int)<=(↑(List.length bB):Int)/\(↑(List.length bB):Int)<=(↑(List.length bB):Int)) (.f9 ([]++[Step.l8 1]=[]++[Step.l8 1]/\True) (.f9 (u7 IntKind.i64 (fO+(1:Int))) (.ctL (g8 (d9 Tryz.prog 83) 17) (St.mk [(4,AV.ptr 4 []),(8,AV.ptr 8 []),(11,AV.at_ 1000011 [])] [(4,i7.var ToO (jq,fp,())),(8,i7.var ToO (fO+(1:Int),o5 (1:Int) (↑(List.length bB):Int) bB,())),(1000011,i7.own (Ty.d8 true Ty.str) (bt++List.set [[]] (Int.toNat (↑0:Int)) (Prod.fst (Prod.snd (List.getD bB (Int.toNat (0:Int)) ((0:Int),[],()))))))]))))))) (.f9 (List.length bB<=1048576) (.ret (((fO,bB,()),bt,(0:Int),())))))) (.f9 (List.length bB<=1048576) (.ret (((fO,bB,()),bt,(0:Int),())))):=by kernel_rfl
theorem Ut {n:Int} {l:List w7}:atF n l<=l.length:=by
  rw [atF]; exact (List.takeWhile_sublist _).length_le
theorem xp.sorted {r:Int} {l:List w7} (h:xp r l):sorted l:=⟨b7Y h.up,λ i hi=>by
  have h1:=a91 h.up (EI (d:=p00) hi);have h2:=(h.b _ (EI (d:=p00) hi)).1;have:=h.rg;omega⟩
theorem b6s:HC.Valid Tryz.prog 83:=by
  refine r9.r7 JQ rfl rfl Tryz.func83 (c:=d9 Tryz.prog 83) rfl rfl JS rfl ?_;rintro ⟨⟨(r:Int),(l:List w7),⟨⟩⟩,⟨(q:Int),(x:yY),⟨⟩⟩,⟨⟩⟩ - -
  refine j8 (n:=1000) JQ JS ?_;refine i8 (WQ r l q x) ?_;have key:∀ {y:ToD×List yY×Int×Unit},E2 (r,l,()) (q,x,())=y->y=E2 (r,l,()) (q,x,()):=λ h=>h.symm;have hd:E2 (r,l,()) (q,x,())=if toE (r,l,())≠0 then (t00,[],toE (r,l,()),()) else if inF q 0 16777214=false then (t00,[],1,()) else if F1 x=true then (t00,[],2,()) else
    if q<r\/r+16<=q\/Z8 q l=true then ((r,l,()),[],0,()) else if r<q then ((r,wZ (q,x,()) l,()),[],0,()) else
    (((E9 l (r+1)).1,(E9 l (r+1)).2.1,()),x::(E9 l (r+1)).2.2,0,()):=rfl
  have hw:Ty.wb .str=16:=rfl;simp only [j7,Tree.holds,hw,sL];refine ⟨λ a=>key (by rw [hd,if_pos a]<;>rfl),λ a=>?_⟩;have aK:=Iv.1 (Decidable.not_not.1 a);have lV:=aK.rg;have hlen:=aK.len;rw [if_neg a] at hd;refine ⟨λ c=>key (by rw [hd,if_pos c]<;>rfl),λ c=>?_⟩;have hq:=xM.1 c;rw [if_neg (lnf c)] at hd;refine ⟨λ d=>key (by rw [hd,if_pos d]<;>rfl),λ d=>⟨by omega,λ _=>⟨⟨⟨by omega,aK.sorted⟩,by omega,by omega⟩,λ _=>?_⟩⟩⟩;rw [if_neg (by rw [d]; simp)] at hd;refine ⟨λ e=>key (by rw [hd,if_pos (.inl e)]<;>rfl),λ e=>⟨by omega,λ _=>⟨λ f=>key (by rw [hd,if_pos (.inr (.inl f))]<;>rfl),λ f=>⟨λ g=>key (by rw [hd,if_pos (.inr (.inr g))]<;>rfl),λ g=>?_⟩⟩⟩⟩;rw [if_neg (by rintro (h|h|h); exact e h; exact f h; rw [g] at h; cases h)] at hd;have jQ:=Ut (n:=q) (l:=l);refine ⟨λ k=>⟨⟨⟨by omega,by omega⟩,by omega,trivial⟩,λ _=>key (by rw [hd,if_pos k]; simp [yU,wZ]; rfl)⟩,λ k=>⟨by omega,λ _=>?_⟩⟩;rw [if_neg k] at hd;refine Reach.O8 JQ JS (λ s:Int×List w7×List yY=>RO 0 [] s.1 s.2.1 s.2.2) (λ s=>((E9 s.2.1 s.1).1=(E9 l (r+1)).1/\(E9 s.2.1 s.1).2.1=(E9 l (r+1)).2.1/\s.2.2++(E9 s.2.1 s.1).2.2=x::(E9 l (r+1)).2.2)/\s.2.1.length<=16/\s.2.2.length+s.2.1.length<=17/\0<=s.1/\s.1+s.2.1.length<=20000000)
    (λ s=>s.2.1.length) 1000 (λ _=>⟨y6 rfl,y6 rfl⟩) ?_ (r+1,l,[x]) ⟨⟨rfl,rfl,rfl⟩,hlen,by show 1+l.length<=17; omega,by show 0<=r+1; omega,by show r+1+(l.length:Int)<=20000000; omega⟩
  rintro ⟨n,m,ts⟩ ⟨⟨k1,k2,k3⟩,k4,k5,k6,k7⟩ - ih;have k1:(E9 m n).1=(E9 l (r+1)).1:=k1;have k2:(E9 m n).2.1=(E9 l (r+1)).2.1:=k2;have k3:ts++(E9 m n).2.2=x::(E9 l (r+1)).2.2:=k3;have k4:m.length<=16:=k4;have k5:ts.length+m.length<=17:=k5;have k6:0<=n:=k6;have k7:n+(m.length:Int)<=20000000:=k7;rw [<- k1,<- k2,<- k3] at hd;refine i8 (Zq ..) ?_;rw [show ((n,m,ts):Int×List w7×List yY).1=n from rfl,show ((n,m,ts):Int×List w7×List yY).2.1=m from rfl,show ((n,m,ts):Int×List w7×List yY).2.2=ts from rfl];cases m with
  | nil =>
    simp only [j7,Tree.holds,hw,sL];refine ⟨λ c2=>absurd c2 (by simp),λ _=>⟨by omega,λ _=>key ?_⟩⟩;rw [hd,E9,List.append_nil]; rfl
  | cons p m =>
    have g0:List.getD (p::m) (Int.toNat 0) (0,[],())=p:=rfl;have jO:o5 1 ((p::m).length:Int) (p::m)=m:=by
      rw [o5,List.take_of_length_le (by simp)]; rfl
    simp only [List.length_cons] at k4 k5 k7;have jA:E9 (p::m) n=if p.1=n then ((E9 m (n+1)).1,(E9 m (n+1)).2.1,p.2.1::(E9 m (n+1)).2.2) else (n,p::m,[]):=rfl
    simp only [j7,Tree.holds,hw,g0,jO,sL];refine ⟨λ c2=>⟨by omega,λ _=>⟨λ c3=>?_,λ c3=>⟨by omega,λ _=>key ?_⟩⟩⟩,λ c2=>absurd (by omega) c2⟩
    . rw [if_pos c3] at jA;rw [jA] at k1 k2 k3;have next:=ih (n+1,m,ts++[p.2.1]) ⟨⟨k1,k2,by rw [List.append_assoc]; exact k3⟩,by show m.length<=16; omega,by show (ts++[p.2.1]).length+m.length<=17; rw [List.length_append,List.length_singleton]; omega,by show 0<=n+1; omega,by show n+1+(m.length:Int)<=20000000; omega⟩ (by show m.length<(p::m).length; simp)
      have nJ:o5 1 ((m.length+1:Nat):Int) (p::m)=m:=jO;rw [nJ];exact ⟨by omega,λ _=>⟨⟨by omega,by omega⟩,λ _=>⟨by omega,λ _=>⟨by omega,λ _=>next⟩⟩⟩⟩
    . rw [if_neg c3] at jA;rw [hd,jA,List.append_nil]; rfl
attribute [local irreducible] Go.Ex.exec
abbrev FrD:=Int×List yY×Unit
abbrev p7:=Bool×List E5×FrD×ToD×ToD×Unit
abbrev f8:=vP×List p7×List yY×List yY×Unit
def g9:p7:=(false,[],(0,[],()),(0,[],()),(0,[],()),())
def zN:r9:={ ps:=[.v f7,.v f7,.v f7],rs:=[.bool],pre:=λ _=>True,fn:=λ x=>(H6 x.1 x.2.1 x.2.2.1,()),out:=λ _=>() }
noncomputable def FU:Env:={ P:=Tryz.prog,tt:=tt,E4:=[],res:=[Go.ResultVar.tmp 6],rs:=[Ty.bool],ps:=[PK.v f7,PK.v f7,PK.v f7],D5:=[],nt:=15 }
theorem Ou:C0 FU:=C7 s9 trivial
theorem NQ:D7 FU Tryz.f40:=⟨rfl,rfl⟩
theorem Ug (x0:Int) (x1:Int) (x2:Int):exec FU 1000 [.code (d9 Tryz.prog 40)] (y8 zN.ps ((x0,x1,x2,()))) =
  cond (decide (x1<=x0)) (.ret ((decide (x0<=x2),()))) (.ret ((false,()))):=by kernel_rfl
theorem Fk:zN.Valid Tryz.prog 40:=by
  refine r9.r7 Ou rfl rfl Tryz.func40 (c:=d9 Tryz.prog 40) rfl rfl NQ rfl ?_;rintro ⟨(n:Int),(a:Int),(b:Int),⟨⟩⟩ - -
  refine j8 (n:=1000) Ou NQ ?_;refine i8 (Ug n a b) ?_;simp only [j7,Tree.holds,sL];refine ⟨λ c=>?_,λ c=>?_⟩
  . show ((decide _,()):Bool×Unit)=(H6 n a b,()); rw [H6,decide_eq_true c,Bool.true_and]
  . show ((false,()):Bool×Unit)=(H6 n a b,()); rw [H6,decide_eq_false c,Bool.false_and]
def tz (m:Int):Int:=(((List.range 8).find? (λ i=>decide (m / 2^i % 2=1))).getD 8:Nat)
def ctz:r9:={ ps:=[.v U8],rs:=[f7],pre:=λ _=>True,fn:=λ x=>(tz x.1,()),out:=λ _=>() }
noncomputable def Etz:Env:={ P:=Tryz.prog,tt:=tt,E4:=[],res:=[Go.ResultVar.tmp 2],rs:=[Ty.int IntKind.i64],ps:=[PK.v U8],D5:=[],nt:=6 }
theorem Mx:C0 Etz:=C7 s9 trivial
theorem My:D7 Etz Tryz.f78:=⟨rfl,rfl⟩
theorem Ux (x0:Int):exec Etz 1000 [.code (d9 Tryz.prog 78)] (y8 ctz.ps ((x0,()))) =
  .f9 ((0:Int)<=x0/\x0<(↑(List.length (Array.toList (ByteArray.data (ByteArray.mk (List.toArray (List.append (List.append ([8,0,1,0,2,0,1,0,3,0,1,0,2,0,1,0,4,0,1,0,2,0,1,0,3,0,1,0,2,0,1,0,5,0,1,0,2,0,1,0,3,0,1,0,2,0,1,0,4,0,1,0,2,0,1,0,3,0,1,0,2,0,1,0]:yY) ([6,0,1,0,2,0,1,0,3,0,1,0,2,0,1,0,4,0,1,0,2,0,1,0,3,0,1,0,2,0,1,0,5,0,1,0,2,0,1,0,3,0,1,0,2,0,1,0,4,0,1,0,2,0,1,0,3,0,1,0,2,0,1,0]:yY)) (List.append ([7,0,1,0,2,0,1,0,3,0,1,0,2,0,1,0,4,0,1,0,2,0,1,0,3,0,1,0,2,0,1,0,5,0,1,0,2,0,1,0,3,0,1,0,2,0,1,0,4,0,1,0,2,0,1,0,3,0,1,0,2,0,1,0]:yY) ([6,0,1,0,2,0,1,0,3,0,1,0,2,0,1,0,4,0,1,0,2,0,1,0,3,0,1,0,2,0,1,0,5,0,1,0,2,0,1,0,3,0,1,0,2,0,1,0,4,0,1,0,2,0,1,0,3,0,1,0,2,0,1,0]:yY)))))))):Int)) (.ret ((IntKind.wrap IntKind.i64 (↑(UInt8.toNat (List.getD (Array.toList (ByteArray.data (ByteArray.mk (List.toArray (List.append (List.append ([8,0,1,0,2,0,1,0,3,0,1,0,2,0,1,0,4,0,1,0,2,0,1,0,3,0,1,0,2,0,1,0,5,0,1,0,2,0,1,0,3,0,1,0,2,0,1,0,4,0,1,0,2,0,1,0,3,0,1,0,2,0,1,0]:yY) ([6,0,1,0,2,0,1,0,3,0,1,0,2,0,1,0,4,0,1,0,2,0,1,0,3,0,1,0,2,0,1,0,5,0,1,0,2,0,1,0,3,0,1,0,2,0,1,0,4,0,1,0,2,0,1,0,3,0,1,0,2,0,1,0]:yY)) (List.append ([7,0,1,0,2,0,1,0,3,0,1,0,2,0,1,0,4,0,1,0,2,0,1,0,3,0,1,0,2,0,1,0,5,0,1,0,2,0,1,0,3,0,1,0,2,0,1,0,4,0,1,0,2,0,1,0,3,0,1,0,2,0,1,0]:yY) ([6,0,1,0,2,0,1,0,3,0,1,0,2,0,1,0,4,0,1,0,2,0,1,0,3,0,1,0,2,0,1,0,5,0,1,0,2,0,1,0,3,0,1,0,2,0,1,0,4,0,1,0,2,0,1,0,3,0,1,0,2,0,1,0]:yY))))))) (Int.toNat x0) (0:UInt8))):Int),()))):=by kernel_rfl
theorem YU:ctz.Valid Tryz.prog 78:=by
  refine r9.r7 Mx rfl rfl Tryz.func78 (c:=d9 Tryz.prog 78) rfl rfl My rfl ?_;rintro ⟨(x0:Int),⟨⟩⟩ - ⟨h0,-⟩;refine j8 (n:=1000) Mx My ?_;refine i8 (Ux x0) ?_;have g0:0<=x0/\x0<=255:=h0;obtain ⟨n,rfl⟩:∃ n:Fin 256,x0=((n.val:Nat):Int):=⟨⟨x0.toNat,by omega⟩,by simp; omega⟩;refine ⟨?_,λ _=>?_⟩
  . clear h0 g0; revert n; decide +kernel
  . show ((_,()):Int×Unit)=(tz n,());clear h0 g0; revert n; decide +kernel
def Aj (v:vP):Int×Int×Unit:=if S9 v≠0 then (0,S9 v,()) else (tz v.2.1,0,())
def Ed:r9:={ ps:=[.v View],rs:=[f7,f7],pre:=λ _=>True,fn:=λ x=>Aj x.1,out:=λ _=>() }
noncomputable def Hv:Env:={ P:=Tryz.prog,tt:=tt,E4:=[(70,BP),(78,ctz)],res:=[Go.ResultVar.tmp 2,Go.ResultVar.tmp 3],rs:=[Ty.int IntKind.i64,Ty.int IntKind.i64],ps:=[PK.v View],D5:=[],nt:=13 }
theorem QM:C0 Hv:=C7 s9 ⟨TD,YU,trivial⟩
theorem Qw:D7 Hv Tryz.f61:=⟨rfl,rfl⟩
theorem Xn (aT:Int) (ab:Int):exec Hv 1000 [.code (d9 Tryz.prog 61)] (y8 Ed.ps (((aT,ab,()),()))) =
  .f9 (True) (cond (decide (S9 (aT,ab,())≠(0:Int))) (.ret (((0:Int),S9 (aT,ab,()),()))) (.f9 (True) (.ret ((tz ab,(0:Int),()))))):=by kernel_rfl
theorem b6z:Ed.Valid Tryz.prog 61:=by
  refine r9.r7 QM rfl rfl Tryz.func61 (c:=d9 Tryz.prog 61) rfl rfl Qw rfl ?_;rintro ⟨⟨(x0:Int),(x1:Int),⟨⟩⟩,⟨⟩⟩ - -
  refine j8 (n:=1000) QM Qw ?_;refine i8 (Xn x0 x1) ?_;simp only [j7,Tree.holds,sL];have key:∀ r:Int×Int×Unit,Aj (x0,x1,())=r->((r:DL [Ty.int .i64,Ty.int .i64])=Ed.fn ((x0,x1,()),())):=by rintro r rfl; rfl
  refine ⟨λ a=>key _ ?_,λ a=>key _ ?_⟩
  . rw [Aj,if_pos a]; rfl
  . rw [Aj,if_neg a]; rfl
def l4 (w:f8) (p:Int):Bool:=H6 p 0 ((w.2.1.length:Int) - 1) && decide (U2 .u8 (w.1.2.1 / (2:Int)^min p.toNat IntKind.u8.bits) 1=1) && !(w.2.1.getD p.toNat g9).1
def yS:r9:={ ps:=[.rd N9,.v f7],rs:=[.bool],pre:=λ x=>List.length (α:=p7) (x.1:f8).2.1<=6,fn:=λ x=>(l4 x.1 x.2.1,()),out:=λ _=>() }
noncomputable def Gg:Env:={ P:=Tryz.prog,tt:=tt,E4:=[(40,zN)],res:=[Go.ResultVar.tmp 4],rs:=[Ty.bool],ps:=[PK.rd N9,PK.v f7],D5:=[],nt:=35 }
theorem Pl:C0 Gg:=C7 s9 ⟨Fk,trivial⟩
theorem Pb:D7 Gg Tryz.f47:=⟨rfl,rfl⟩
theorem UZ (aj:Int) (af:Int) (ab:List p7) (ae:List yY) (aa:List yY) (x1:Int):exec Gg 1000 [.code (d9 Tryz.prog 47)] (y8 yS.ps ((((aj,af,()),ab,ae,aa,()),x1,()))) =
  .f9 (u7 IntKind.i64 ((↑(List.length ab):Int) - (1:Int))) (.f9 (True) (cond (H6 x1 (0:Int) ((↑(List.length ab):Int) - (1:Int))) (.f9 ((0:Int)<=x1) (cond (decide (U2 IntKind.u8 (af / (2:Int)^min (Int.toNat x1) (IntKind.bits IntKind.u8)) (1:Int)=(1:Int))) (.f9 ((0:Int)<=x1/\x1<(↑(List.length ab):Int)) (.ret ((!Prod.fst (List.getD ab (Int.toNat x1) (false,[],((0:Int),[],()),((0:Int),[],()),((0:Int),[],()),())),())))) (.ret ((false,()))))) (.ret ((false,()))))):=by kernel_rfl
theorem CE:yS.Valid Tryz.prog 47:=by
  refine r9.r7 Pl rfl rfl Tryz.func47 (c:=d9 Tryz.prog 47) rfl rfl Pb rfl ?_;rintro ⟨⟨⟨(v0:Int),(v1:Int),⟨⟩⟩,(al:List p7),(od:List yY),(wy:List yY),⟨⟩⟩,(p:Int),⟨⟩⟩ (hp:al.length<=6) -
  refine j8 (n:=1000) Pl Pb ?_;refine i8 (UZ v0 v1 al od wy p) ?_;simp only [j7,Tree.holds,sL];have key:∀ r:Bool,l4 ((v0,v1,()),al,od,wy,()) p=r->(((r,()):Bool×Unit)=(l4 ((v0,v1,()),al,od,wy,()) p,())):=by rintro r rfl; rfl
  refine ⟨⟨by omega,by omega⟩,λ _=>⟨λ a=>⟨(M8.1 a).1,λ _=>⟨λ b=>⟨⟨(M8.1 a).1,by have:=(M8.1 a).2; show p<(al.length:Int); omega⟩,λ _=>key _ ?_⟩,λ b=>key _ ?_⟩⟩,λ a=>key _ ?_⟩⟩
  . show (H6 p 0 ((al.length:Int) - 1) && _ && _)=_;rw [a,Bool.true_and];exact congrArg (· && _) (decide_eq_true b)
  . show (H6 p 0 ((al.length:Int) - 1) && decide _ && _)=_;rw [a,Bool.true_and,decide_eq_false b]; rfl
  . show (H6 p 0 ((al.length:Int) - 1) && _ && _)=_;rw [a]; rfl
def known (w:f8) (p:Int):Int:=if H6 p 0 ((w.2.1.length:Int) - 1)=true then 0 else 1
def zj:r9:={ ps:=[.rd N9,.v f7],rs:=[f7],pre:=λ x=>List.length (α:=p7) (x.1:f8).2.1<=6,fn:=λ x=>(known x.1 x.2.1,()),out:=λ _=>() }
noncomputable def HZ:Env:={ P:=Tryz.prog,tt:=tt,E4:=[(40,zN)],res:=[Go.ResultVar.tmp 4],rs:=[Ty.int IntKind.i64],ps:=[PK.rd N9,PK.v f7],D5:=[],nt:=14 }
theorem RL:C0 HZ:=C7 s9 ⟨Fk,trivial⟩
theorem Se:D7 HZ Tryz.f49:=⟨rfl,rfl⟩
theorem XJ (aj:Int) (af:Int) (ab:List p7) (ae:List yY) (aa:List yY) (x1:Int):exec HZ 1000 [.code (d9 Tryz.prog 49)] (y8 zj.ps ((((aj,af,()),ab,ae,aa,()),x1,()))) =
  .f9 (u7 IntKind.i64 ((↑(List.length ab):Int) - (1:Int))) (.f9 (True) (cond (!H6 x1 (0:Int) ((↑(List.length ab):Int) - (1:Int))) (.ret (((1:Int),()))) (.ret (((0:Int),()))))):=by kernel_rfl
theorem CN:zj.Valid Tryz.prog 49:=by
  refine r9.r7 RL rfl rfl Tryz.func49 (c:=d9 Tryz.prog 49) rfl rfl Se rfl ?_;rintro ⟨⟨⟨(v0:Int),(v1:Int),⟨⟩⟩,(al:List p7),(od:List yY),(wy:List yY),⟨⟩⟩,(p:Int),⟨⟩⟩ (hp:al.length<=6) -
  refine j8 (n:=1000) RL Se ?_;refine i8 (XJ v0 v1 al od wy p) ?_;simp only [j7,Tree.holds,sL];have key:∀ r:Int,known ((v0,v1,()),al,od,wy,()) p=r->(((r,()):Int×Unit)=(known ((v0,v1,()),al,od,wy,()) p,())):=by rintro r rfl; rfl
  refine ⟨⟨by omega,by omega⟩,λ _=>⟨λ a=>key _ ?_,λ a=>key _ ?_⟩⟩
  . exact if_neg (by simpa using a)
  . exact if_pos (by simpa using a)
def K8 (w:f8) (p:Int):Int:=if known w p≠0 then known w p else if l4 w p=true then 0 else 11
def DN:r9:={ ps:=[.rd N9,.v f7],rs:=[f7],pre:=λ x=>List.length (α:=p7) (x.1:f8).2.1<=6,fn:=λ x=>(K8 x.1 x.2.1,()),out:=λ _=>() }
noncomputable def Hn:Env:={ P:=Tryz.prog,tt:=tt,E4:=[(49,zj),(47,yS)],res:=[Go.ResultVar.tmp 4],rs:=[Ty.int IntKind.i64],ps:=[PK.rd N9,PK.v f7],D5:=[],nt:=16 }
theorem Qo:C0 Hn:=C7 s9 ⟨CN,CE,trivial⟩
theorem QD:D7 Hn Tryz.f41:=⟨rfl,rfl⟩
theorem Xv (aj:Int) (af:Int) (ab:List p7) (ae:List yY) (aa:List yY) (x1:Int):exec Hn 1000 [.code (d9 Tryz.prog 41)] (y8 DN.ps ((((aj,af,()),ab,ae,aa,()),x1,()))) =
  .f9 (List.length ab<=6) (cond (decide (known ((aj,af,()),ab,ae,aa,()) x1≠(0:Int))) (.ret ((known ((aj,af,()),ab,ae,aa,()) x1,()))) (.f9 (List.length ab<=6) (cond (!l4 ((aj,af,()),ab,ae,aa,()) x1) (.ret (((11:Int),()))) (.ret (((0:Int),())))))):=by kernel_rfl
theorem SM:DN.Valid Tryz.prog 41:=by
  refine r9.r7 Qo rfl rfl Tryz.func41 (c:=d9 Tryz.prog 41) rfl rfl QD rfl ?_;rintro ⟨⟨⟨(v0:Int),(v1:Int),⟨⟩⟩,(al:List p7),(od:List yY),(wy:List yY),⟨⟩⟩,(p:Int),⟨⟩⟩ (hp:al.length<=6) -
  refine j8 (n:=1000) Qo QD ?_;refine i8 (Xv v0 v1 al od wy p) ?_;simp only [j7,Tree.holds,sL];have key:∀ r:Int,K8 ((v0,v1,()),al,od,wy,()) p=r->(((r,()):Int×Unit)=(K8 ((v0,v1,()),al,od,wy,()) p,())):=by rintro r rfl; rfl
  refine ⟨hp,λ _=>⟨λ a=>key _ ?_,λ a=>⟨hp,λ _=>⟨λ b=>key _ ?_,λ b=>key _ ?_⟩⟩⟩⟩
  . exact if_pos a
  . rw [K8,if_neg (by simpa using a),if_neg (by simpa using b)]
  . rw [K8,if_neg (by simpa using a),if_pos (by simpa using b)]
def s7 (w:f8):Int:=(Aj w.1).1
def zO:r9:={ ps:=[.rd N9],rs:=[f7],pre:=λ _=>True,fn:=λ x=>(s7 x.1,()),out:=λ _=>() }
noncomputable def Gk:Env:={ P:=Tryz.prog,tt:=tt,E4:=[(61,Ed)],res:=[Go.ResultVar.tmp 2],rs:=[Ty.int IntKind.i64],ps:=[PK.rd N9],D5:=[],nt:=14 }
theorem OM:C0 Gk:=C7 s9 ⟨b6z,trivial⟩
theorem Pf:D7 Gk Tryz.f44:=⟨rfl,rfl⟩
theorem Vd (aj:Int) (af:Int) (ab:List p7) (ae:List yY) (aa:List yY):exec Gk 1000 [.code (d9 Tryz.prog 44)] (y8 zO.ps ((((aj,af,()),ab,ae,aa,()),()))) =
  .f9 (True) (.ret ((Prod.fst (Aj (aj,af,())),()))):=by kernel_rfl
theorem Fl:zO.Valid Tryz.prog 44:=by
  refine r9.r7 OM rfl rfl Tryz.func44 (c:=d9 Tryz.prog 44) rfl rfl Pf rfl ?_;rintro ⟨⟨⟨(v0:Int),(v1:Int),⟨⟩⟩,(al:List p7),(od:List yY),(wy:List yY),⟨⟩⟩,⟨⟩⟩ - -
  refine j8 (n:=1000) OM Pf ?_;refine i8 (Vd v0 v1 al od wy) ?_;exact ⟨trivial,λ _=>rfl⟩
def M0 (w:f8) (k f t s:Int) (x:yY):f8 :=
  let r:=U3 (k,f,t,w.1.1,s,[0,0,0,0,0,0],x,())
  if r.2.1=0/\(w.2.2.2.1.length:Int)<60 then (w.1,w.2.1,w.2.2.1,w.2.2.2.1++[r.1],()) else w
theorem Cx {w:f8} {k f t s:Int} {x:yY} (h:(U3 (k,f,t,w.1.1,s,[0,0,0,0,0,0],x,())).2.1=0) (h2:(w.2.2.2.1.length:Int)<60) :
    M0 w k f t s x=(w.1,w.2.1,w.2.2.1,w.2.2.2.1++[(U3 (k,f,t,w.1.1,s,[0,0,0,0,0,0],x,())).1],()):=by
  unfold M0; exact if_pos ⟨h,h2⟩
theorem Cw {w:f8} {k f t s:Int} {x:yY} (h:¬ ((U3 (k,f,t,w.1.1,s,[0,0,0,0,0,0],x,())).2.1=0/\(w.2.2.2.1.length:Int)<60)) :
    M0 w k f t s x=w:=by
  unfold M0; exact if_neg h
def Ad:r9:={ ps:=[.rw r8,.v f7,.v f7,.v f7,.v f7,.v .str],rs:=[],pre:=λ _=>True,fn:=λ _=>(),out:=λ x=>(M0 x.1 x.2.1 x.2.2.1 x.2.2.2.1 x.2.2.2.2.1 x.2.2.2.2.2.1,()) }
noncomputable def Hm:Env:={ P:=Tryz.prog,tt:=tt,E4:=[(60,GH)],res:=[],rs:=[],ps:=[PK.rw r8,PK.v f7,PK.v f7,PK.v f7,PK.v f7,PK.v Ty.str],D5:=[],nt:=49 }
theorem Qn:C0 Hm:=C7 s9 ⟨b8k,trivial⟩
theorem QC:D7 Hm Tryz.f43:=⟨rfl,rfl⟩
theorem Xt (aj:Int) (af:Int) (ab:List p7) (ae:List yY) (aa:List yY) (x1:Int) (x2:Int) (x3:Int) (x4:Int) (x5:yY):exec Hm 1000 [.code (d9 Tryz.prog 43)] (y8 Ad.ps ((((aj,af,()),ab,ae,aa,()),x1,x2,x3,x4,x5,()))) =
  .f9 (True) (cond (decide (Prod.fst (Prod.snd (U3 (x1,x2,x3,aj,x4,[(0:Int),(0:Int),(0:Int),(0:Int),(0:Int),(0:Int)],x5,())))=(0:Int))) (cond (decide ((↑(List.length aa):Int)<(60:Int))) (.f9 (True/\True/\[]++[Step.l8 3]=[]++[Step.l8 3]/\List.length aa+List.length (List.set [[]] (Int.toNat (↑0:Int)) (Prod.fst (U3 (x1,x2,x3,aj,x4,[(0:Int),(0:Int),(0:Int),(0:Int),(0:Int),(0:Int)],x5,()))))<=140737488355328/\(List.length aa+List.length (List.set [[]] (Int.toNat (↑0:Int)) (Prod.fst (U3 (x1,x2,x3,aj,x4,[(0:Int),(0:Int),(0:Int),(0:Int),(0:Int),(0:Int)],x5,())))))*Ty.wb Ty.str<=140737488355328) (.ret ((((aj,af,()),ab,ae,aa++List.set [[]] (Int.toNat (↑0:Int)) (Prod.fst (U3 (x1,x2,x3,aj,x4,[(0:Int),(0:Int),(0:Int),(0:Int),(0:Int),(0:Int)],x5,()))),()),())))) (.ret ((((aj,af,()),ab,ae,aa,()),())))) (.ret ((((aj,af,()),ab,ae,aa,()),())))):=by kernel_rfl
attribute [local irreducible] U3 M0 in
theorem Fy:Ad.Valid Tryz.prog 43:=by
  refine r9.r7 Qn rfl rfl Tryz.func43 (c:=d9 Tryz.prog 43) rfl rfl QC rfl ?_;rintro ⟨⟨⟨(v0:Int),(v1:Int),⟨⟩⟩,(al:List p7),(od:List yY),(wy:List yY),⟨⟩⟩,(k:Int),(f:Int),(t:Int),(s:Int),(x:yY),⟨⟩⟩ - -
  refine j8 (n:=1000) Qn QC ?_;refine i8 (Xt v0 v1 al od wy k f t s x) ?_;simp only [j7,Tree.holds,sL];have key:∀ r:f8,M0 ((v0,v1,()),al,od,wy,()) k f t s x=r->(((r,()):f8×Unit)=(M0 ((v0,v1,()),al,od,wy,()) k f t s x,())):=by rintro r rfl; rfl
  refine ⟨λ a=>⟨λ b=>⟨?_,λ _=>key _ ?_⟩,λ b=>key _ ?_⟩,λ a=>key _ ?_⟩
  . have b':wy.length<60:=by exact_mod_cast b
    refine ⟨?_,?_⟩
    . show wy.length+1<=140737488355328; omega
    . show (wy.length+1)*16<=140737488355328; omega
  . exact Cx a b
  . exact Cw (λ h=>b h.2)
  . exact Cw (λ h=>a h.1)
def vQ (w:f8) (p:Int):f8×Int :=
  if known w p≠0 then (w,known w p) else ((w.1,w.2.1.set p.toNat (true,(w.2.1.getD p.toNat g9).2),w.2.2),0)
def Gx:r9:={ ps:=[.rw r8,.v f7],rs:=[f7],pre:=λ x=>List.length (α:=p7) (x.1:f8).2.1<=6,fn:=λ x=>((vQ x.1 x.2.1).2,()),out:=λ x=>((vQ x.1 x.2.1).1,()) }
noncomputable def Hy:Env:={ P:=Tryz.prog,tt:=tt,E4:=[(49,zj)],res:=[Go.ResultVar.tmp 4],rs:=[Ty.int IntKind.i64],ps:=[PK.rw r8,PK.v f7],D5:=[],nt:=19 }
theorem QP:C0 Hy:=C7 s9 ⟨CN,trivial⟩
theorem Qz:D7 Hy Tryz.f37:=⟨rfl,rfl⟩
theorem Xq (aj:Int) (af:Int) (ab:List p7) (ae:List yY) (aa:List yY) (x1:Int):exec Hy 1000 [.code (d9 Tryz.prog 37)] (y8 Gx.ps ((((aj,af,()),ab,ae,aa,()),x1,()))) =
  .f9 (List.length ab<=6) (cond (decide (known ((aj,af,()),ab,ae,aa,()) x1≠(0:Int))) (.ret ((known ((aj,af,()),ab,ae,aa,()) x1,((aj,af,()),ab,ae,aa,()),()))) (.f9 ((0:Int)<=x1/\x1<(↑(List.length ab):Int)) (.ret (((0:Int),((aj,af,()),List.set ab (Int.toNat x1) (true,Prod.snd (List.getD ab (Int.toNat x1) (false,[],((0:Int),[],()),((0:Int),[],()),((0:Int),[],()),()))),ae,aa,()),()))))):=by kernel_rfl
theorem b8x:Gx.Valid Tryz.prog 37:=by
  refine r9.r7 QP rfl rfl Tryz.func37 (c:=d9 Tryz.prog 37) rfl rfl Qz rfl ?_;rintro ⟨⟨⟨(v0:Int),(v1:Int),⟨⟩⟩,(al:List p7),(od:List yY),(wy:List yY),⟨⟩⟩,(p:Int),⟨⟩⟩ (hp:al.length<=6) -
  refine j8 (n:=1000) QP Qz ?_;refine i8 (Xq v0 v1 al od wy p) ?_;simp only [j7,Tree.holds,sL];have key:∀ r:f8×Int,vQ ((v0,v1,()),al,od,wy,()) p=r->(((r.2,r.1,()):Int×f8×Unit)=((vQ ((v0,v1,()),al,od,wy,()) p).2,(vQ ((v0,v1,()),al,od,wy,()) p).1,())):=by rintro r rfl; rfl
  have dz:¬ known ((v0,v1,()),al,od,wy,()) p≠0->0<=p/\p<(al.length:Int):=by
    intro a;unfold known at a;split at a
    . rename_i hb;have:=M8.1 hb;simp only at this; omega
    . exact absurd (by decide) a
  refine ⟨hp,λ _=>⟨λ a=>key (_,_) ?_,λ a=>⟨dz a,λ _=>key (_,_) ?_⟩⟩⟩
  . rw [vQ,if_pos a]; rfl
  . rw [vQ,if_neg a]; rfl
def ttW:List (TypeId×TI):=(78,TI.mk R4 32)::(83,TI.mk ToT 32)::tt
theorem Nb:ttW.all (xr Tryz.prog)=true:=by kernel_rfl
def Ma:r9:={ ps:=[.v R4,.v .str],rs:=[R4,f7],new:=true,pre:=GD.pre,fn:=λ x=>K3 x.1 x.2.1,out:=λ _=>() }
theorem ZX:Ma.Valid Tryz.prog 42:=b8o.share (rs':=[R4,f7]) rfl rfl rfl
def MO:r9:={ ps:=[.v R4,.v f7],rs:=[R4,f7],new:=true,pre:=Iy.pre,fn:=λ x=>R9 x.1 x.2.1,out:=λ _=>() }
theorem b6x:MO.Valid Tryz.prog 86:=b4V.share (rs':=[R4,f7]) rfl rfl rfl
def Hh:r9:={ ps:=[.v ToT,.v w4],rs:=[ToT,.d8 true .str,f7],new:=true,pre:=HC.pre,fn:=λ x=>E2 x.1 x.2.1,out:=λ _=>() }
theorem SL:Hh.Valid Tryz.prog 83:=b6s.share (rs':=[ToT,.d8 true .str,f7]) rfl rfl rfl
end Go.Proofs.YtijlnmgondibnaaGreatDoor
