import Derived.Test.YtijlnmgondibnaaGreatDoorProg
import Derived.Test.YtijlnmgondibnaaGreatDoorExW
import Derived.Test.YtijlnmgondibnaaGreatDoorRows
import Derived.Lib.LaidU8
import Derived.LaidMore
import Derived.LaidSub
import Derived.Shelf.Vars
import Derived.JoinedCond
import Derived.WalkKit
import Derived.Lib.Walk
import Derived.Shelf.RegionOpenPlain
import Derived.Lib.SliceRun
import Derived.Lib.Overlaps
import Derived.Lib.AppendZerosOnto
import Derived.Laws.Externs
import Derived.Laws.IdiomCopy
import Derived.Laws.NewBlocks
set_option linter.unusedVariables false
set_option linter.unusedSimpArgs false
set_option linter.unusedSectionVars false
namespace Go.Proofs.YtijlnmgondibnaaGreatDoor
open Go.Ex
set_option maxRecDepth 100000
abbrev e8:Ty:=.int .i64
abbrev U8:Ty:=.int .u8
abbrev Is:Ty:=.d0 true e8
abbrev X7:Ty:=.arr 6 e8
abbrev LQ:Ty:=.pair e8 (.pair e8 .unit)
abbrev uU:Ty:=.arr 10 e8
abbrev View:Ty:=.pair e8 (.pair U8 .unit)
abbrev r8:Ty:=.pair e8 (.pair .str .unit)
abbrev ToT:Ty:=.pair e8 (.pair (.d0 false r8) .unit)
abbrev ToO:Ty:=.pair e8 (.pair (.d0 true r8) .unit)
abbrev P7:Ty:=.pair e8 (.pair (.d0 false .str) .unit)
abbrev LO:Ty:=.pair e8 (.pair (.d0 true .str) .unit)
abbrev zf:Ty:=.pair e8 (.pair e8 (.pair e8 (.pair e8 (.pair e8 (.pair X7 (.pair .str .unit))))))
abbrev wH:Ty:=.pair .bool (.pair (.d0 true r8) (.pair P7 (.pair ToT (.pair ToT .unit))))
abbrev r9:Ty:=.pair View (.pair (.d0 true wH) (.pair (.d0 true .str) (.pair (.d0 true .str) .unit)))
abbrev TN:Ty:=.pair .bool (.pair (.d0 false r8) (.pair P7 (.pair ToT (.pair ToT .unit))))
abbrev K8:Ty:=.pair View (.pair (.d0 false TN) (.pair (.d0 false .str) (.pair (.d0 false .str) .unit)))
abbrev xx:Ty:=.pair e8 (.pair e8 (.pair e8 (.pair .str .unit)))
abbrev L9:Ty:=.d0 false r8
abbrev X9:Ty:=.pair .bool (.pair (.y8 r8) (.pair P7 (.pair ToT (.pair ToT .unit))))
abbrev Z2:Ty:=.pair View (.pair (.d0 true X9) (.pair (.d0 true .str) (.pair (.d0 true .str) .unit)))
def tt:List (TypeId×TI):=[(2,TI.mk (Ty.int IntKind.i64) 8),(3,TI.mk (Ty.int IntKind.i64) 8),(4,TI.mk Ty.bool 1),(5,TI.mk (Ty.int IntKind.u8) 1),(6,TI.mk (Ty.int IntKind.u8) 1),(7,TI.mk (Ty.pair (Ty.int IntKind.i64) (Ty.pair (Ty.int IntKind.i64) (Ty.pair Ty.bool (Ty.pair (Ty.int IntKind.u8) Ty.unit)))) 24),(8,TI.mk (Ty.pair (Ty.int IntKind.i64) (Ty.pair (Ty.int IntKind.i64) (Ty.pair Ty.bool (Ty.pair (Ty.int IntKind.u8) Ty.unit)))) 24),(9,TI.mk Ty.str 16),(10,TI.mk Ty.str 16),(11,TI.mk Ty.str 16),(12,TI.mk (Ty.int IntKind.u64) 8),(13,TI.mk (Ty.pair Ty.str (Ty.pair (Ty.int IntKind.u64) Ty.unit)) 24),(14,TI.mk (Ty.pair Ty.str (Ty.pair (Ty.int IntKind.u64) Ty.unit)) 24),(21,TI.mk (Ty.int IntKind.i32) 4),(22,TI.mk (Ty.d0 true Ty.str) 24),(26,TI.mk (Ty.int IntKind.i64) 8),(33,TI.mk (Ty.d0 true (Ty.pair (Ty.int IntKind.i64) (Ty.pair Ty.str Ty.unit))) 24),(39,TI.mk (Ty.pair (Ty.int IntKind.i64) (Ty.pair Ty.str Ty.unit)) 24),(40,TI.mk (Ty.pair (Ty.int IntKind.i64) (Ty.pair Ty.str Ty.unit)) 24),(43,TI.mk (Ty.d0 true (Ty.pair (Ty.int IntKind.i64) (Ty.pair (Ty.int IntKind.i64) (Ty.pair (Ty.int IntKind.i64) (Ty.pair Ty.str Ty.unit))))) 24),(44,TI.mk (Ty.d0 true (Ty.d0 true Ty.str)) 24),(45,TI.mk (Ty.d0 true (Ty.int IntKind.i64)) 24),(53,TI.mk (Ty.arr 6 (Ty.d0 true Ty.str)) 144),(55,TI.mk (Ty.map true (Ty.int IntKind.i64) (Ty.int IntKind.i64)) 8),(56,TI.mk (Ty.pair (Ty.int IntKind.i64) (Ty.pair (Ty.int IntKind.u8) Ty.unit)) 16),(57,TI.mk (Ty.pair (Ty.int IntKind.i64) (Ty.pair (Ty.int IntKind.u8) Ty.unit)) 16),(59,TI.mk (Ty.arr 10 (Ty.int IntKind.i64)) 80),(60,TI.mk (Ty.arr 10 (Ty.int IntKind.i64)) 80),(68,TI.mk (Ty.d0 true (Ty.d0 true (Ty.pair (Ty.int IntKind.i64) (Ty.pair Ty.str Ty.unit)))) 24),(69,TI.mk (Ty.pair (Ty.int IntKind.i64) (Ty.pair (Ty.int IntKind.i64) (Ty.pair (Ty.int IntKind.i64) (Ty.pair Ty.str Ty.unit)))) 40),(70,TI.mk (Ty.pair (Ty.int IntKind.i64) (Ty.pair (Ty.int IntKind.i64) (Ty.pair (Ty.int IntKind.i64) (Ty.pair Ty.str Ty.unit)))) 40),(74,TI.mk (Ty.d0 true (Ty.pair Ty.bool (Ty.pair (Ty.d0 true (Ty.pair (Ty.int IntKind.i64) (Ty.pair Ty.str Ty.unit))) (Ty.pair (Ty.pair (Ty.int IntKind.i64) (Ty.pair (Ty.d0 true Ty.str) Ty.unit)) (Ty.pair (Ty.pair (Ty.int IntKind.i64) (Ty.pair (Ty.d0 true (Ty.pair (Ty.int IntKind.i64) (Ty.pair Ty.str Ty.unit))) Ty.unit)) (Ty.pair (Ty.pair (Ty.int IntKind.i64) (Ty.pair (Ty.d0 true (Ty.pair (Ty.int IntKind.i64) (Ty.pair Ty.str Ty.unit))) Ty.unit)) Ty.unit)))))) 24),(75,TI.mk (Ty.pair (Ty.pair (Ty.int IntKind.i64) (Ty.pair (Ty.int IntKind.u8) Ty.unit)) (Ty.pair (Ty.d0 true (Ty.pair Ty.bool (Ty.pair (Ty.d0 true (Ty.pair (Ty.int IntKind.i64) (Ty.pair Ty.str Ty.unit))) (Ty.pair (Ty.pair (Ty.int IntKind.i64) (Ty.pair (Ty.d0 true Ty.str) Ty.unit)) (Ty.pair (Ty.pair (Ty.int IntKind.i64) (Ty.pair (Ty.d0 true (Ty.pair (Ty.int IntKind.i64) (Ty.pair Ty.str Ty.unit))) Ty.unit)) (Ty.pair (Ty.pair (Ty.int IntKind.i64) (Ty.pair (Ty.d0 true (Ty.pair (Ty.int IntKind.i64) (Ty.pair Ty.str Ty.unit))) Ty.unit)) Ty.unit)))))) (Ty.pair (Ty.d0 true Ty.str) (Ty.pair (Ty.d0 true Ty.str) Ty.unit)))) 88),(76,TI.mk (Ty.pair (Ty.pair (Ty.int IntKind.i64) (Ty.pair (Ty.int IntKind.u8) Ty.unit)) (Ty.pair (Ty.d0 true (Ty.pair Ty.bool (Ty.pair (Ty.d0 true (Ty.pair (Ty.int IntKind.i64) (Ty.pair Ty.str Ty.unit))) (Ty.pair (Ty.pair (Ty.int IntKind.i64) (Ty.pair (Ty.d0 true Ty.str) Ty.unit)) (Ty.pair (Ty.pair (Ty.int IntKind.i64) (Ty.pair (Ty.d0 true (Ty.pair (Ty.int IntKind.i64) (Ty.pair Ty.str Ty.unit))) Ty.unit)) (Ty.pair (Ty.pair (Ty.int IntKind.i64) (Ty.pair (Ty.d0 true (Ty.pair (Ty.int IntKind.i64) (Ty.pair Ty.str Ty.unit))) Ty.unit)) Ty.unit)))))) (Ty.pair (Ty.d0 true Ty.str) (Ty.pair (Ty.d0 true Ty.str) Ty.unit)))) 88),(77,TI.mk (Ty.pair (Ty.int IntKind.i64) (Ty.pair (Ty.d0 true Ty.str) Ty.unit)) 32),(78,TI.mk (Ty.pair (Ty.int IntKind.i64) (Ty.pair (Ty.d0 true Ty.str) Ty.unit)) 32),(81,TI.mk (Ty.d0 true (Ty.pair (Ty.int IntKind.i64) (Ty.pair Ty.str Ty.unit))) 24),(82,TI.mk (Ty.pair (Ty.int IntKind.i64) (Ty.pair (Ty.d0 true (Ty.pair (Ty.int IntKind.i64) (Ty.pair Ty.str Ty.unit))) Ty.unit)) 32),(83,TI.mk (Ty.pair (Ty.int IntKind.i64) (Ty.pair (Ty.d0 true (Ty.pair (Ty.int IntKind.i64) (Ty.pair Ty.str Ty.unit))) Ty.unit)) 32),(84,TI.mk (Ty.pair Ty.bool (Ty.pair (Ty.d0 true (Ty.pair (Ty.int IntKind.i64) (Ty.pair Ty.str Ty.unit))) (Ty.pair (Ty.pair (Ty.int IntKind.i64) (Ty.pair (Ty.d0 true Ty.str) Ty.unit)) (Ty.pair (Ty.pair (Ty.int IntKind.i64) (Ty.pair (Ty.d0 true (Ty.pair (Ty.int IntKind.i64) (Ty.pair Ty.str Ty.unit))) Ty.unit)) (Ty.pair (Ty.pair (Ty.int IntKind.i64) (Ty.pair (Ty.d0 true (Ty.pair (Ty.int IntKind.i64) (Ty.pair Ty.str Ty.unit))) Ty.unit)) Ty.unit))))) 128),(85,TI.mk (Ty.pair Ty.bool (Ty.pair (Ty.d0 true (Ty.pair (Ty.int IntKind.i64) (Ty.pair Ty.str Ty.unit))) (Ty.pair (Ty.pair (Ty.int IntKind.i64) (Ty.pair (Ty.d0 true Ty.str) Ty.unit)) (Ty.pair (Ty.pair (Ty.int IntKind.i64) (Ty.pair (Ty.d0 true (Ty.pair (Ty.int IntKind.i64) (Ty.pair Ty.str Ty.unit))) Ty.unit)) (Ty.pair (Ty.pair (Ty.int IntKind.i64) (Ty.pair (Ty.d0 true (Ty.pair (Ty.int IntKind.i64) (Ty.pair Ty.str Ty.unit))) Ty.unit)) Ty.unit))))) 128),(88,TI.mk (Ty.arr 6 (Ty.int IntKind.i64)) 48),(89,TI.mk (Ty.arr 6 (Ty.int IntKind.i64)) 48),(90,TI.mk (Ty.pair (Ty.int IntKind.i64) (Ty.pair (Ty.int IntKind.i64) (Ty.pair (Ty.int IntKind.i64) (Ty.pair (Ty.int IntKind.i64) (Ty.pair (Ty.int IntKind.i64) (Ty.pair (Ty.arr 6 (Ty.int IntKind.i64)) (Ty.pair Ty.str Ty.unit))))))) 104),(91,TI.mk (Ty.pair (Ty.int IntKind.i64) (Ty.pair (Ty.int IntKind.i64) (Ty.pair (Ty.int IntKind.i64) (Ty.pair (Ty.int IntKind.i64) (Ty.pair (Ty.int IntKind.i64) (Ty.pair (Ty.arr 6 (Ty.int IntKind.i64)) (Ty.pair Ty.str Ty.unit))))))) 104),(103,TI.mk (Ty.pair (Ty.int IntKind.i64) (Ty.pair Ty.str Ty.unit)) 24),(104,TI.mk (Ty.pair (Ty.int IntKind.i64) (Ty.pair Ty.str Ty.unit)) 24),(115,TI.mk (Ty.d0 true (Ty.int IntKind.u8)) 24),(117,TI.mk (Ty.int IntKind.u32) 4),(119,TI.mk (Ty.int IntKind.u64) 8),(125,TI.mk (Ty.pair (Ty.int IntKind.i64) (Ty.pair (Ty.int IntKind.i64) (Ty.pair (Ty.int IntKind.i64) Ty.unit))) 24),(126,TI.mk (Ty.pair (Ty.int IntKind.i64) (Ty.pair (Ty.int IntKind.i64) (Ty.pair (Ty.int IntKind.i64) Ty.unit))) 24),(158,TI.mk (Ty.arr 24 (Ty.int IntKind.u8)) 24),(159,TI.mk (Ty.int IntKind.u64) 8),(169,TI.mk (Ty.int IntKind.i64) 8),(176,TI.mk (Ty.arr 20 (Ty.int IntKind.u64)) 160),(177,TI.mk (Ty.arr 65 (Ty.int IntKind.u8)) 65),(181,TI.mk (Ty.arr 256 Ty.bool) 256),(182,TI.mk (Ty.arr 256 Ty.bool) 256),(206,TI.mk (Ty.pair Ty.str Ty.unit) 16),(207,TI.mk (Ty.pair Ty.str Ty.unit) 16),(208,TI.mk (Ty.arr 32 (Ty.int IntKind.u8)) 32),(209,TI.mk (Ty.arr 64 (Ty.int IntKind.u8)) 64),(211,TI.mk (Ty.arr 256 (Ty.int IntKind.u8)) 256),(212,TI.mk (Ty.pair (Ty.int IntKind.u8) (Ty.pair (Ty.int IntKind.u8) Ty.unit)) 2),(213,TI.mk (Ty.pair (Ty.int IntKind.u8) (Ty.pair (Ty.int IntKind.u8) Ty.unit)) 2),(214,TI.mk (Ty.arr 16 (Ty.pair (Ty.int IntKind.u8) (Ty.pair (Ty.int IntKind.u8) Ty.unit))) 32),(222,TI.mk (Ty.int IntKind.u8) 1),(223,TI.mk (Ty.int IntKind.u8) 1),(225,TI.mk (Ty.int IntKind.i32) 4),(226,TI.mk (Ty.int IntKind.i32) 4),(25,{ ty:=Ty.box true none r9,by_:=8 }),(94,{ ty:=Ty.fn 79,by_:=8 })]
theorem p9:tt.all (wY Tryz.prog)=true:=by kernel_rfl
theorem own:ownKnob Tryz.prog.godebug=none:=by kernel_rfl
theorem laid:laidOutB Tryz.prog=true:=by kernel_rfl
abbrev _root_.Go.Ex.Tree.ctL {ts:List Ty} (q:Code×List Item) (s:St):Tree ts:=.cut q.1 q.2 s
end Go.Proofs.YtijlnmgondibnaaGreatDoor
namespace Go.Proofs.YtijlnmgondibnaaGreatDoor
open Go.Ex Go.ChangeShapes Go.WideShapes Go.ChangeAt Go.RowKit
set_option maxRecDepth 100000
theorem Yx {X:Type} {enc:TypeId×Value->X} {C:Checked} {os:Os} {f:FuncId} {fn:Func} {s:ChangeSpec} {conds:List PathCond} {apart fresh handsOn again:Bool} {us:List Ty} {tb:TypeId} {a:Assume} {Y:World->Array Value->Prop}
    (hX:∀ (w w':World) (args:Array Value),w.heap=w'.heap->Y w args->Y w' args)
    (own:ownKnob C.prog.godebug=none) (started:os.Started) (noInit:C.prog.inits.idxOf? f=none) (ju:C.prog.funcs[f]?=some fn)
    (witness:∃ (w:World) (tape:Tape) (i:Input),w.os=os/\(w.forCall tape i).Shaped C.prog/\i.vars=[]/\Input.okWide C.prog (w.forCall tape i) .any w.heap.size f i /\
      ((s.pre enc C.prog fn conds apart (w.forCall tape i).memory i.args/\Y (w.forCall tape i).memory i.args)/\sizedMet enc C.prog fn (OpenSpec.ofChange s) apart (w.forCall tape i).memory i.args)/\a.holds C.prog (lone (Frame.enter C.prog f i.args .normal) [] (w.forCall tape i)))
    (hl:laidOutB C.prog=true) (db:yu C.prog fn.params.toList us=true) (gI:s.vars=[]) (hs:∀ ds:List (DataW X),ds.length=fn.params.toList.length->s.fn X ds={ results:=[.lit (.bool true)],args:=ds })
    (eH:fn.resultTypes=#[tb]) (nB:C.prog.underlying tb=some .bool) (hv:(Fz us (λ _=>True)).Valid C.prog f) (dG:∀ W args,W.ShapedOpen C.prog->Y W args->uQ C.prog W (λ b=>b<W.heap.size)) :
    ReturnsInHanded a C os f .any (λ w args=>(s.pre enc C.prog fn conds apart w args/\Y w args)/\sizedMet enc C.prog fn (OpenSpec.ofChange s) apart w args) (s.post enc C.prog fn apart fresh handsOn again):=by
  refine returnsInHanded_of_calls own started noInit witness ?_;intro w tape i _ bZ _ aM aZ pw;obtain ⟨_,_,_,fn',iG,_,_,_,_,dz⟩:=aM;have e:fn'=fn:=Option.some.inj (iG.symm.trans ju);subst e;obtain ⟨⟨⟨ds,gs,before,hw,hc⟩,hx⟩,hz⟩:=aZ;have gH:=DataW.Whole.of_heap (w':=w.forCall tape i) (by rfl) hw;refine (YC (apart:=apart) (fresh:=fresh) (handsOn:=handsOn) (again:=again) hl db gI hs eH nB hv (dG _ _ bZ (hX _ _ _ (by rfl) hx)) (λ _ _=>trivial) dz gH).mono λ e W' ⟨v,he,hp⟩=>?_;subst he;exact ChangeSpec.post_blind hp
theorem MD {P:Program} {W:World} {n:String} {g:Nat} {cs:Array Value} (hg:P.globalNamed n=some g) (h:W.var? P n=some cs):g<W.heap.size:=by
  unfold World.var? at h;rw [hg,Option.bind_some] at h;by_cases bc:g<W.heap.size
  . exact bc
  . rw [Array.getElem?_eq_none (by omega)] at h;cases h
theorem WN {P:Program} {W:World} {n:String} {g:Nat} {v:Value} (hg:P.globalNamed n=some g) (h:W.cell? ⟨g,0,none⟩=some v):∃ cs,W.var? P n=some cs/\cs[0]?=some v:=by
  unfold World.var?;rw [hg,Option.bind_some];unfold World.cell? at h;split at h
  . rename_i cs T fz hh;exact ⟨cs,by rw [hh],h⟩
  . cases h
theorem Vk {l:List (String×DataW Unit)} {W:World} (bZ:W.ShapedOpen Tryz.prog) (hl:laidMetH Tryz.prog l W) (hf:(l.filter λ x=>x.2.handleName?.isSome)=[]) (hm:("internal/strconv.uint64pow10",Rows.laid_internal_strconv_uint64pow10)∈l) :
    uQ Tryz.prog W (λ b=>b<W.heap.size):=by
  unfold laidMetH at hl;rw [hf] at hl;obtain ⟨g,t,cs,fuel,p,h1,h2,h3,h4⟩:=Lib.laidMet.reads hl hm;intro x hx g' jX;simp only [Hx,List.mem_cons,List.mem_nil_iff,or_false] at hx;rcases hx with rfl|rfl
  . refine ⟨MD jX h3,cs,h3,?_⟩;obtain rfl:=Option.some.inj ((show Tryz.prog.globalNamed "internal/strconv.uint64pow10"=some 0 by kernel_rfl).symm.trans h1)
    obtain rfl:=Option.some.inj ((show (Tryz.prog.globals[0]?).map (·.type)=some 176 by kernel_rfl).symm.trans h2);have:=Lib.cells_of_tab (n:=20) (e:=159) (k:=.u64) (zs:=(List.range 20).map λ i=>((10^i:Nat):Int)) (by kernel_rfl) (by kernel_rfl) (by kernel_rfl) (by kernel_rfl) h4;rw [<- this]
  . obtain rfl:=Option.some.inj ((show Tryz.prog.globalNamed "internal/bytealg.MaxLen"=some 1 by kernel_rfl).symm.trans jX)
    obtain ⟨m,hm⟩:=cell_of_shapedOpen_int (g:=1) (t:=3) (zero:=#[.int .i64 0]) (k:=.i64) bZ (Nat.le_of_ble_eq_true (by kernel_rfl)) (by kernel_rfl) rfl (by kernel_rfl) (by kernel_rfl) (by kernel_rfl);obtain ⟨cs,k1,k2⟩:=WN (show Tryz.prog.globalNamed "internal/bytealg.MaxLen"=some 1 by kernel_rfl) hm
    exact ⟨MD (show Tryz.prog.globalNamed "internal/bytealg.MaxLen"=some 1 by kernel_rfl) k1,cs,k1,m,k2⟩
end Go.Proofs.YtijlnmgondibnaaGreatDoor
namespace Go.Proofs.YtijlnmgondibnaaGreatDoor
open Go.Ex
set_option maxRecDepth 100000
theorem F0 {n:Int}:r7 .i64 n↔-9223372036854775808<=n/\n<=9223372036854775807:=Iff.rfl
theorem sL:(∀p,(True/\p)=p)/\(∀p:Prop,(True->p)=p)/\(∀(p:Prop)[Decidable p],(decide p=true)=p)/\(∀(p:Prop)[Decidable p],(decide p=false)=¬p)/\(∀b:Bool,((!b)=true)=(b=false))/\(∀b:Bool,((!b)=false)=(b=true))/\(∀n:Nat,Int.toNat (n:Int)=n)/\(∀n,r7 .i64 n=(-9223372036854775808<=n/\n<=9223372036854775807))/\(∀(α:Type)(l:List α)(i:Nat)(a:α),(l.set i a).length=l.length)/\(∀(α:Type)(a:α)(l:List α),(a::l).length=l.length+1)/\(∀α:Type,([]:List α).length=0):=
  ⟨λ _=>true_and _,λ _=>true_implies _,λ _ _=>decide_eq_true_eq,λ _ _=>propext decide_eq_false_iff_not,λ _=>Bool.not_eq_true' _,λ _=>Bool.not_eq_false' _,λ _=>rfl,λ _=>propext F0,λ _ _ _ _=>List.length_set,λ _ _ _=>rfl,λ _=>rfl⟩
theorem VU:Ty.wb e8=8:=rfl
theorem GL:Ty.wb U8=1:=rfl
theorem yes:((true,()):Bool×Unit)=(true,()):=rfl
theorem Jr {α:Type} {l:List α} {i:Nat} (h:i<l.length) (d:α):l.drop i=l.getD i d::l.drop (i+1):=by
  rw [List.drop_eq_getElem_cons h,List.getD_eq_getElem?_getD,List.getElem?_eq_getElem h]; rfl
theorem DU {α:Type} {l:List α} {i:Nat} {d:α} (h:i<l.length):l.getD i d∈l:=by
  rw [List.getD_eq_getElem?_getD,List.getElem?_eq_getElem h]; exact List.getElem_mem h
theorem Ya {α:Type} {l:List α} {x d:α} (h:x∈l):∃ i,i<l.length/\l.getD i d=x:=by
  obtain ⟨i,hi,e⟩:=List.getElem_of_mem h;exact ⟨i,hi,by rw [List.getD_eq_getElem?_getD,List.getElem?_eq_getElem hi,e]; rfl⟩
theorem Z6 {α:Type} {l:List α} {i j:Nat} {x d:α} (h:i<l.length):(l.set i x).getD j d=if j=i then x else l.getD j d:=by
  rw [List.getD_eq_getElem?_getD,List.getD_eq_getElem?_getD,List.getElem?_set];by_cases e:i=j
  . subst e; simp [h]
  . rw [if_neg e,if_neg (λ h=>e h.symm)]
theorem eq_of_getD {α:Type} {l m:List α} {d:α} (hl:l.length=m.length) (h:∀ i,i<l.length->l.getD i d=m.getD i d):l=m:=by
  refine List.ext_getElem hl (λ i h1 h2=>?_);have:=h i h1
  rwa [List.getD_eq_getElem?_getD,List.getD_eq_getElem?_getD,List.getElem?_eq_getElem h1,List.getElem?_eq_getElem h2] at this
theorem b4d {α:Type} {n i:Nat} (f:Nat->α) (x:α) (hi:i<n):((List.range n).map f).set i x=(List.range n).map (λ j=>if j=i then x else f j):=by
  refine List.ext_getElem (by simp) (λ j h1 h2=>?_);rw [List.getElem_set];simp only [List.getElem_map,List.getElem_range];by_cases e:i=j
  . rw [if_pos e,if_pos e.symm]
  . rw [if_neg e,if_neg (λ h=>e h.symm)]
def U6 {α:Type} (p:α->Bool):List α->Nat->Int
  | [],_=>-1
  | x::l,i=>if p x=true then (i:Int) else U6 p l (i+1)
def idxOf {α:Type} (p:α->Bool) (l:List α):Int:=U6 p l 0
theorem Jv {α:Type} {p:α->Bool}:∀ {l:List α} {i:Nat},0<=U6 p l i↔∃ x∈l,p x=true
  | [],i=>by simp [U6]
  | x::l,i=>by
    rw [U6]
    split
    . rename_i h; exact ⟨λ _=>⟨x,by simp,h⟩,λ _=>by omega⟩
    . rename_i h;rw [Jv];constructor
      . rintro ⟨y,h1,h2⟩; exact ⟨y,by simp [h1],h2⟩
      . rintro ⟨y,h1,h2⟩;rcases List.mem_cons.1 h1 with rfl|h1
        . exact absurd h2 h
        . exact ⟨y,h1,h2⟩
theorem MU {α:Type} {p:α->Bool} {l:List α}:decide (0<=idxOf p l)=l.any p:=by
  cases e:l.any p with
  | true =>
    obtain ⟨x,h1,h2⟩:=List.any_eq_true.1 e;exact decide_eq_true (Jv.2 ⟨x,h1,h2⟩)
  | false =>
    refine decide_eq_false (λ h=>?_);obtain ⟨x,h1,h2⟩:=Jv.1 h;rw [List.any_eq_true.2 ⟨x,h1,h2⟩] at e;cases e
end Go.Proofs.YtijlnmgondibnaaGreatDoor
namespace Go.Proofs.YtijlnmgondibnaaGreatDoor
def step (r:Nat):Nat:=if r % 2=1 then (r / 2) ^^^ 2197175160 else r / 2
theorem Wv {r:Nat} (h:r<4294967296):step r<4294967296:=by
  unfold step
  split
  . exact Nat.xor_lt_two_pow (n:=32) (by omega) (by decide)
  . omega
def steps:Nat->Nat->Nat
  | 0,r=>r
  | k+1,r=>steps k (step r)
theorem ID:∀ (k:Nat) {r:Nat},r<4294967296->steps k r<4294967296
  | 0,_,h=>h
  | k+1,_,h=>ID k (Wv h)
theorem Rb:∀ (a b r:Nat),steps (a+b) r=steps b (steps a r)
  | 0,b,r=>by rw [Nat.zero_add]; rfl
  | a+1,b,r=>by rw [show a+1+b=(a+b)+1 by omega]; simp only [steps]; exact Rb a b _
def byt (r b:Nat):Nat:=steps 8 (r ^^^ b)
def reg (r:Nat) (s:yY):Nat:=s.foldl (λ r b=>byt r b.toNat) r
def va (s:yY):Nat:=reg 4294967295 s ^^^ 4294967295
theorem Wq (r:Nat) (s t:yY):reg r (s++t)=reg (reg r s) t:=by simp [reg]
theorem UE {r:Nat} (h:r<4294967296) (b:UInt8):byt r b.toNat<4294967296:=ID 8 (Nat.xor_lt_two_pow (n:=32) h (by have:=b.toNat_lt; omega))
theorem Ml:∀ {s:yY} {r:Nat},r<4294967296->reg r s<4294967296
  | [],_,h=>h
  | b::s,r,h=>show reg (byt r b.toNat) s<_ from Ml (UE h b)
def le4 (x:Nat):yY:=[UInt8.ofNat x,UInt8.ofNat (x / 2^8),UInt8.ofNat (x / 2^16),UInt8.ofNat (x / 2^24)]
end Go.Proofs.YtijlnmgondibnaaGreatDoor
namespace Go.Proofs.YtijlnmgondibnaaGreatDoor
open Go.Ex
set_option maxRecDepth 100000
def Y1 (n a b:Int):Bool:=decide (a<=n) && decide (n<=b)
theorem wv {n a b:Int}:Y1 n a b=true↔a<=n/\n<=b:=by simp [Y1]
theorem HI {α:Type} {l:List α} {i j:Int} (h0:0<=i) (h1:i<=j) (h2:j<=(l.length:Int)):n9 j (l.length:Int) l=l.drop j.toNat:=by
  rw [n9]; exact List.take_of_length_le (by rw [List.length_drop]; omega)
theorem MO {α:Type} {l:List α} {i j:Int} (h0:0<=i) (h1:i<=j) (h2:j<=(l.length:Int)):((n9 j (l.length:Int) l).length:Int)=(l.length:Int) - j/\(List.take i.toNat l++n9 j (l.length:Int) l++List.drop (i.toNat+(n9 j (l.length:Int) l).length) l).length=l.length:=by
  rw [HI h0 h1 h2];simp only [List.length_append,List.length_take,List.length_drop];omega
theorem Vg {α:Type} {l:List α} {d:List α} {i j:Int} (h0:0<=i) (h1:i<=j) (h2:j<=(l.length:Int)) {r:Nat} :
    n9 (0:Int) (i+(↑(List.length (n9 j (↑(List.length l):Int) l)):Int)) (List.take (Int.toNat ((0:Int)+(i+(↑(List.length (n9 j (↑(List.length l):Int) l)):Int) - (0:Int)))) (List.take (Int.toNat i) l++n9 j (↑(List.length l):Int) l++List.drop (Int.toNat i+List.length (n9 j (↑(List.length l):Int) l)) l)++d++List.drop r (List.take (Int.toNat i) l++n9 j (↑(List.length l):Int) l++List.drop (Int.toNat i+List.length (n9 j (↑(List.length l):Int) l)) l))=List.take i.toNat l++List.drop j.toNat l:=by
  obtain ⟨e1,e2⟩:=MO h0 h1 h2 (l:=l);rw [HI h0 h1 h2] at e1 e2 ⊢;generalize hX:List.take i.toNat l++List.drop j.toNat l++List.drop (i.toNat+(List.drop j.toNat l).length) l=X at e2 ⊢;have em:(0+(i+((List.drop j.toNat l).length:Int) - 0)).toNat=(List.take i.toNat l++List.drop j.toNat l).length:=by
    simp only [List.length_append,List.length_take]; omega
  have en:(i+((List.drop j.toNat l).length:Int) - 0).toNat=(List.take i.toNat l++List.drop j.toNat l).length:=by
    simp only [List.length_append,List.length_take]; omega
  rw [n9,em,en,Int.toNat_zero,List.drop_zero,List.append_assoc,List.take_append_of_le_length (by
    rw [List.length_take,e2];simp only [List.length_append,List.length_take,List.length_drop]; omega),List.take_take,Nat.min_self,<- hX,List.take_left]
def rest (a n:Int):Int:=if n<=0 then 0 else Int.tmod (Int.tmod a n+n) n
def Gl:o7:={ ps:=[.v e8,.v e8],rs:=[e8],pre:=λ x=>LE.le (α:=Int) x.2.1 1000000000,fn:=λ x=>(rest x.1 x.2.1,()),out:=λ _=>() }
noncomputable def FP:Env:={ P:=Tryz.prog,tt:=tt,C5:=[],res:=[Go.ResultVar.tmp 4],rs:=[Ty.int IntKind.i64],ps:=[PK.v e8,PK.v e8],y9:=[],nt:=14 }
theorem Pl:w5 FP:=x6 p9 trivial
theorem Pc:B0 FP Tryz.f39:=⟨rfl,rfl⟩
theorem VM (x0:Int) (x1:Int):exec FP 1000 [.code (d8 Tryz.prog 39)] (s7 Gl.ps ((x0,x1,()))) =
  cond (decide (x1<=(0:Int))) (.ret (((0:Int),()))) (.f7 ((0:Int)<x1) (.f7 (r7 IntKind.i64 (Int.tmod x0 x1+x1)) (.f7 ((0:Int)<x1) (.ret ((Int.tmod (Int.tmod x0 x1+x1) x1,())))))):=by kernel_rfl
theorem b77:Gl.Valid Tryz.prog 39:=by
  refine o7.n8 Pl rfl rfl Tryz.func39 (c:=d8 Tryz.prog 39) rfl rfl Pc rfl ?_;rintro ⟨(x0:Int),(x1:Int),⟨⟩⟩ hp -
  refine j8 (n:=1000) Pl Pc ?_;refine i7 (VM x0 x1) ?_;have hp:x1<=1000000000:=hp;simp only [j6,Tree.holds,sL];refine ⟨λ a=>?_,λ a=>?_⟩
  . show ((0,()):Int×Unit)=(rest x0 x1,());rw [rest,if_pos a]
  . have h0:0<x1:=by omega
    have h1:=Int.tmod_lt_of_pos x0 h0;have h2:-x1<Int.tmod x0 x1:=by
      have:=Int.tmod_lt_of_pos (-x0) h0;rw [Int.neg_tmod] at this;omega
    refine ⟨h0,λ _=>⟨by omega,λ _=>⟨h0,λ _=>?_⟩⟩⟩;show ((_,()):Int×Unit)=(rest x0 x1,());rw [rest,if_neg a]
theorem NL {a n:Int} (h:0<n):0<=rest a n/\rest a n<n:=by
  have h1:=Int.tmod_lt_of_pos (-a) h;rw [Int.neg_tmod] at h1;rw [rest,if_neg (by omega)];exact ⟨Int.tmod_nonneg _ (by omega),Int.tmod_lt_of_pos _ h⟩
end Go.Proofs.YtijlnmgondibnaaGreatDoor
namespace Go.Proofs.YtijlnmgondibnaaGreatDoor
open Go.Ex
instance {k:IntKind} {n:Int}:Decidable (r7 k n):=inferInstanceAs (Decidable (_/\_))
def bit (x:Int) (i:Nat):Bool:=x.toNat.testBit i
section
variable {k:IntKind} {x y:Int}
theorem AX (hk:k.signed=false):r7 k x↔0<=x/\x<2^k.bits:=by
  cases k<;>simp [IntKind.signed] at hk<;>simp [r7,IntKind.min,IntKind.max,IntKind.signed,IntKind.bits]<;>omega
theorem Db (hk:k.signed=false) (b:BitVec k.bits):k.wrap (b.toNat:Int)=(b.toNat:Int):=by
  refine S8 ((AX hk).2 ⟨Int.natCast_nonneg _,?_⟩);have:=b.isLt
  exact_mod_cast this
theorem xN (hk:k.signed=false) (hx:r7 k x) (i:Nat):(BitVec.ofInt k.bits x).getLsbD i=bit x i:=by
  obtain ⟨h0,h1⟩:=(AX hk).1 hx;obtain ⟨n,rfl⟩:=Int.eq_ofNat_of_zero_le h0;have hn:n<2^k.bits:=by exact_mod_cast h1
  rw [BitVec.ofInt_natCast,BitVec.getLsbD_ofNat];simp only [bit,Int.toNat_natCast];by_cases hi:i<k.bits
  . simp [hi]
  . have:n.testBit i=false:=Nat.testBit_lt_two_pow (Nat.lt_of_lt_of_le hn (Nat.pow_le_pow_right (by omega) (by omega)));simp [this]
theorem MH (hk:k.signed=false) (hx:r7 k x) {i:Nat} (hi:k.bits<=i):bit x i=false:=by
  obtain ⟨h0,h1⟩:=(AX hk).1 hx;obtain ⟨n,rfl⟩:=Int.eq_ofNat_of_zero_le h0;have hn:n<2^k.bits:=by exact_mod_cast h1
  exact Nat.testBit_lt_two_pow (Nat.lt_of_lt_of_le hn (Nat.pow_le_pow_right (by omega) hi))
theorem MG (hk:k.signed=false) (hx:r7 k x) (hy:r7 k y) (i:Nat):bit (T1 k x y) i=(bit x i && bit y i):=by
  rw [T1,Db hk,bit,Int.toNat_natCast,BitVec.testBit_toNat,BitVec.getLsbD_and,xN hk hx,xN hk hy]
theorem Mz (hk:k.signed=false) (hx:r7 k x) (hy:r7 k y) (i:Nat):bit (bOr k x y) i=(bit x i || bit y i):=by
  rw [bOr,Db hk,bit,Int.toNat_natCast,BitVec.testBit_toNat,BitVec.getLsbD_or,xN hk hx,xN hk hy]
theorem UZ (hk:k.signed=false) (hx:r7 k x) (hy:r7 k y) (i:Nat):bit (vm k x y) i=(bit x i ^^ bit y i):=by
  rw [vm,Db hk,bit,Int.toNat_natCast,BitVec.testBit_toNat,BitVec.getLsbD_xor,xN hk hx,xN hk hy]
theorem Rz (hk:k.signed=false) (hx:r7 k x) (hy:r7 k y) (i:Nat):bit (Q9 k x y) i=(bit x i && !bit y i):=by
  rw [Q9,Db hk,bit,Int.toNat_natCast,BitVec.testBit_toNat,BitVec.getLsbD_and,BitVec.getLsbD_not,xN hk hx,xN hk hy];by_cases hi:i<k.bits
  . simp [hi]
  . rw [MH hk hx (by omega)]; simp
theorem Mc:r7 k (T1 k x y):=T6 _ _
theorem Gu:r7 k (bOr k x y):=T6 _ _
theorem VW:r7 k (vm k x y):=T6 _ _
theorem zW:r7 k (Q9 k x y):=T6 _ _
theorem IU (hx:0<=x) (hy:0<=y) (h:∀ i,bit x i=bit y i):x=y:=by
  have:x.toNat=y.toNat:=Nat.eq_of_testBit_eq h;omega
theorem ZJ (hx:0<=x):x=0↔∀ i,bit x i=false:=by
  constructor
  . rintro rfl i; simp [bit]
  . intro h; exact IU hx (by omega) (λ i=>by rw [h i]; simp [bit])
end
theorem u8s:IntKind.u8.signed=false:=rfl
theorem u8_in {x:Int}:r7 .u8 x↔0<=x/\x<=255:=Iff.rfl
def LG (n:Nat):Nat:=((List.range 8).map λ i=>(n.testBit i).toNat).sum
def vo (m:Int):Int:=(LG m.toNat:Int)
theorem WJ (m:Int):vo m=((bit m 0).toNat+(bit m 1).toNat+(bit m 2).toNat+(bit m 3).toNat+(bit m 4).toNat+(bit m 5).toNat+(bit m 6).toNat+(bit m 7).toNat:Nat):=by
  simp only [vo,LG,List.range,List.range.loop,List.map_cons,List.map_nil,List.sum_cons,List.sum_nil,bit];omega
theorem toNat_le (b:Bool):b.toNat<=1:=by cases b<;>decide
theorem NX (m:Int):0<=vo m/\vo m<=8:=by
  rw [WJ];have:=toNat_le (bit m 0); have:=toNat_le (bit m 1); have:=toNat_le (bit m 2); have:=toNat_le (bit m 3);have:=toNat_le (bit m 4); have:=toNat_le (bit m 5); have:=toNat_le (bit m 6); have:=toNat_le (bit m 7);omega
end Go.Proofs.YtijlnmgondibnaaGreatDoor
namespace Go.Proofs.YtijlnmgondibnaaGreatDoor
open Go.Ex
set_option maxRecDepth 100000
theorem zN {n:Int}:r7 .u32 n↔0<=n/\n<=4294967295:=Iff.rfl
theorem Xu {k:IntKind} (hk:k.signed=false) {a b:Nat} (ha:r7 k a) (hb:r7 k b):vm k (a:Int) (b:Int)=((a ^^^ b:Nat):Int) :=
  IU ((AX hk).1 VW).1 (Int.natCast_nonneg _) (λ i=>by rw [UZ hk ha hb]; simp [bit,Nat.testBit_xor])
theorem Xt {k:IntKind} (hk:k.signed=false) {a b:Nat} (ha:r7 k a) (hb:r7 k b):T1 k (a:Int) (b:Int)=((a &&& b:Nat):Int) :=
  IU ((AX hk).1 Mc).1 (Int.natCast_nonneg _) (λ i=>by rw [MG hk ha hb]; simp [bit,Nat.testBit_and])
theorem GM {a b:Nat} (ha:a<4294967296) (hb:b<4294967296):vm .u32 (a:Int) (b:Int)=((a ^^^ b:Nat):Int):=Xu rfl (zN.2 ⟨by omega,by omega⟩) (zN.2 ⟨by omega,by omega⟩)
theorem TT {a:Nat} (ha:a<4294967296):T1 .u32 (a:Int) 1=((a % 2:Nat):Int):=by
  have:=Xt (k:=.u32) rfl (a:=a) (b:=1) (zN.2 ⟨by omega,by omega⟩) (zN.2 ⟨by omega,by omega⟩);rw [Nat.and_one_is_mod] at this;exact this
def CM:o7:={ ps:=[.v .str],rs:=[.int .u32],pre:=λ _=>True,fn:=λ x=>(((va x.1:Nat):Int),()),out:=λ _=>() }
noncomputable def Ai:Env:={ P:=Tryz.prog,tt:=tt,C5:=[],res:=[Go.ResultVar.tmp 2],rs:=[Ty.int IntKind.u32],ps:=[PK.v Ty.str],y9:=[(3,[(0,none),(3,none),(7,none),(8,none)]),(7,[(0,none),(3,none),(7,none),(8,none),(17,none)])],nt:=31 }
theorem DO:w5 Ai:=x6 p9 trivial
theorem DQ:B0 Ai Tryz.f63:=⟨rfl,rfl⟩
theorem UH (x0:yY):exec Ai 1000 [.code (d8 Tryz.prog 63)] (s7 CM.ps ((x0,()))) =
  .ctL (g8 (d8 Tryz.prog 63) 3) (St.mk [(0,AV.val Ty.str x0),(3,AV.val (Ty.int IntKind.u32) (4294967295:Int)),(7,AV.val e8 (↑(List.length x0):Int)),(8,AV.val e8 (0:Int))] []):=by kernel_rfl
def NH (v0:yY) (v3:Int) (v7:Int) (v8:Int):St:=St.mk [(0,AV.val Ty.str v0),(3,AV.val (Ty.int IntKind.u32) v3),(7,AV.val e8 v7),(8,AV.val e8 v8)] []
theorem VZ (v0:yY) (v3:Int) (v7:Int) (v8:Int):exec Ai 1000 (.code (g8 (d8 Tryz.prog 63) 3).1::.inLoop (g8 (d8 Tryz.prog 63) 3).1::(g8 (d8 Tryz.prog 63) 3).2) (NH v0 v3 v7 v8) =
  cond (decide (v8<v7)) (.f7 ((0:Int)<=v8/\v8<(↑(List.length v0):Int)) (.ctL (g8 (d8 Tryz.prog 63) 7) (St.mk [(0,AV.val Ty.str v0),(3,AV.val (Ty.int IntKind.u32) (vm IntKind.u32 v3 (IntKind.wrap IntKind.u32 (↑(UInt8.toNat (List.getD v0 (Int.toNat v8) (0:UInt8))):Int)))),(7,AV.val e8 v7),(8,AV.val e8 v8),(17,AV.val e8 (0:Int))] []))) (.ret ((vm IntKind.u32 (if IntKind.signed IntKind.u32=true then (-1:Int) else IntKind.max IntKind.u32) v3,()))):=by kernel_rfl
def NI (v0:yY) (v3:Int) (v7:Int) (v8:Int) (uZ:Int):St:=St.mk [(0,AV.val Ty.str v0),(3,AV.val (Ty.int IntKind.u32) v3),(7,AV.val e8 v7),(8,AV.val e8 v8),(17,AV.val e8 uZ)] []
theorem Wa (v0:yY) (v3:Int) (v7:Int) (v8:Int) (uZ:Int):exec Ai 1000 (.code (g8 (d8 Tryz.prog 63) 7).1::.inLoop (g8 (d8 Tryz.prog 63) 7).1::(g8 (d8 Tryz.prog 63) 7).2) (NI v0 v3 v7 v8 uZ) =
  cond (decide (uZ<(8:Int))) (.f7 ((0:Int)<=(1:Int)) (cond (decide (T1 IntKind.u32 v3 (1:Int)=(1:Int))) (.f7 (r7 IntKind.i64 (uZ+(1:Int))) (.ctL (g8 (d8 Tryz.prog 63) 7) (St.mk [(0,AV.val Ty.str v0),(3,AV.val (Ty.int IntKind.u32) (vm IntKind.u32 (v3 / (2:Int)^min (Int.toNat (1:Int)) (IntKind.bits IntKind.u32)) (2197175160:Int))),(7,AV.val e8 v7),(8,AV.val e8 v8),(17,AV.val e8 (uZ+(1:Int)))] []))) (.f7 (r7 IntKind.i64 (uZ+(1:Int))) (.ctL (g8 (d8 Tryz.prog 63) 7) (St.mk [(0,AV.val Ty.str v0),(3,AV.val (Ty.int IntKind.u32) (v3 / (2:Int)^min (Int.toNat (1:Int)) (IntKind.bits IntKind.u32))),(7,AV.val e8 v7),(8,AV.val e8 v8),(17,AV.val e8 (uZ+(1:Int)))] []))))) (.f7 (r7 IntKind.i64 (v8+(1:Int))) (.ctL (g8 (d8 Tryz.prog 63) 3) (St.mk [(0,AV.val Ty.str v0),(3,AV.val (Ty.int IntKind.u32) v3),(7,AV.val e8 v7),(8,AV.val e8 (v8+(1:Int)))] []))):=by kernel_rfl
theorem c0d (k r:Nat):steps (k+1) r=step (steps k r):=by rw [Rb k 1]; rfl
theorem Yh {s:yY} {i:Nat} (h:i<s.length) (r:Nat):reg r (s.take (i+1))=steps 8 (reg r (s.take i) ^^^ (s.getD i 0).toNat):=by
  rw [List.take_add_one,List.getElem?_eq_getElem h,Wq,List.getD_eq_getElem?_getD,List.getElem?_eq_getElem h];rfl
theorem Sj:CM.Valid Tryz.prog 63:=by
  refine o7.n8 DO rfl rfl Tryz.func63 (c:=d8 Tryz.prog 63) rfl rfl DQ rfl ?_;rintro ⟨(s:yY),⟨⟩⟩ - ⟨hl,-⟩;have hl:s.length<=9223372036854775807:=hl;refine j8 (n:=1000) DO DQ ?_;refine i7 (UH s) ?_;refine Reach.M0 DO DQ (λ i:Nat=>NH s ((reg 4294967295 (s.take i):Nat):Int) (s.length:Int) (i:Int)) (λ i=>i<=s.length)
    (λ i=>s.length - i) 1000 (λ i=>⟨s6 rfl,s6 rfl⟩) ?_ 0 (by omega)
  rintro i hi - ih;refine i7 (VZ ..) ?_;simp only [j6,Tree.holds,sL];have hr:=Ml (s:=s.take i) (r:=4294967295) (by decide);have hb:(s.getD i 0).toNat<256:=UInt8.toNat_lt _;refine ⟨λ a=>⟨⟨by omega,by omega⟩,λ _=>?_⟩,λ a=>?_⟩
  . have tT:reg 4294967295 (s.take i) ^^^ (s.getD i 0).toNat<4294967296:=Nat.xor_lt_two_pow (n:=32) hr (by omega);rw [show IntKind.wrap IntKind.u32 ((s.getD i 0).toNat:Int)=((s.getD i 0).toNat:Int) from S8 (zN.2 ⟨by omega,by omega⟩),GM hr (by omega)];refine Reach.M0 DO DQ (λ j:Nat=>NI s ((steps j (reg 4294967295 (s.take i) ^^^ (s.getD i 0).toNat):Nat):Int) (s.length:Int) (i:Int) (j:Int)) (λ j=>j<=8)
      (λ j=>8 - j) 1000 (λ i=>⟨s6 rfl,s6 rfl⟩) ?_ 0 (by omega)
    rintro j hj - ih2;refine i7 (Wa ..) ?_;have hs:=ID j tT;have hn:=c0d j (reg 4294967295 (s.take i) ^^^ (s.getD i 0).toNat);have he:steps 8 (reg 4294967295 (s.take i) ^^^ (s.getD i 0).toNat)=reg 4294967295 (s.take (i+1))\/¬ i<s.length:=by
      by_cases h:i<s.length
      . exact .inl (Yh h _).symm
      . exact .inr h
    generalize hR:steps j (reg 4294967295 (s.take i) ^^^ (s.getD i 0).toNat)=r at *
    have hd:((r:Nat):Int) / 2^min (Int.toNat 1) (IntKind.bits IntKind.u32)=((r / 2:Nat):Int):=by
      show ((r:Nat):Int) / 2^1=_;omega
    rw [hd,TT hs,show (2197175160:Int)=((2197175160:Nat):Int) from rfl,GM (by omega) (by decide)];simp only [j6,Tree.holds,decide_eq_true_eq,decide_eq_false_iff_not];have hk:r7 .i64 ((j:Int)+1):=F0.2 ⟨by omega,by omega⟩;refine ⟨λ b=>⟨by decide,λ _=>⟨λ c=>⟨hk,λ _=>?_⟩,λ c=>⟨hk,λ _=>?_⟩⟩⟩,λ b=>⟨F0.2 ⟨by omega,by omega⟩,λ _=>?_⟩⟩
    . have h9:=ih2 (j+1) (by omega) (by omega);rw [hn,step,if_pos (by omega)] at h9;exact h9
    . have h9:=ih2 (j+1) (by omega) (by omega);rw [hn,step,if_neg (by omega)] at h9;exact h9
    . have sC:j=8:=by omega
      subst sC;rw [hR] at he;have h9:=ih (i+1) (by omega) (by omega);rw [<- he.resolve_right (λ h=>h (by omega))] at h9;exact h9
  . have hi:i=s.length:=by omega
    subst hi;rw [List.take_length] at hr ⊢;show (vm .u32 4294967295 ((reg 4294967295 s:Nat):Int),())=(((va s:Nat):Int),());rw [show (4294967295:Int)=((4294967295:Nat):Int) from rfl,GM (by decide) hr,va,Nat.xor_comm]
end Go.Proofs.YtijlnmgondibnaaGreatDoor
namespace Go.Proofs.YtijlnmgondibnaaGreatDoor
open Go.Ex
section
variable {α:Type} {p:α->Bool} {d:α}
theorem PI:∀ {l:List α} {j:Nat},U6 p l j≠-1->∃ k:Nat,U6 p l j=((j+k:Nat):Int)/\k<l.length/\p (l.getD k d)=true/\∀ i,i<k->p (l.getD i d)=false
  | [],_,h=>absurd rfl h
  | y::l,j,h=>by
    by_cases hy:p y=true
    . exact ⟨0,by rw [U6,if_pos hy]; rfl,by simp,hy,λ i hi=>by omega⟩
    . rw [U6,if_neg hy] at h ⊢;obtain ⟨k,h1,h2,h3,h4⟩:=PI h;refine ⟨k+1,by rw [h1]; congr 1; omega,by simp; omega,h3,λ i hi=>?_⟩;cases i with
      | zero=>simpa using hy
      | succ i=>exact h4 i (by omega)
structure Z4 (p:α->Bool) (l m:List α) (i j:Nat):Prop where
  tk:m.take i=(l.take j).filter (λ x=>!p x)
  dr:m.drop j=l.drop j
  len:m.length=l.length
  lt:i<j
  le:j<=l.length
theorem Dt {l:List α} {i:Nat} (h:i<l.length) (d:α):l.take (i+1)=l.take i++[l.getD i d]:=by
  rw [List.getD_eq_getElem?_getD,List.getElem?_eq_getElem h]; simp
theorem c0S:∀ {l:List α},(∀ x∈l,p x=false)->l.filter (λ x=>!p x)=l:=λ h=>List.filter_eq_self.2 (λ x hx=>by rw [h x hx]; rfl)
theorem Z4.start (d:α) {l:List α} (h:idxOf p l≠-1):∃ k:Nat,idxOf p l=(k:Int)/\k<l.length/\Z4 p l l k (k+1):=by
  obtain ⟨k,h1,h2,h3,h4⟩:=PI (d:=d) h;refine ⟨k,by rw [idxOf,h1]; congr 1; omega,h2,⟨?_,rfl,rfl,by omega,by omega⟩⟩;rw [Dt h2 d,List.filter_append,c0S]
  . simp only [List.filter_cons,List.filter_nil,h3]; simp
  . intro x hx;obtain ⟨i,hi,rfl⟩:=Ya (d:=d) hx;rw [List.length_take] at hi;have:=h4 i (by omega);rw [List.getD_eq_getElem?_getD,List.getElem?_take,if_pos (by omega),<- List.getD_eq_getElem?_getD];exact this
theorem Z4.at_ {l m:List α} {i j:Nat} (h:Z4 p l m i j) (d:α):m.getD j d=l.getD j d:=by
  have:=congrArg (λ q:List α=>q.getD 0 d) h.dr;simpa [List.getD_eq_getElem?_getD,List.getElem?_drop] using this
theorem Z4.LW {l m:List α} {i j:Nat} (h:Z4 p l m i j):m.drop (j+1)=l.drop (j+1):=by
  rw [<- List.drop_drop,<- List.drop_drop,h.dr]
theorem Z4.wT {l m:List α} {i j:Nat} (h:Z4 p l m i j) (hj:j<l.length) (hp:p (m.getD j d)=false):Z4 p l (m.set i (m.getD j d)) (i+1) (j+1):=by
  have hl:=h.len;have bc:=h.lt;refine ⟨?_,?_,by rw [List.length_set,hl],by omega,by omega⟩
  . rw [Dt hj d,List.filter_append,<- h.tk,Dt (by rw [List.length_set]; omega) d];rw [h.at_ d] at hp ⊢;congr 1
    . rw [List.take_set_of_le (Nat.le_refl i)]
    . rw [Z6 (by omega),if_pos rfl]; generalize l.getD j d=x at hp ⊢; simp [hp]
  . rw [List.drop_set_of_lt (by omega)]; exact h.LW
theorem Z4.skip {l m:List α} {i j:Nat} (h:Z4 p l m i j) (hj:j<l.length) (hp:p (m.getD j d)=true):Z4 p l m i (j+1):=by
  refine ⟨?_,h.LW,h.len,by have:=h.lt; omega,by omega⟩;rw [Dt hj d,List.filter_append,<- h.tk];rw [h.at_ d] at hp;generalize l.getD j d=x at hp ⊢;simp [hp]
theorem Z4.fin {l m A B:List α} {i j:Nat} (h:Z4 p l m i j) (hj:j=l.length):n9 0 (i:Int) (m.take i++A++B)=l.filter (λ x=>!p x):=by
  have h1:=h.tk;rw [hj,List.take_of_length_le (Nat.le_refl _)] at h1;have hi:(m.take i).length=i:=by rw [List.length_take]; have:=h.len; have:=h.lt; omega
  rw [n9,show ((i:Int) - 0).toNat=i by omega,Int.toNat_zero,List.drop_zero,List.append_assoc,List.take_append_of_le_length (by omega),List.take_of_length_le (by omega),h1]
end
end Go.Proofs.YtijlnmgondibnaaGreatDoor
namespace Go.Proofs.YtijlnmgondibnaaGreatDoor
open Go.Ex
set_option maxRecDepth 100000
theorem Ew {α:Type} {l:List α} {i:Nat} (h:i<l.length) (d:α):l.take (i+1)=l.take i++[l.getD i d]:=by
  rw [List.take_succ_eq_append_getElem h,List.getD_eq_getElem?_getD,List.getElem?_eq_getElem h]; rfl
abbrev B8:=Int×Int×Int×Int×Int×List Int×yY×Unit
def H5 (n a b:Int):Bool:=decide (a<=n) && decide (n<=b)
theorem T8 {n a b:Int}:H5 n a b=true↔a<=n/\n<=b:=by simp [H5]
def Cw:o7:={ ps:=[.v e8,.v e8,.v e8],rs:=[.bool],pre:=λ _=>True,fn:=λ x=>(H5 x.1 x.2.1 x.2.2.1,()),out:=λ _=>() }
noncomputable def Fk:Env:={ P:=Tryz.prog,tt:=tt,C5:=[],res:=[Go.ResultVar.tmp 6],rs:=[Ty.bool],ps:=[PK.v e8,PK.v e8,PK.v e8],y9:=[],nt:=15 }
theorem Nh:w5 Fk:=x6 p9 trivial
theorem Ns:B0 Fk Tryz.f80:=⟨rfl,rfl⟩
theorem UL (x0:Int) (x1:Int) (x2:Int):exec Fk 1000 [.code (d8 Tryz.prog 80)] (s7 Cw.ps ((x0,x1,x2,()))) =
  cond (decide (x1<=x0)) (.ret ((decide (x0<=x2),()))) (.ret ((false,()))):=by kernel_rfl
theorem RC:Cw.Valid Tryz.prog 80:=by
  refine o7.n8 Nh rfl rfl Tryz.func80 (c:=d8 Tryz.prog 80) rfl rfl Ns rfl ?_;rintro ⟨(n:Int),(a:Int),(b:Int),⟨⟩⟩ - -
  refine j8 (n:=1000) Nh Ns ?_;refine i7 (UL n a b) ?_;simp only [j6,Tree.holds,sL];refine ⟨λ c=>?_,λ c=>?_⟩
  . show ((decide _,()):Bool×Unit)=(H5 n a b,()); rw [H5,decide_eq_true c,Bool.true_and]
  . show ((false,()):Bool×Unit)=(H5 n a b,()); rw [H5,decide_eq_false c,Bool.false_and]
def Cx:o7:={ ps:=[.v e8],rs:=[.bool],pre:=λ _=>True,fn:=λ x=>(H5 x.1 0 16777215,()),out:=λ _=>() }
noncomputable def Fo:Env:={ P:=Tryz.prog,tt:=tt,C5:=[(80,Cw)],res:=[Go.ResultVar.tmp 2],rs:=[Ty.bool],ps:=[PK.v e8],y9:=[],nt:=5 }
theorem Nk:w5 Fo:=x6 p9 ⟨RC,trivial⟩
theorem Nv:B0 Fo Tryz.f79:=⟨rfl,rfl⟩
theorem UO (x0:Int):exec Fo 1000 [.code (d8 Tryz.prog 79)] (s7 Cx.ps ((x0,()))) =
  .f7 (True) (.ret ((H5 x0 (0:Int) (16777215:Int),()))):=by kernel_rfl
theorem Se:Cx.Valid Tryz.prog 79:=by
  refine o7.n8 Nk rfl rfl Tryz.func79 (c:=d8 Tryz.prog 79) rfl rfl Nv rfl ?_;rintro ⟨(n:Int),⟨⟩⟩ - -
  refine j8 (n:=1000) Nk Nv ?_;refine i7 (UO n) ?_;exact ⟨trivial,λ _=>rfl⟩
def T5 (n:Int):Bool:=!H5 n 0 16777215
def HD:o7:={ ps:=[.v e8,.rd (.fn 79)],rs:=[.bool],pre:=λ x=>Eq (α:=Bool) x.2.1 true,fn:=λ x=>(T5 x.1,()),out:=λ _=>() }
noncomputable def HT:Env:={ P:=Tryz.prog,tt:=tt,C5:=[(79,Cx)],res:=[Go.ResultVar.tmp 3],rs:=[Ty.bool],ps:=[PK.v e8,PK.rd (Ty.fn 79)],y9:=[],nt:=8 }
theorem Ro:w5 HT:=x6 p9 ⟨Se,trivial⟩
theorem Ru:B0 HT Tryz.f82:=⟨rfl,rfl⟩
theorem XQ (x0:Int) (x1:Bool):exec HT 1000 [.code (d8 Tryz.prog 82)] (s7 HD.ps ((x0,x1,()))) =
  .f7 (x1=true/\True) (.ret ((!H5 x0 (0:Int) (16777215:Int),()))):=by kernel_rfl
theorem b4r:HD.Valid Tryz.prog 82:=by
  refine o7.n8 Ro rfl rfl Tryz.func82 (c:=d8 Tryz.prog 82) rfl rfl Ru rfl ?_;rintro ⟨(n:Int),(b:Bool),⟨⟩⟩ (hp:b=true) -
  refine j8 (n:=1000) Ro Ru ?_;refine i7 (XQ n b) ?_;exact ⟨⟨hp,trivial⟩,λ _=>rfl⟩
def Gb:o7:={ ps:=[.v (.d0 false e8),.C3 82 [.fn 79]],rs:=[e8],pre:=λ x=>Eq (α:=Bool) x.2.1.1 true,fn:=λ x=>(idxOf (T5) x.1,()),out:=λ _=>() }
noncomputable def CU:Env:={ P:=Tryz.prog,tt:=tt,C5:=[(82,HD)],res:=[Go.ResultVar.tmp 4],rs:=[Ty.int IntKind.i64],ps:=[PK.v (Ty.d0 false e8),PK.C3 82 [Ty.fn 79]],y9:=[(2,[(0,none),(1,none),(7,none),(8,none)])],nt:=19 }
theorem Jg:w5 CU:=x6 p9 ⟨b4r,trivial⟩
theorem Jn:B0 CU Tryz.f95:=⟨rfl,rfl⟩
theorem VB (x0:List Int) (x1c0:Bool):exec CU 1000 [.code (d8 Tryz.prog 95)] (s7 Gb.ps ((x0,(x1c0,()),()))) =
  .ctL (g8 (d8 Tryz.prog 95) 2) (St.mk [(0,AV.val (Ty.d0 false e8) x0),(1,AV.C3 82 (AV.cons (AV.N7 (Ty.fn 79) x1c0) AV.nil)),(7,AV.val e8 (↑(List.length x0):Int)),(8,AV.val e8 (0:Int))] []):=by kernel_rfl
def Ox (v0:List Int) (Ag:Bool) (v7:Int) (v8:Int):St:=St.mk [(0,AV.val (Ty.d0 false e8) v0),(1,AV.C3 82 (AV.cons (AV.N7 (Ty.fn 79) Ag) AV.nil)),(7,AV.val e8 v7),(8,AV.val e8 v8)] []
theorem Xe (v0:List Int) (Ag:Bool) (v7:Int) (v8:Int):exec CU 1000 (.code (g8 (d8 Tryz.prog 95) 2).1::.inLoop (g8 (d8 Tryz.prog 95) 2).1::(g8 (d8 Tryz.prog 95) 2).2) (Ox v0 Ag v7 v8) =
  cond (decide (v8<v7)) (.f7 ((0:Int)<=v8/\v8<(↑(List.length v0):Int)) (.f7 (Ag=true) (cond (T5 (List.getD v0 (Int.toNat v8) (0:Int))) (.ret ((v8,()))) (.f7 (r7 IntKind.i64 (v8+(1:Int))) (.ctL (g8 (d8 Tryz.prog 95) 2) (St.mk [(0,AV.val (Ty.d0 false e8) v0),(1,AV.C3 82 (AV.cons (AV.N7 (Ty.fn 79) Ag) AV.nil)),(7,AV.val e8 v7),(8,AV.val e8 (v8+(1:Int)))] [])))))) (.ret (((-1:Int),()))):=by kernel_rfl
theorem b8k:Gb.Valid Tryz.prog 95:=by
  refine o7.n8 Jg rfl rfl Tryz.func95 (c:=d8 Tryz.prog 95) rfl rfl Jn rfl ?_;rintro ⟨(l:List (Int)),⟨(b:Bool),⟨⟩⟩,⟨⟩⟩ hp ⟨⟨hl,-⟩,-⟩;have hl:l.length<=9223372036854775807:=hl;have hp:b=true:=hp;refine j8 (n:=1000) Jg Jn ?_;refine i7 (VB l b) ?_;refine Reach.M0 Jg Jn (λ i:Nat=>Ox l b (l.length:Int) (i:Int)) (λ i=>i<=l.length/\idxOf (T5) l=U6 (T5) (l.drop i) i)
    (λ i=>l.length - i) 1000 (λ _=>⟨s6 rfl,s6 rfl⟩) ?_ 0 ⟨by omega,rfl⟩
  rintro i ⟨k1,k2⟩ - ih;refine i7 (Xe ..) ?_;simp only [j6,Tree.holds,sL];refine ⟨λ h=>?_,λ h=>?_⟩
  . rw [Jr (show i<l.length by omega) 0,U6] at k2;refine ⟨by omega,λ _=>⟨hp,λ _=>⟨λ c=>?_,λ c=>⟨by omega,λ _=>ih (i+1) ⟨by omega,?_⟩ (by omega)⟩⟩⟩⟩
    . show (((i:Int),()):Int×Unit)=(idxOf (T5) l,());rw [k2,if_pos (show (T5) (l.getD i 0)=true from c)]
    . rw [k2,if_neg (show ¬ (T5) (l.getD i 0)=true from λ h9=>Bool.noConfusion (Eq.trans (Eq.symm h9) c))]
  . rw [List.drop_eq_nil_of_le (by omega)] at k2;show (((-1:Int),()):Int×Unit)=(idxOf (T5) l,());rw [k2]; rfl
def Hj:o7:={ ps:=[.v (.d0 false e8),.C3 82 [.fn 79]],rs:=[.bool],pre:=λ x=>Eq (α:=Bool) x.2.1.1 true,fn:=λ x=>(List.any (α:=Int) x.1 (T5),()),out:=λ _=>() }
noncomputable def GO:Env:={ P:=Tryz.prog,tt:=tt,C5:=[(95,Gb)],res:=[Go.ResultVar.tmp 4],rs:=[Ty.bool],ps:=[PK.v (Ty.d0 false e8),PK.C3 82 [Ty.fn 79]],y9:=[],nt:=9 }
theorem PR:w5 GO:=x6 p9 ⟨b8k,trivial⟩
theorem Qy:B0 GO Tryz.f81:=⟨rfl,rfl⟩
theorem Wf (x0:List Int) (x1c0:Bool):exec GO 1000 [.code (d8 Tryz.prog 81)] (s7 Hj.ps ((x0,(x1c0,()),()))) =
  .f7 (x1c0=true) (.ret ((decide ((0:Int)<=idxOf T5 x0),()))):=by kernel_rfl
theorem b6e:Hj.Valid Tryz.prog 81:=by
  refine o7.n8 PR rfl rfl Tryz.func81 (c:=d8 Tryz.prog 81) rfl rfl Qy rfl ?_;rintro ⟨(l:List (Int)),⟨(b:Bool),⟨⟩⟩,⟨⟩⟩ hp -
  refine j8 (n:=1000) PR Qy ?_;refine i7 (Wf l b) ?_;refine ⟨hp,λ _=>?_⟩;show ((decide (0<=idxOf (T5) l),()):Bool×Unit)=(l.any (T5),());rw [MU]
def vW (n:B8):Bool:=H5 n.1 0 255 && H5 n.2.1 0 5 && H5 n.2.2.1 0 5 && H5 n.2.2.2.1 0 16777215 && H5 n.2.2.2.2.1 0 16777215
def H6 (n:B8):Int :=
  if vW n=false then 1 else if n.2.2.2.2.2.1.any T5=true then 1 else if 200<n.2.2.2.2.2.2.1.length then 2 else 0
def DC:o7:={ ps:=[.v zf],rs:=[e8],pre:=λ _=>True,fn:=λ x=>(H6 x.1,()),out:=λ _=>() }
noncomputable def HW:Env:={ P:=Tryz.prog,tt:=tt,C5:=[(80,Cw),(79,Cx),(81,Hj)],res:=[Go.ResultVar.tmp 2],rs:=[Ty.int IntKind.i64],ps:=[PK.v (Ty.pair e8 (Ty.pair e8 (Ty.pair e8 (Ty.pair e8 (Ty.pair e8 (Ty.pair X7 (Ty.pair Ty.str Ty.unit)))))))],y9:=[],nt:=45 }
theorem Rq:w5 HW:=x6 p9 ⟨RC,Se,b6e,trivial⟩
theorem Rw:B0 HW Tryz.f65:=⟨rfl,rfl⟩
theorem XT (aO:Int) (ab:Int) (ae:Int) (aa:Int) (aY:Int) (aU:List Int) (bd:yY):exec HW 1000 [.code (d8 Tryz.prog 65)] (s7 DC.ps (((aO,ab,ae,aa,aY,aU,bd,()),()))) =
  .f7 (True) (cond (!H5 aO (0:Int) (255:Int)) (.ret (((1:Int),()))) (.f7 (True) (cond (!H5 ab (0:Int) (5:Int)) (.ret (((1:Int),()))) (.f7 (True) (cond (!H5 ae (0:Int) (5:Int)) (.ret (((1:Int),()))) (.f7 (true=true/\True) (cond (!H5 aa (0:Int) (16777215:Int)) (.ret (((1:Int),()))) (.f7 (true=true/\True) (cond (!H5 aY (0:Int) (16777215:Int)) (.ret (((1:Int),()))) (.f7 ((0:Int)<=(0:Int)/\(0:Int)<=(↑6:Int)/\(↑6:Int)<=(↑6:Int)) (.f7 (true=true) (cond (List.any (n9 (0:Int) (↑6:Int) aU) T5) (.ret (((1:Int),()))) (cond (decide ((200:Int)<(↑(List.length bd):Int))) (.ret (((2:Int),()))) (.ret (((0:Int),())))))))))))))))):=by kernel_rfl
theorem MM {α:Type} {l:List α} {n:Nat} (h:l.length=n):n9 0 (n:Int) l=l:=by subst h; simp [n9]
theorem Tt:DC.Valid Tryz.prog 65:=by
  refine o7.n8 Rq rfl rfl Tryz.func65 (c:=d8 Tryz.prog 65) rfl rfl Rw rfl ?_;rintro ⟨⟨(a:Int),(b:Int),(c:Int),(d:Int),(e:Int),(v:List Int),(t:yY),⟨⟩⟩,⟨⟩⟩ - ⟨⟨-,-,-,-,-,⟨hv,-⟩,-⟩,-⟩;have hv:v.length=6:=hv;refine j8 (n:=1000) Rq Rw ?_;refine i7 (XT a b c d e v t) ?_;have hc:n9 0 6 v=v:=MM hv;have bad:vW (a,b,c,d,e,v,t,())=false->(((1:Int),()):Int×Unit)=(H6 (a,b,c,d,e,v,t,()),()):=λ h=>by rw [H6,if_pos h]
  simp only [j6,Tree.holds,hc,sL];refine ⟨λ h=>bad (by simp [vW,h]),λ h1=>⟨λ h=>bad (by simp [vW,h]),λ h2=>⟨λ h=>bad (by simp [vW,h]),λ h3=>⟨λ h=>bad (by simp [vW,h]),λ h4=>⟨λ h=>bad (by simp [vW,h]),λ h5=>⟨by omega,λ _=>⟨λ h=>?_,λ h6=>⟨λ h=>?_,λ h=>?_⟩⟩⟩⟩⟩⟩⟩⟩
  all_goals have hw:vW (a,b,c,d,e,v,t,())≠false:=by simp [vW,h1,h2,h3,h4,h5]
  . show (((1:Int),()):Int×Unit)=(H6 (a,b,c,d,e,v,t,()),());rw [H6,if_neg hw,if_pos h]
  . show (((2:Int),()):Int×Unit)=(H6 (a,b,c,d,e,v,t,()),());rw [H6,if_neg hw,if_neg (λ h9=>Bool.noConfusion (Eq.trans (Eq.symm h9) h6)),if_pos (by show 200<t.length; omega)]
  . show (((0:Int),()):Int×Unit)=(H6 (a,b,c,d,e,v,t,()),());rw [H6,if_neg hw,if_neg (λ h9=>Bool.noConfusion (Eq.trans (Eq.symm h9) h6)),if_neg (by show ¬ 200<t.length; omega)]
structure Hn (n:B8):Prop where
  kind:0<=n.1/\n.1<=255
  from_:0<=n.2.1/\n.2.1<=5
  to:0<=n.2.2.1/\n.2.2.1<=5
  view:0<=n.2.2.2.1/\n.2.2.2.1<=16777215
  seq:0<=n.2.2.2.2.1/\n.2.2.2.2.1<=16777215
  at_:∀ x∈n.2.2.2.2.2.1,0<=x/\x<=16777215
  text:n.2.2.2.2.2.2.1.length<=200
theorem Kl {n:B8} (h:H6 n=0):Hn n:=by
  unfold H6 at h;split at h
  . cases h
  split at h
  . cases h
  split at h
  . cases h
  . rename_i h1 h2 h3;have h1:vW n=true:=by cases e:vW n with|true=>rfl|false=>exact absurd e h1
    simp only [vW,Bool.and_eq_true,T8] at h1;obtain ⟨⟨⟨⟨a,b⟩,c⟩,d⟩,e⟩:=h1;refine ⟨a,b,c,d,e,λ x hx=>?_,by omega⟩;have h2:n.2.2.2.2.2.1.any T5=false:=by cases e:n.2.2.2.2.2.1.any T5 with|false=>rfl|true=>exact absurd e h2
    have:=List.any_eq_false.1 h2 x hx;rw [T5,Bool.not_eq_true,Bool.not_eq_false'] at this;exact T8.1 this
def U1 (n:Int):List Int:=[IntKind.wrap .u8 n,IntKind.wrap .u8 (n / 256),IntKind.wrap .u8 (n / 65536)]
def DB:o7:={ ps:=[.v e8],rs:=[.d0 true (.int .u8)],pre:=λ _=>True,fn:=λ x=>(U1 x.1,()),out:=λ _=>() }
noncomputable def Hl:Env:={ P:=Tryz.prog,tt:=tt,C5:=[],res:=[Go.ResultVar.tmp 2],rs:=[Ty.d0 true U8],ps:=[PK.v e8],y9:=[],nt:=12 }
theorem Qw:w5 Hl:=x6 p9 trivial
theorem QK:B0 Hl Tryz.f77:=⟨rfl,rfl⟩
theorem Xl (x0:Int):exec Hl 1000 [.code (d8 Tryz.prog 77)] (s7 DB.ps ((x0,()))) =
  .f7 ((0:Int)<=(8:Int)) (.f7 ((0:Int)<=(16:Int)) (.ret ((List.set (List.set (List.set [(0:Int),(0:Int),(0:Int)] (Int.toNat (↑0:Int)) (IntKind.wrap IntKind.u8 x0)) (Int.toNat (↑1:Int)) (IntKind.wrap IntKind.u8 (x0 / (2:Int)^min (Int.toNat (8:Int)) (IntKind.bits IntKind.i64)))) (Int.toNat (↑2:Int)) (IntKind.wrap IntKind.u8 (x0 / (2:Int)^min (Int.toNat (16:Int)) (IntKind.bits IntKind.i64))),())))):=by kernel_rfl
theorem Th:DB.Valid Tryz.prog 77:=by
  refine o7.n8 Qw rfl rfl Tryz.func77 (c:=d8 Tryz.prog 77) rfl rfl QK rfl ?_;rintro ⟨(n:Int),⟨⟩⟩ - -
  refine j8 (n:=1000) Qw QK ?_;refine i7 (Xl n) ?_;exact ⟨Int.le.intro 8 rfl,λ _=>⟨Int.le.intro 16 rfl,λ _=>rfl⟩⟩
def vQ (x:Nat):List Int:=(le4 x).map (λ b=>(b.toNat:Int))
theorem Ef (x:Nat):(UInt8.ofNat x).toNat=x % 256:=by simp
theorem Vn (x:Nat):vQ x=[(x:Int) % 256,(x:Int) / 256 % 256,(x:Int) / 65536 % 256,(x:Int) / 16777216 % 256]:=by
  simp only [vQ,le4,List.map_cons,List.map_nil,Ef];simp only [List.cons.injEq,and_true];refine ⟨by omega,by omega,by omega,by omega⟩
theorem ZD (n:Int):U1 n=[n % 256,n / 256 % 256,n / 65536 % 256]:=rfl
def Dc:o7:={ ps:=[.v (.int .u32)],rs:=[.d0 true (.int .u8)],pre:=λ _=>True,fn:=λ x=>(vQ (Int.toNat x.1),()),out:=λ _=>() }
noncomputable def FU:Env:={ P:=Tryz.prog,tt:=tt,C5:=[(77,DB)],res:=[Go.ResultVar.tmp 2],rs:=[Ty.d0 true U8],ps:=[PK.v (Ty.int IntKind.u32)],y9:=[],nt:=11 }
theorem Oj:w5 FU:=x6 p9 ⟨Th,trivial⟩
theorem ON:B0 FU Tryz.f62:=⟨rfl,rfl⟩
theorem Vt (x0:Int):exec FU 1000 [.code (d8 Tryz.prog 62)] (s7 Dc.ps ((x0,()))) =
  .f7 (True) (.f7 ((0:Int)<=(24:Int)) (.f7 (List.length (U1 (IntKind.wrap IntKind.i64 x0))+List.length (List.set [(0:Int)] (Int.toNat (↑0:Int)) (IntKind.wrap IntKind.u8 (x0 / (2:Int)^min (Int.toNat (24:Int)) (IntKind.bits IntKind.u32))))<=140737488355328/\(List.length (U1 (IntKind.wrap IntKind.i64 x0))+List.length (List.set [(0:Int)] (Int.toNat (↑0:Int)) (IntKind.wrap IntKind.u8 (x0 / (2:Int)^min (Int.toNat (24:Int)) (IntKind.bits IntKind.u32)))))*Ty.wb U8<=140737488355328) (.ret ((U1 (IntKind.wrap IntKind.i64 x0)++List.set [(0:Int)] (Int.toNat (↑0:Int)) (IntKind.wrap IntKind.u8 (x0 / (2:Int)^min (Int.toNat (24:Int)) (IntKind.bits IntKind.u32))),()))))):=by kernel_rfl
theorem SL:Dc.Valid Tryz.prog 62:=by
  refine o7.n8 Oj rfl rfl Tryz.func62 (c:=d8 Tryz.prog 62) rfl rfl ON rfl ?_;rintro ⟨(n:Int),⟨⟩⟩ - ⟨hr,-⟩;have hr:0<=n/\n<=4294967295:=zN.1 hr;refine j8 (n:=1000) Oj ON ?_;refine i7 (Vt n) ?_;have hw:IntKind.wrap .i64 n=n:=S8 (F0.2 ⟨by omega,by omega⟩);simp only [j6,Tree.holds,hw,GL,ZD,sL];refine ⟨by omega,λ _=>⟨by omega,λ _=>?_⟩⟩;obtain ⟨x,rfl⟩:=Int.eq_ofNat_of_zero_le hr.1;show (([(x:Int) % 256,(x:Int) / 256 % 256,(x:Int) / 65536 % 256,(x:Int) / 16777216 % 256],()):List Int×Unit)=(vQ (Int.toNat (x:Int)),());rw [Int.toNat_natCast,Vn]
def wJ (l:List Int):yY:=l.map (λ n=>UInt8.ofNat n.toNat)
theorem Ke (t:yY):wJ (t.map (λ b=>(b.toNat:Int)))=t:=by
  rw [wJ,List.map_map];have:((λ n:Int=>UInt8.ofNat n.toNat) ∘ λ b:UInt8=>(b.toNat:Int))=id:=by
    funext b
    simp
  rw [this,List.map_id]
theorem Eh (l m:List Int):wJ (l++m)=wJ l++wJ m:=List.map_append
def AL (n:B8):List Int:=[IntKind.wrap .u8 n.1,IntKind.wrap .u8 n.2.1,IntKind.wrap .u8 n.2.2.1]
def Y6 (n:B8):List Int:=n.2.2.2.1::n.2.2.2.2.1::n.2.2.2.2.2.1
def yr (n:B8):List Int:=AL n++(Y6 n).flatMap U1++n.2.2.2.2.2.2.1.map (λ b=>(b.toNat:Int))
def vE (n:B8):yY:=wJ (yr n)
def uY (n:B8):yY:=vE n++le4 (va (vE n))
def T3 (n:B8):yY×Int×Unit:=if H6 n≠0 then ([],H6 n,()) else (uY n,0,())
def Gi:o7:={ ps:=[.v zf],rs:=[.str,e8],pre:=λ _=>True,fn:=λ x=>T3 x.1,out:=λ _=>() }
noncomputable def Au:Env:={ P:=Tryz.prog,tt:=tt,C5:=[(65,DC),(77,DB),(62,Dc),(63,CM)],res:=[Go.ResultVar.tmp 2,Go.ResultVar.tmp 3],rs:=[Ty.str,Ty.int IntKind.i64],ps:=[PK.v (Ty.pair e8 (Ty.pair e8 (Ty.pair e8 (Ty.pair e8 (Ty.pair e8 (Ty.pair X7 (Ty.pair Ty.str Ty.unit)))))))],y9:=[(6,[(1,none),(5,some (Ty.d0 true U8)),(30,some Is),(31,none),(32,none)])],nt:=52 }
theorem Jj:w5 Au:=x6 p9 ⟨Tt,Th,SL,Sj,trivial⟩
theorem IM:B0 Au Tryz.f60:=⟨rfl,rfl⟩
theorem VJ (aO:Int) (ab:Int) (ae:Int) (aa:Int) (aY:Int) (aU:List Int) (bd:yY):exec Au 1000 [.code (d8 Tryz.prog 60)] (s7 Gi.ps (((aO,ab,ae,aa,aY,aU,bd,()),()))) =
  .f7 (True) (cond (decide (H6 (aO,ab,ae,aa,aY,aU,bd,())≠(0:Int))) (.ret ((Array.toList (ByteArray.data (ByteArray.mk #[])),H6 (aO,ab,ae,aa,aY,aU,bd,()),()))) (.f7 ((0:Int)<=(0:Int)/\(0:Int)<=(↑6:Int)/\(↑6:Int)<=(↑6:Int)) (.f7 (List.length (List.set (List.set [(0:Int),(0:Int)] (Int.toNat (↑0:Int)) aa) (Int.toNat (↑1:Int)) aY)+List.length (n9 (0:Int) (↑6:Int) aU)<=140737488355328/\(List.length (List.set (List.set [(0:Int),(0:Int)] (Int.toNat (↑0:Int)) aa) (Int.toNat (↑1:Int)) aY)+List.length (n9 (0:Int) (↑6:Int) aU))*Ty.wb e8<=140737488355328) (.ctL (g8 (d8 Tryz.prog 60) 6) (St.mk [(1,AV.ptr 1 []),(5,AV.at_ 1000005 []),(30,AV.at_ 1000030 []),(31,AV.val e8 (↑(List.length (List.set (List.set [(0:Int),(0:Int)] (Int.toNat (↑0:Int)) aa) (Int.toNat (↑1:Int)) aY++n9 (0:Int) (↑6:Int) aU)):Int)),(32,AV.val e8 (0:Int))] [(1,g9.var (Ty.pair e8 (Ty.pair e8 (Ty.pair e8 (Ty.pair e8 (Ty.pair e8 (Ty.pair X7 (Ty.pair Ty.str Ty.unit))))))) (aO,ab,ae,aa,aY,aU,bd,())),(1000005,g9.own (Ty.d0 true U8) (List.set (List.set (List.set [(0:Int),(0:Int),(0:Int)] (Int.toNat (↑0:Int)) (IntKind.wrap IntKind.u8 aO)) (Int.toNat (↑1:Int)) (IntKind.wrap IntKind.u8 ab)) (Int.toNat (↑2:Int)) (IntKind.wrap IntKind.u8 ae))),(1000030,g9.own Is (List.set (List.set [(0:Int),(0:Int)] (Int.toNat (↑0:Int)) aa) (Int.toNat (↑1:Int)) aY++n9 (0:Int) (↑6:Int) aU))]))))):=by kernel_rfl
def Jk (v31:Int) (uE:Int) (eD:Int) (cV:Int) (dP:Int) (cU:Int) (cu:Int) (bT:List Int) (aN:yY) (cG:List Int) (dY:List Int):St:=St.mk [(1,AV.ptr 1 []),(5,AV.at_ 1000005 []),(30,AV.at_ 1000030 []),(31,AV.val e8 v31),(32,AV.val e8 uE)] [(1,g9.var (Ty.pair e8 (Ty.pair e8 (Ty.pair e8 (Ty.pair e8 (Ty.pair e8 (Ty.pair X7 (Ty.pair Ty.str Ty.unit))))))) (eD,cV,dP,cU,cu,bT,aN,())),(1000005,g9.own (Ty.d0 true U8) cG),(1000030,g9.own Is dY)]
theorem Xj (v31:Int) (uE:Int) (eD:Int) (cV:Int) (dP:Int) (cU:Int) (cu:Int) (bT:List Int) (aN:yY) (cG:List Int) (dY:List Int):exec Au 1000 (.code (g8 (d8 Tryz.prog 60) 6).1::.inLoop (g8 (d8 Tryz.prog 60) 6).1::(g8 (d8 Tryz.prog 60) 6).2) (Jk v31 uE eD cV dP cU cu bT aN cG dY) =
  cond (decide (uE<v31)) (.f7 ((0:Int)<=uE/\uE<(↑(List.length dY):Int)) (.f7 (True) (.f7 (List.length cG+List.length (U1 (List.getD dY (Int.toNat uE) (0:Int)))<=140737488355328/\(List.length cG+List.length (U1 (List.getD dY (Int.toNat uE) (0:Int))))*Ty.wb U8<=140737488355328) (.f7 (r7 IntKind.i64 (uE+(1:Int))) (.ctL (g8 (d8 Tryz.prog 60) 6) (St.mk [(1,AV.ptr 1 []),(5,AV.at_ 1000005 []),(30,AV.at_ 1000030 []),(31,AV.val e8 v31),(32,AV.val e8 (uE+(1:Int)))] [(1,g9.var (Ty.pair e8 (Ty.pair e8 (Ty.pair e8 (Ty.pair e8 (Ty.pair e8 (Ty.pair X7 (Ty.pair Ty.str Ty.unit))))))) (eD,cV,dP,cU,cu,bT,aN,())),(1000005,g9.own (Ty.d0 true U8) (cG++U1 (List.getD dY (Int.toNat uE) (0:Int)))),(1000030,g9.own Is dY)])))))) (.f7 (List.length cG+List.length (List.map (λ b=>(↑(UInt8.toNat b):Int)) aN)<=140737488355328/\(List.length cG+List.length (List.map (λ b=>(↑(UInt8.toNat b):Int)) aN))*Ty.wb U8<=140737488355328) (.f7 (True) (.f7 (True) (.f7 (List.length (cG++List.map (λ b=>(↑(UInt8.toNat b):Int)) aN)+List.length (vQ (Int.toNat (↑(va (List.map (λ n=>UInt8.ofNat (Int.toNat n)) (cG++List.map (λ b=>(↑(UInt8.toNat b):Int)) aN))):Int)))<=140737488355328/\(List.length (cG++List.map (λ b=>(↑(UInt8.toNat b):Int)) aN)+List.length (vQ (Int.toNat (↑(va (List.map (λ n=>UInt8.ofNat (Int.toNat n)) (cG++List.map (λ b=>(↑(UInt8.toNat b):Int)) aN))):Int))))*Ty.wb U8<=140737488355328) (.ret ((List.map (λ n=>UInt8.ofNat (Int.toNat n)) (cG++List.map (λ b=>(↑(UInt8.toNat b):Int)) aN++vQ (Int.toNat (↑(va (List.map (λ n=>UInt8.ofNat (Int.toNat n)) (cG++List.map (λ b=>(↑(UInt8.toNat b):Int)) aN))):Int))),(0:Int),()))))))):=by kernel_rfl
theorem Rd (l:List Int):(l.flatMap U1).length=3*l.length:=by
  induction l with
  | nil=>rfl
  | cons x l ih=>rw [List.flatMap_cons,List.length_append,ih,U1]; simp; omega
theorem b8a:Gi.Valid Tryz.prog 60:=by
  refine o7.n8 Jj rfl rfl Tryz.func60 (c:=d8 Tryz.prog 60) rfl rfl IM rfl ?_;rintro ⟨⟨(a:Int),(b:Int),(c:Int),(d:Int),(e:Int),(v:List Int),(t:yY),⟨⟩⟩,⟨⟩⟩ - ⟨⟨-,-,-,-,-,⟨hv,-⟩,-⟩,-⟩;have hv:v.length=6:=hv;obtain ⟨n,hn⟩:∃ n:B8,n=(a,b,c,d,e,v,t,()):=⟨_,rfl⟩;refine j8 (n:=1000) Jj IM ?_;refine i7 (VJ a b c d e v t) ?_;have hc:n9 0 6 v=v:=MM hv;have h0:List.set (List.set [(0:Int),0] (Int.toNat ((0:Nat):Int)) d) (Int.toNat ((1:Nat):Int)) e++v=Y6 n:=by rw [hn]; rfl
  have uB:∀ m:List Int,List.set (List.set [(0:Int),0] (Int.toNat 0) d) (Int.toNat 1) e++m=d::e::m:=λ m=>rfl;rw [<- hn];have e6:n9 0 6 v=v:=hc;simp only [j6,Tree.holds,hc,GL,VU,sL];refine ⟨λ h=>?_,λ h=>⟨by omega,λ _=>⟨by omega,λ _=>?_⟩⟩⟩
  . show (([],H6 n,()):yY×Int×Unit)=T3 n;rw [T3,if_pos h]
  have aM:=Kl (n:=n) (by omega);have ht:t.length<=200:=by have:=aM.text; rw [hn] at this; exact this
  have ml:(Y6 n).length=8:=by rw [hn]; show (d::e::v).length=8; simp [hv]
  suffices go:Go.Ex.Reach Au Tryz.f60 (T3 n) () (.code (g8 (d8 Tryz.prog 60) 6).1::.inLoop (g8 (d8 Tryz.prog 60) 6).1::(g8 (d8 Tryz.prog 60) 6).2) (Jk ((Y6 n).length:Int) ((0:Nat):Int) a b c d e v t (AL n++((Y6 n).take 0).flatMap U1) (Y6 n)) by
    subst hn;exact go
  refine Reach.M0 Jj IM (λ i:Nat=>Jk ((Y6 n).length:Int) (i:Int) a b c d e v t (AL n++((Y6 n).take i).flatMap U1) (Y6 n)) (λ i=>i<=(Y6 n).length)
    (λ i=>(Y6 n).length - i) 1000 (λ _=>⟨s6 rfl,s6 rfl⟩) ?_ 0 (Nat.zero_le _)
  . rintro i k1 - ih;have k1:i<=(Y6 n).length:=k1;refine i7 (Xj ..) ?_;have hl:(AL n++((Y6 n).take i).flatMap U1).length=3+3*i:=by
      rw [List.length_append,Rd,List.length_take];show 3+_=_;omega
    have sr:∀ x,(U1 x).length=3:=λ _=>rfl;simp only [j6,Tree.holds,GL,hl,sr,sL];refine ⟨λ c1=>⟨by omega,λ _=>⟨by omega,λ _=>⟨by omega,λ _=>?_⟩⟩⟩,λ c1=>?_⟩
    . have:=ih (i+1) (by show i+1<=(Y6 n).length; omega) (by omega);rw [Ew (show i<(Y6 n).length by omega) 0,List.flatMap_append,<- List.append_assoc] at this;simp only [List.flatMap_cons,List.flatMap_nil,List.append_nil] at this;exact this
    . rw [List.take_of_length_le (by omega)] at hl ⊢;have hb:AL n++(Y6 n).flatMap U1++List.map (λ b:UInt8=>(b.toNat:Int)) t=yr n:=by rw [yr,hn]
      have bN:(yr n).length=27+t.length:=by rw [<- hb,List.length_append,hl,List.length_map]; omega
      have h4:∀ x,(vQ x).length=4:=λ _=>rfl;rw [hb];simp only [j6,Tree.holds,bN,h4,List.length_map,sL];refine ⟨by omega,λ _=>⟨by omega,λ _=>?_⟩⟩;show ((wJ (yr n++vQ (va (wJ (yr n)))),0,()):yY×Int×Unit)=T3 n;rw [T3,if_neg h,Eh,uY,vQ,Ke];rfl
def vC (s:yY) (i:Nat):Int:=((s.getD i 0).toNat:Int)
def uM (s:yY) (k:Nat):Int:=vC s (3+3*k)+vC s (4+3*k)*256+vC s (5+3*k)*65536
def Gg:o7:={ ps:=[.v e8,.rd .str],rs:=[e8],pre:=λ x=>LE.le (α:=Int) 0 x.1/\LT.lt (α:=Int) (5+3*(show Int from x.1)) (List.length x.2.1),fn:=λ x=>(uM x.2.1 (Int.toNat x.1),()),out:=λ _=>() }
noncomputable def FM:Env:={ P:=Tryz.prog,tt:=tt,C5:=[],res:=[Go.ResultVar.tmp 3],rs:=[Ty.int IntKind.i64],ps:=[PK.v e8,PK.rd Ty.str],y9:=[],nt:=26 }
theorem Ph:w5 FM:=x6 p9 trivial
theorem OZ:B0 FM Tryz.f64:=⟨rfl,rfl⟩
theorem VG (x0:Int) (x1:yY):exec FM 1000 [.code (d8 Tryz.prog 64)] (s7 Gg.ps ((x0,x1,()))) =
  .f7 (r7 IntKind.i64 ((3:Int)*x0)) (.f7 (r7 IntKind.i64 ((3:Int)+(3:Int)*x0)) (.f7 ((0:Int)<=(3:Int)+(3:Int)*x0/\(3:Int)+(3:Int)*x0<(↑(List.length x1):Int)) (.f7 (r7 IntKind.i64 ((3:Int)+(3:Int)*x0+(1:Int))) (.f7 ((0:Int)<=(3:Int)+(3:Int)*x0+(1:Int)/\(3:Int)+(3:Int)*x0+(1:Int)<(↑(List.length x1):Int)) (.f7 ((0:Int)<=(8:Int)) (.f7 (r7 IntKind.i64 ((3:Int)+(3:Int)*x0+(2:Int))) (.f7 ((0:Int)<=(3:Int)+(3:Int)*x0+(2:Int)/\(3:Int)+(3:Int)*x0+(2:Int)<(↑(List.length x1):Int)) (.f7 ((0:Int)<=(16:Int)) (.ret ((bOr IntKind.i64 (bOr IntKind.i64 (IntKind.wrap IntKind.i64 (↑(UInt8.toNat (List.getD x1 (Int.toNat ((3:Int)+(3:Int)*x0)) (0:UInt8))):Int)) (IntKind.wrap IntKind.i64 (IntKind.wrap IntKind.i64 (↑(UInt8.toNat (List.getD x1 (Int.toNat ((3:Int)+(3:Int)*x0+(1:Int))) (0:UInt8))):Int)*(2:Int)^min (Int.toNat (8:Int)) (IntKind.bits IntKind.i64)))) (IntKind.wrap IntKind.i64 (IntKind.wrap IntKind.i64 (↑(UInt8.toNat (List.getD x1 (Int.toNat ((3:Int)+(3:Int)*x0+(2:Int))) (0:UInt8))):Int)*(2:Int)^min (Int.toNat (16:Int)) (IntKind.bits IntKind.i64))),()))))))))))):=by kernel_rfl
theorem Lq {x y:Nat} (hx:x<9223372036854775808) (hy:y<9223372036854775808):bOr .i64 (x:Int) (y:Int)=((x ||| y:Nat):Int):=by
  unfold bOr;have e1:(BitVec.ofInt (IntKind.bits .i64) (x:Int) ||| BitVec.ofInt (IntKind.bits .i64) (y:Int)).toNat=x ||| y:=by
    show (BitVec.ofInt 64 (x:Int) ||| BitVec.ofInt 64 (y:Int)).toNat=x ||| y
    rw [BitVec.toNat_or,BitVec.toNat_ofInt,BitVec.toNat_ofInt];congr 1<;>omega
  rw [e1];have:=Nat.or_lt_two_pow (n:=63) hx hy;exact S8 (F0.2 ⟨by omega,by omega⟩)
theorem Mk {x y k:Nat} (hx:x<2^k):x ||| (y*2^k)=x+y*2^k:=by
  rw [Nat.or_comm,<- Nat.shiftLeft_eq,<- Nat.shiftLeft_add_eq_or_of_lt hx,Nat.add_comm]
theorem b8d:Gg.Valid Tryz.prog 64:=by
  refine o7.n8 Ph rfl rfl Tryz.func64 (c:=d8 Tryz.prog 64) rfl rfl OZ rfl ?_;rintro ⟨(k:Int),(s:yY),⟨⟩⟩ ⟨h0,h1⟩ ⟨-,hs,-⟩;have h0:0<=k:=h0;have h1:5+3*k<(s.length:Int):=h1;have hs:s.length<=9223372036854775807:=hs;obtain ⟨m,rfl⟩:=Int.eq_ofNat_of_zero_le h0;refine j8 (n:=1000) Ph OZ ?_;refine i7 (VG (m:Int) s) ?_;simp only [j6,Tree.holds,sL];refine ⟨by omega,λ _=>⟨by omega,λ _=>⟨by omega,λ _=>⟨by omega,λ _=>⟨by omega,λ _=>⟨Int.le.intro 8 rfl,λ _=>⟨by omega,λ _=>⟨by omega,λ _=>⟨Int.le.intro 16 rfl,λ _=>?_⟩⟩⟩⟩⟩⟩⟩⟩⟩;have e1:Int.toNat (3+3*(m:Int))=3+3*m:=by omega
  have e2:Int.toNat (3+3*(m:Int)+1)=4+3*m:=by omega
  have e3:Int.toNat (3+3*(m:Int)+2)=5+3*m:=by omega
  rw [e1,e2,e3];show ((_,()):Int×Unit)=(uM s (Int.toNat (m:Int)),());rw [Int.toNat_natCast];have a1:=(s.getD (3+3*m) 0).toNat_lt;have a2:=(s.getD (4+3*m) 0).toNat_lt;have a3:=(s.getD (5+3*m) 0).toNat_lt;unfold uM vC;generalize (s.getD (3+3*m) 0).toNat=x at *
  generalize (s.getD (4+3*m) 0).toNat=y at *
  generalize (s.getD (5+3*m) 0).toNat=z at *
  have w:∀ q:Nat,q<16777216->IntKind.wrap .i64 (q:Int)=(q:Int):=λ q hq=>S8 (F0.2 ⟨by omega,by omega⟩);have p8:(2:Int)^min (Int.toNat 8) (IntKind.bits .i64)=256:=rfl;have TD:(2:Int)^min (Int.toNat 16) (IntKind.bits .i64)=65536:=rfl;rw [w x (by omega),w y (by omega),w z (by omega),p8,TD,show (y:Int)*256=((y*2^8:Nat):Int) by omega,show (z:Int)*65536=((z*2^16:Nat):Int) by omega,w _ (by omega),w _ (by omega),Lq (by omega) (by omega),Mk (k:=8) (by omega),Lq (by omega) (by omega),Mk (k:=16) (by omega)];congr 1
def Z5:B8:=(0,0,0,0,0,[0,0,0,0,0,0],[],())
def parse (s:yY):B8:=(vC s 0,vC s 1,vC s 2,uM s 0,uM s 1,[uM s 2,uM s 3,uM s 4,uM s 5,uM s 6,uM s 7],s.drop 27,())
def w8 (s:yY):B8×Int×Unit :=
  if 231<s.length then (Z5,2,()) else if s.length<31 then (Z5,3,()) else if le4 (va (s.take (s.length - 4)))≠s.drop (s.length - 4) then (Z5,5,())
  else if H6 (parse (s.take (s.length - 4)))≠0 then (Z5,H6 (parse (s.take (s.length - 4))),()) else (parse (s.take (s.length - 4)),0,())
def Gk:o7:={ ps:=[.v .str],rs:=[zf,e8],pre:=λ _=>True,fn:=λ x=>w8 x.1,out:=λ _=>() }
noncomputable def CW:Env:={ P:=Tryz.prog,tt:=tt,C5:=[(63,CM),(62,Dc),(64,Gg),(65,DC)],res:=[Go.ResultVar.cell 2 91,Go.ResultVar.tmp 3],rs:=[Ty.pair e8 (Ty.pair e8 (Ty.pair e8 (Ty.pair e8 (Ty.pair e8 (Ty.pair X7 (Ty.pair Ty.str Ty.unit)))))),Ty.int IntKind.i64],ps:=[PK.v Ty.str],y9:=[(11,[(2,none),(6,none),(7,none),(54,none)])],nt:=72 }
theorem Jl:w5 CW:=x6 p9 ⟨Sj,SL,b8d,Tt,trivial⟩
theorem IN:B0 CW Tryz.f46:=⟨rfl,rfl⟩
theorem VL (x0:yY):exec CW 1000 [.code (d8 Tryz.prog 46)] (s7 Gk.ps ((x0,()))) =
  cond (decide ((231:Int)<(↑(List.length x0):Int))) (.ret ((((0:Int),(0:Int),(0:Int),(0:Int),(0:Int),[(0:Int),(0:Int),(0:Int),(0:Int),(0:Int),(0:Int)],[],()),(2:Int),()))) (cond (decide ((↑(List.length x0):Int)<(31:Int))) (.ret ((((0:Int),(0:Int),(0:Int),(0:Int),(0:Int),[(0:Int),(0:Int),(0:Int),(0:Int),(0:Int),(0:Int)],[],()),(3:Int),()))) (.f7 (r7 IntKind.i64 ((↑(List.length x0):Int) - (4:Int))) (.f7 ((0:Int)<=(0:Int)/\(0:Int)<=(↑(List.length x0):Int) - (4:Int)/\(↑(List.length x0):Int) - (4:Int)<=(↑(List.length x0):Int)) (.f7 (r7 IntKind.i64 ((↑(List.length x0):Int) - (4:Int))) (.f7 ((0:Int)<=(↑(List.length x0):Int) - (4:Int)/\(↑(List.length x0):Int) - (4:Int)<=(↑(List.length x0):Int)/\(↑(List.length x0):Int)<=(↑(List.length x0):Int)) (.f7 (True) (.f7 (True) (cond (decide (List.map (λ n=>UInt8.ofNat (Int.toNat n)) (vQ (Int.toNat (↑(va (n9 (0:Int) ((↑(List.length x0):Int) - (4:Int)) x0)):Int)))≠n9 ((↑(List.length x0):Int) - (4:Int)) (↑(List.length x0):Int) x0)) (.ret ((((0:Int),(0:Int),(0:Int),(0:Int),(0:Int),[(0:Int),(0:Int),(0:Int),(0:Int),(0:Int),(0:Int)],[],()),(5:Int),()))) (.f7 ((0:Int)<=(0:Int)/\(0:Int)<(↑(List.length (n9 (0:Int) ((↑(List.length x0):Int) - (4:Int)) x0)):Int)) (.f7 ((0:Int)<=(1:Int)/\(1:Int)<(↑(List.length (n9 (0:Int) ((↑(List.length x0):Int) - (4:Int)) x0)):Int)) (.f7 ((0:Int)<=(2:Int)/\(2:Int)<(↑(List.length (n9 (0:Int) ((↑(List.length x0):Int) - (4:Int)) x0)):Int)) (.f7 ((0:Int)<=(0:Int)/\(5:Int)+(3:Int)*(0:Int)<(↑(List.length (n9 (0:Int) ((↑(List.length x0):Int) - (4:Int)) x0)):Int)) (.f7 ((0:Int)<=(1:Int)/\(5:Int)+(3:Int)*(1:Int)<(↑(List.length (n9 (0:Int) ((↑(List.length x0):Int) - (4:Int)) x0)):Int)) (.f7 ((0:Int)<=(27:Int)/\(27:Int)<=(↑(List.length (n9 (0:Int) ((↑(List.length x0):Int) - (4:Int)) x0)):Int)/\(↑(List.length (n9 (0:Int) ((↑(List.length x0):Int) - (4:Int)) x0)):Int)<=(↑(List.length (n9 (0:Int) ((↑(List.length x0):Int) - (4:Int)) x0)):Int)) (.ctL (g8 (d8 Tryz.prog 46) 11) (St.mk [(2,AV.ptr 2 []),(6,AV.C3 64 (AV.cons (AV.ptr 4 []) AV.nil)),(7,AV.ptr 7 []),(54,AV.val e8 (0:Int))] [(2,g9.var (Ty.pair e8 (Ty.pair e8 (Ty.pair e8 (Ty.pair e8 (Ty.pair e8 (Ty.pair X7 (Ty.pair Ty.str Ty.unit))))))) ((0:Int),(0:Int),(0:Int),(0:Int),(0:Int),[(0:Int),(0:Int),(0:Int),(0:Int),(0:Int),(0:Int)],[],())),(4,g9.var Ty.str (n9 (0:Int) ((↑(List.length x0):Int) - (4:Int)) x0)),(7,g9.var (Ty.pair e8 (Ty.pair e8 (Ty.pair e8 (Ty.pair e8 (Ty.pair e8 (Ty.pair X7 (Ty.pair Ty.str Ty.unit))))))) (IntKind.wrap IntKind.i64 (↑(UInt8.toNat (List.getD (n9 (0:Int) ((↑(List.length x0):Int) - (4:Int)) x0) (Int.toNat (0:Int)) (0:UInt8))):Int),IntKind.wrap IntKind.i64 (↑(UInt8.toNat (List.getD (n9 (0:Int) ((↑(List.length x0):Int) - (4:Int)) x0) (Int.toNat (1:Int)) (0:UInt8))):Int),IntKind.wrap IntKind.i64 (↑(UInt8.toNat (List.getD (n9 (0:Int) ((↑(List.length x0):Int) - (4:Int)) x0) (Int.toNat (2:Int)) (0:UInt8))):Int),uM (n9 (0:Int) ((↑(List.length x0):Int) - (4:Int)) x0) (Int.toNat (0:Int)),uM (n9 (0:Int) ((↑(List.length x0):Int) - (4:Int)) x0) (Int.toNat (1:Int)),[(0:Int),(0:Int),(0:Int),(0:Int),(0:Int),(0:Int)],n9 (27:Int) (↑(List.length (n9 (0:Int) ((↑(List.length x0):Int) - (4:Int)) x0)):Int) (n9 (0:Int) ((↑(List.length x0):Int) - (4:Int)) x0),()))])))))))))))))))):=by kernel_rfl
def Qv (vB:Int) (dO:Int) (cL:Int) (dN:Int) (cT:Int) (cr:Int) (bS:List Int) (bK:yY) (o4:yY) (cK:Int) (bq:Int) (cy:Int) (bP:Int) (bA:Int) (bo:List Int) (bf:yY):St:=St.mk [(2,AV.ptr 2 []),(6,AV.C3 64 (AV.cons (AV.ptr 4 []) AV.nil)),(7,AV.ptr 7 []),(54,AV.val e8 vB)] [(2,g9.var (Ty.pair e8 (Ty.pair e8 (Ty.pair e8 (Ty.pair e8 (Ty.pair e8 (Ty.pair X7 (Ty.pair Ty.str Ty.unit))))))) (dO,cL,dN,cT,cr,bS,bK,())),(4,g9.var Ty.str o4),(7,g9.var (Ty.pair e8 (Ty.pair e8 (Ty.pair e8 (Ty.pair e8 (Ty.pair e8 (Ty.pair X7 (Ty.pair Ty.str Ty.unit))))))) (cK,bq,cy,bP,bA,bo,bf,()))]
theorem XR (vB:Int) (dO:Int) (cL:Int) (dN:Int) (cT:Int) (cr:Int) (bS:List Int) (bK:yY) (o4:yY) (cK:Int) (bq:Int) (cy:Int) (bP:Int) (bA:Int) (bo:List Int) (bf:yY):exec CW 1000 (.code (g8 (d8 Tryz.prog 46) 11).1::.inLoop (g8 (d8 Tryz.prog 46) 11).1::(g8 (d8 Tryz.prog 46) 11).2) (Qv vB dO cL dN cT cr bS bK o4 cK bq cy bP bA bo bf) =
  cond (decide (vB<(6:Int))) (.f7 (r7 IntKind.i64 ((2:Int)+vB)) (.f7 ((0:Int)<=(2:Int)+vB/\(5:Int)+(3:Int)*((2:Int)+vB)<(↑(List.length o4):Int)) (.f7 ((0:Int)<=vB/\vB<(↑6:Int)) (.f7 (r7 IntKind.i64 (vB+(1:Int))) (.ctL (g8 (d8 Tryz.prog 46) 11) (St.mk [(2,AV.ptr 2 []),(6,AV.C3 64 (AV.cons (AV.ptr 4 []) AV.nil)),(7,AV.ptr 7 []),(54,AV.val e8 (vB+(1:Int)))] [(2,g9.var (Ty.pair e8 (Ty.pair e8 (Ty.pair e8 (Ty.pair e8 (Ty.pair e8 (Ty.pair X7 (Ty.pair Ty.str Ty.unit))))))) (dO,cL,dN,cT,cr,bS,bK,())),(4,g9.var Ty.str o4),(7,g9.var (Ty.pair e8 (Ty.pair e8 (Ty.pair e8 (Ty.pair e8 (Ty.pair e8 (Ty.pair X7 (Ty.pair Ty.str Ty.unit))))))) (cK,bq,cy,bP,bA,List.set bo (Int.toNat vB) (uM o4 (Int.toNat ((2:Int)+vB))),bf,()))])))))) (.f7 (True) (cond (decide (H6 (cK,bq,cy,bP,bA,bo,bf,())≠(0:Int))) (.ret ((((0:Int),(0:Int),(0:Int),(0:Int),(0:Int),[(0:Int),(0:Int),(0:Int),(0:Int),(0:Int),(0:Int)],[],()),H6 (cK,bq,cy,bP,bA,bo,bf,()),()))) (.ret (((cK,bq,cy,bP,bA,bo,bf,()),(0:Int),()))))):=by kernel_rfl
def atL (s:yY) (i:Nat):List Int:=(List.range 6).map (λ j=>if j<i then uM s (2+j) else 0)
theorem b78:Gk.Valid Tryz.prog 46:=by
  refine o7.n8 Jl rfl rfl Tryz.func46 (c:=d8 Tryz.prog 46) rfl rfl IN rfl ?_;rintro ⟨(s:yY),⟨⟩⟩ - -
  refine j8 (n:=1000) Jl IN ?_;refine i7 (VL s) ?_;simp only [j6,Tree.holds,sL];refine ⟨λ h=>?_,λ h1=>⟨λ h=>?_,λ h2=>⟨by omega,λ _=>⟨by omega,λ _=>⟨by omega,λ _=>⟨by omega,λ _=>?_⟩⟩⟩⟩⟩⟩
  . show ((Z5,2,()):B8×Int×Unit)=w8 s;rw [w8,if_pos (by omega)]
  . show ((Z5,3,()):B8×Int×Unit)=w8 s;rw [w8,if_neg (by omega),if_pos (by omega)]
  obtain ⟨n,hn⟩:∃ n:Nat,(s.length:Int) - 4=n:=⟨s.length - 4,by omega⟩;have sj:s.length - 4=n:=by omega
  have b1:n9 0 ((s.length:Int) - 4) s=s.take n:=by rw [hn,n9]; simp
  have b2:n9 ((s.length:Int) - 4) (s.length:Int) s=s.drop n:=by rw [hn,n9,Int.toNat_natCast,List.take_of_length_le (by rw [List.length_drop]; omega)]
  have bN:(s.take n).length=n:=by rw [List.length_take]; omega
  have b3:n9 27 (n:Int) (s.take n)=(s.take n).drop 27:=by rw [n9,List.take_of_length_le (by rw [List.length_drop,bN]; show n - 27<=((n:Int) - 27).toNat; omega)]; rfl
  have b4:List.map (λ n:Int=>UInt8.ofNat n.toNat) (vQ (va (s.take n)))=le4 (va (s.take n)):=Ke _;have hR:w8 s=if le4 (va (s.take n))≠s.drop n then (Z5,5,()) else if H6 (parse (s.take n))≠0 then (Z5,H6 (parse (s.take n)),()) else (parse (s.take n),0,()):=by
    rw [w8,if_neg (by omega),if_neg (by omega),sj]
  generalize gO:s.take n=body at *
  have w:∀ q:UInt8,IntKind.wrap .i64 (q.toNat:Int)=(q.toNat:Int):=λ q=>by have:=q.toNat_lt; exact S8 (F0.2 ⟨by omega,by omega⟩)
  simp only [j6,Tree.holds,b1,b2,b4,bN,b3,w,sL];refine ⟨λ h=>?_,λ h=>⟨by omega,λ _=>⟨by omega,λ _=>⟨by omega,λ _=>⟨by omega,λ _=>⟨by omega,λ _=>⟨by omega,λ _=>?_⟩⟩⟩⟩⟩⟩⟩
  . show ((Z5,5,()):B8×Int×Unit)=w8 s;rw [hR,if_pos h]
  rw [if_neg h] at hR;refine Reach.M0 Jl IN (λ i:Nat=>Qv (i:Int) 0 0 0 0 0 [0,0,0,0,0,0] [] body (vC body 0) (vC body 1) (vC body 2) (uM body 0) (uM body 1) (atL body i) (body.drop 27)) (λ i=>i<=6)
    (λ i=>6 - i) 1000 (λ _=>⟨s6 rfl,s6 rfl⟩) ?_ 0 (Nat.zero_le _)
  rintro i k1 - ih;have k1:i<=6:=k1;refine i7 (XR ..) ?_;simp only [j6,Tree.holds,bN,sL];refine ⟨λ c=>⟨by omega,λ _=>⟨by omega,λ _=>⟨by omega,λ _=>⟨by omega,λ _=>?_⟩⟩⟩⟩,λ c=>?_⟩
  . have hi:i<6:=by omega
    have:=ih (i+1) (by show i+1<=6; omega) (by omega);have e2:Int.toNat (2+(i:Int))=2+i:=by omega
    have:(atL body i).set i (uM body (2+i))=atL body (i+1):=by
      rw [atL,b4d _ _ hi,atL];refine List.map_congr_left (λ j hj=>?_);by_cases e:j=i
      . rw [if_pos e,if_pos (by omega),e]
      . rw [if_neg e];by_cases e2:j<i
        . rw [if_pos e2,if_pos (by omega)]
        . rw [if_neg e2,if_neg (by omega)]
    rw [e2,this]
    assumption
  . obtain rfl:i=6:=by omega
    have hp:(vC body 0,vC body 1,vC body 2,uM body 0,uM body 1,atL body 6,body.drop 27,())=parse body:=rfl;rw [hp];refine ⟨λ h=>?_,λ h=>?_⟩
    . show ((Z5,H6 (parse body),()):B8×Int×Unit)=w8 s;rw [hR,if_pos h]
    . show ((parse body,0,()):B8×Int×Unit)=w8 s;rw [hR,if_neg h]
abbrev vr:=Int×Int×Unit
def outside (m:Int):Bool:=decide (64<=m)
def half (p o:Int):Bool:=decide (vo o<2*vo (T1 .u8 p o))
def R5 (v:vr):Int:=if v.1<0\/16777215<v.1\/v.2.1=0\/64<=v.2.1 then 1 else 0
def R2 (v:vr) (g c:Int):vr×Int×Unit :=
  if R5 v≠0 then ((0,0,()),R5 v,()) else if outside (bOr .u8 g c)=true then ((0,0,()),1,()) else if T1 .u8 g c≠0 then ((0,0,()),1,())
  else if v.1=16777215 then ((0,0,()),8,()) else if (!half (Q9 .u8 v.2.1 g) v.2.1)=true then ((0,0,()),11,()) else ((v.1+1,bOr .u8 (Q9 .u8 v.2.1 g) c,()),0,())
def Ee:o7:={ ps:=[.v U8],rs:=[.bool],pre:=λ _=>True,fn:=λ x=>(outside x.1,()),out:=λ _=>() }
def Bl:o7:={ ps:=[.v View],rs:=[e8],pre:=λ _=>True,fn:=λ x=>(R5 x.1,()),out:=λ _=>() }
def Gh:o7:={ ps:=[.v U8],rs:=[e8],pre:=λ _=>True,fn:=λ x=>(vo x.1,()),out:=λ _=>() }
def Ga:o7:={ ps:=[.v U8,.v U8],rs:=[.bool],pre:=λ _=>True,fn:=λ x=>(half x.1 x.2.1,()),out:=λ _=>() }
def Be:o7:={ ps:=[.v View,.v U8,.v U8],rs:=[View,e8],pre:=λ _=>True,fn:=λ x=>R2 x.1 x.2.1 x.2.2.1,out:=λ _=>() }
noncomputable def Ji:Env:={ P:=Tryz.prog,tt:=tt,C5:=[],res:=[Go.ResultVar.tmp 2],rs:=[Ty.bool],ps:=[PK.v U8],y9:=[],nt:=6 }
theorem Sm:w5 Ji:=x6 p9 trivial
theorem Sn:B0 Ji Tryz.f71:=⟨rfl,rfl⟩
theorem Zx (x0:Int):exec Ji 1000 [.code (d8 Tryz.prog 71)] (s7 Ee.ps ((x0,()))) =
  .f7 ((0:Int)<=(6:Int)) (.ret ((decide (x0 / (2:Int)^min (Int.toNat (6:Int)) (IntKind.bits IntKind.u8)≠(0:Int)),()))):=by kernel_rfl
theorem Tz:Ee.Valid Tryz.prog 71:=by
  refine o7.n8 Sm rfl rfl Tryz.func71 (c:=d8 Tryz.prog 71) rfl rfl Sn rfl ?_;rintro ⟨(x0:Int),⟨⟩⟩ - ⟨h0,-⟩;refine j8 (n:=1000) Sm Sn ?_;refine i7 (Zx x0) ?_;refine ⟨by decide,λ _=>?_⟩;have h:0<=x0/\x0<=255:=h0;show (decide (x0 / 2^6≠0),())=(outside x0,());unfold outside;congr 1;exact decide_eq_decide.2 (by omega)
noncomputable def HV:Env:={ P:=Tryz.prog,tt:=tt,C5:=[(71,Ee)],res:=[Go.ResultVar.tmp 2],rs:=[Ty.int IntKind.i64],ps:=[PK.v View],y9:=[],nt:=21 }
theorem Rp:w5 HV:=x6 p9 ⟨Tz,trivial⟩
theorem Rv:B0 HV Tryz.f70:=⟨rfl,rfl⟩
theorem XS (aO:Int) (ab:Int):exec HV 1000 [.code (d8 Tryz.prog 70)] (s7 Bl.ps (((aO,ab,()),()))) =
  cond (decide (aO<(0:Int))) (.ret (((1:Int),()))) (cond (decide ((16777215:Int)<aO)) (.ret (((1:Int),()))) (cond (decide (ab=(0:Int))) (.ret (((1:Int),()))) (.f7 (True) (cond (outside ab) (.ret (((1:Int),()))) (.ret (((0:Int),()))))))):=by kernel_rfl
theorem Ts:Bl.Valid Tryz.prog 70:=by
  refine o7.n8 Rp rfl rfl Tryz.func70 (c:=d8 Tryz.prog 70) rfl rfl Rv rfl ?_;rintro ⟨⟨(x0:Int),(x1:Int),⟨⟩⟩,⟨⟩⟩ - ⟨⟨h0,h1,-⟩,-⟩;refine j8 (n:=1000) Rp Rv ?_;refine i7 (XS x0 x1) ?_;have g0:-9223372036854775808<=x0/\x0<=9223372036854775807:=h0;have g1:0<=x1/\x1<=255:=h1;simp only [j6,Tree.holds,decide_eq_true_eq,decide_eq_false_iff_not];have key:∀ r:Int,r=R5 (x0,x1,())->((r,()):DL [Ty.int .i64])=Bl.fn ((x0,x1,()),()):=by rintro r rfl; rfl
  refine ⟨λ a=>key _ ?_,λ a=>⟨λ b=>key _ ?_,λ b=>⟨λ c=>key _ ?_,λ c=>⟨trivial,λ _=>⟨λ d=>key _ ?_,λ d=>key _ ?_⟩⟩⟩⟩⟩
  all_goals simp only [R5,outside,decide_eq_true_eq,decide_eq_false_iff_not] at *
  all_goals (first|rw [if_pos (by omega)]|rw [if_neg (by omega)])
noncomputable def FN:Env:={ P:=Tryz.prog,tt:=tt,C5:=[],res:=[Go.ResultVar.tmp 2],rs:=[Ty.int IntKind.i64],ps:=[PK.v U8],y9:=[],nt:=6 }
theorem Pj:w5 FN:=x6 p9 trivial
theorem Pa:B0 FN Tryz.f88:=⟨rfl,rfl⟩
theorem VI (x0:Int):exec FN 1000 [.code (d8 Tryz.prog 88)] (s7 Gh.ps ((x0,()))) =
  .f7 ((0:Int)<=x0/\x0<(↑(List.length (Array.toList (ByteArray.data (ByteArray.mk (List.toArray (List.append (List.append ([0,1,1,2,1,2,2,3,1,2,2,3,2,3,3,4,1,2,2,3,2,3,3,4,2,3,3,4,3,4,4,5,1,2,2,3,2,3,3,4,2,3,3,4,3,4,4,5,2,3,3,4,3,4,4,5,3,4,4,5,4,5,5,6]:yY) ([1,2,2,3,2,3,3,4,2,3,3,4,3,4,4,5,2,3,3,4,3,4,4,5,3,4,4,5,4,5,5,6,2,3,3,4,3,4,4,5,3,4,4,5,4,5,5,6,3,4,4,5,4,5,5,6,4,5,5,6,5,6,6,7]:yY)) (List.append ([1,2,2,3,2,3,3,4,2,3,3,4,3,4,4,5,2,3,3,4,3,4,4,5,3,4,4,5,4,5,5,6,2,3,3,4,3,4,4,5,3,4,4,5,4,5,5,6,3,4,4,5,4,5,5,6,4,5,5,6,5,6,6,7]:yY) ([2,3,3,4,3,4,4,5,3,4,4,5,4,5,5,6,3,4,4,5,4,5,5,6,4,5,5,6,5,6,6,7,3,4,4,5,4,5,5,6,4,5,5,6,5,6,6,7,4,5,5,6,5,6,6,7,5,6,6,7,6,7,7,8]:yY)))))))):Int)) (.ret ((IntKind.wrap IntKind.i64 (↑(UInt8.toNat (List.getD (Array.toList (ByteArray.data (ByteArray.mk (List.toArray (List.append (List.append ([0,1,1,2,1,2,2,3,1,2,2,3,2,3,3,4,1,2,2,3,2,3,3,4,2,3,3,4,3,4,4,5,1,2,2,3,2,3,3,4,2,3,3,4,3,4,4,5,2,3,3,4,3,4,4,5,3,4,4,5,4,5,5,6]:yY) ([1,2,2,3,2,3,3,4,2,3,3,4,3,4,4,5,2,3,3,4,3,4,4,5,3,4,4,5,4,5,5,6,2,3,3,4,3,4,4,5,3,4,4,5,4,5,5,6,3,4,4,5,4,5,5,6,4,5,5,6,5,6,6,7]:yY)) (List.append ([1,2,2,3,2,3,3,4,2,3,3,4,3,4,4,5,2,3,3,4,3,4,4,5,3,4,4,5,4,5,5,6,2,3,3,4,3,4,4,5,3,4,4,5,4,5,5,6,3,4,4,5,4,5,5,6,4,5,5,6,5,6,6,7]:yY) ([2,3,3,4,3,4,4,5,3,4,4,5,4,5,5,6,3,4,4,5,4,5,5,6,4,5,5,6,5,6,6,7,3,4,4,5,4,5,5,6,4,5,5,6,5,6,6,7,4,5,5,6,5,6,6,7,5,6,6,7,6,7,7,8]:yY))))))) (Int.toNat x0) (0:UInt8))):Int),()))):=by kernel_rfl
theorem b8c:Gh.Valid Tryz.prog 88:=by
  refine o7.n8 Pj rfl rfl Tryz.func88 (c:=d8 Tryz.prog 88) rfl rfl Pa rfl ?_;rintro ⟨(x0:Int),⟨⟩⟩ - ⟨h0,-⟩;refine j8 (n:=1000) Pj Pa ?_;refine i7 (VI x0) ?_;have g0:0<=x0/\x0<=255:=h0;obtain ⟨n,rfl⟩:∃ n:Fin 256,x0=((n.val:Nat):Int):=⟨⟨x0.toNat,by omega⟩,by simp; omega⟩;refine ⟨?_,λ _=>?_⟩
  . clear h0 g0; revert n; decide +kernel
  . show ((_,()):Int×Unit)=(vo n,());clear h0 g0; revert n; decide +kernel
noncomputable def FH:Env:={ P:=Tryz.prog,tt:=tt,C5:=[(88,Gh)],res:=[Go.ResultVar.tmp 4],rs:=[Ty.bool],ps:=[PK.v U8,PK.v U8],y9:=[],nt:=13 }
theorem Ow:w5 FH:=x6 p9 ⟨b8c,trivial⟩
theorem OV:B0 FH Tryz.f72:=⟨rfl,rfl⟩
theorem VA (x0:Int) (x1:Int):exec FH 1000 [.code (d8 Tryz.prog 72)] (s7 Ga.ps ((x0,x1,()))) =
  .f7 (True) (.f7 (r7 IntKind.i64 ((2:Int)*vo (T1 IntKind.u8 x0 x1))) (.f7 (True) (.ret ((decide (vo x1<(2:Int)*vo (T1 IntKind.u8 x0 x1)),()))))):=by kernel_rfl
theorem b8m:Ga.Valid Tryz.prog 72:=by
  refine o7.n8 Ow rfl rfl Tryz.func72 (c:=d8 Tryz.prog 72) rfl rfl OV rfl ?_;rintro ⟨(x0:Int),(x1:Int),⟨⟩⟩ - ⟨h0,h1,-⟩;refine j8 (n:=1000) Ow OV ?_;refine i7 (VA x0 x1) ?_;have hb:∀ a b:Int,0<=vo (T1 .u8 a b)/\vo (T1 .u8 a b)<=8:=λ a b=>NX _;refine ⟨trivial,λ _=>⟨?_,λ _=>⟨trivial,λ _=>rfl⟩⟩⟩;have:=hb x0 x1;show -9223372036854775808<=_/\_<=9223372036854775807;omega
theorem b97 {v:vr} (h:R5 v=0):0<=v.1/\v.1<=16777215/\v.2.1≠0/\v.2.1<64:=by
  unfold R5 at h;split at h
  . cases h
  . omega
noncomputable def Hq:Env:={ P:=Tryz.prog,tt:=tt,C5:=[(71,Ee),(70,Bl),(72,Ga)],res:=[Go.ResultVar.cell 6 57,Go.ResultVar.tmp 7],rs:=[Ty.pair e8 (Ty.pair U8 Ty.unit),Ty.int IntKind.i64],ps:=[PK.v View,PK.v U8,PK.v U8],y9:=[],nt:=52 }
theorem Ra:w5 Hq:=x6 p9 ⟨Tz,Ts,b8m,trivial⟩
theorem QJ:B0 Hq Tryz.f53:=⟨rfl,rfl⟩
theorem Xi (aO:Int) (ab:Int) (x1:Int) (x2:Int):exec Hq 1000 [.code (d8 Tryz.prog 53)] (s7 Be.ps (((aO,ab,()),x1,x2,()))) =
  .f7 (True) (cond (decide (R5 (aO,ab,())≠(0:Int))) (.ret ((((0:Int),(0:Int),()),R5 (aO,ab,()),()))) (.f7 (True) (cond (outside (bOr IntKind.u8 x1 x2)) (.ret ((((0:Int),(0:Int),()),(1:Int),()))) (cond (decide (T1 IntKind.u8 x1 x2≠(0:Int))) (.ret ((((0:Int),(0:Int),()),(1:Int),()))) (cond (decide (aO=(16777215:Int))) (.ret ((((0:Int),(0:Int),()),(8:Int),()))) (.f7 (True) (cond (!half (Q9 IntKind.u8 ab x1) ab) (.ret ((((0:Int),(0:Int),()),(11:Int),()))) (.f7 (r7 IntKind.i64 (aO+(1:Int))) (.ret (((aO+(1:Int),bOr IntKind.u8 (Q9 IntKind.u8 ab x1) x2,()),(0:Int),()))))))))))):=by kernel_rfl
theorem Tg:Be.Valid Tryz.prog 53:=by
  refine o7.n8 Ra rfl rfl Tryz.func53 (c:=d8 Tryz.prog 53) rfl rfl QJ rfl ?_;rintro ⟨⟨(x0:Int),(x1:Int),⟨⟩⟩,(g:Int),(c:Int),⟨⟩⟩ - ⟨⟨h0,h1,-⟩,h2,h3,-⟩;refine j8 (n:=1000) Ra QJ ?_;refine i7 (Xi x0 x1 g c) ?_;have g0:-9223372036854775808<=x0/\x0<=9223372036854775807:=h0;have key:∀ r:vr×Int×Unit,R2 (x0,x1,()) g c=r->((r:DL [View,.int .i64])=Be.fn ((x0,x1,()),g,c,())):=by rintro r rfl; rfl
  simp only [j6,Tree.holds,decide_eq_true_eq,decide_eq_false_iff_not];refine ⟨trivial,λ _=>⟨λ a=>key _ ?_,λ a=>⟨trivial,λ _=>⟨λ b=>key _ ?_,λ b=>⟨λ d=>key _ ?_,λ d=>⟨λ e=>key _ ?_,λ e=>⟨trivial,λ _=>⟨λ f=>key _ ?_,λ f=>⟨⟨?_,?_⟩,λ _=>key _ ?_⟩⟩⟩⟩⟩⟩⟩⟩⟩
  . rw [R2,if_pos a]; rfl
  . rw [R2,if_neg a,if_pos b]; rfl
  . rw [R2,if_neg a,if_neg (by simpa using b),if_pos d]; rfl
  . rw [R2,if_neg a,if_neg (by simpa using b),if_neg d,if_pos e]; rfl
  . rw [R2,if_neg a,if_neg (by simpa using b),if_neg d,if_neg e,if_pos f]; rfl
  . show -9223372036854775808<=_; omega
  . have:=(b97 (v:=(x0,x1,())) (by simpa using a)).2.1;show x0+1<=9223372036854775807; simp only at this; omega
  . rw [R2,if_neg a,if_neg (by simpa using b),if_neg d,if_neg e,if_neg (by simpa using f)]; rfl
def R9 (f:Nat->Int):Nat->Int
  | 0=>0
  | k+1=>if R9 f k≠0 then R9 f k else f k
theorem SB {f:Nat->Int} {k:Nat} (h0:R9 f k=0) (h1:f k≠0):∀ {n:Nat},k<n->R9 f n=f k
  | 0,h=>by omega
  | n+1,h=>by
    by_cases e:k=n
    . subst e; simp [R9,h0]
    . have:=SB h0 h1 (n:=n) (by omega);simp [R9,this,h1]
theorem SA {f:Nat->Int} {k:Nat} (h0:R9 f k=0) (h1:f k=0):R9 f (k+1)=0:=by simp [R9,h0,h1]
theorem EP {f:Nat->Int}:∀ {n:Nat},R9 f n=0↔∀ k,k<n->f k=0
  | 0=>by simp [R9]
  | n+1=>by
    constructor
    . intro h k hk;have h2:R9 f n=0:=by
        by_cases e:R9 f n=0
        . exact e
        . rw [R9,if_pos e] at h; exact absurd h e
      by_cases e:k=n
      . subst e; simpa [R9,h2] using h
      . exact EP.1 h2 k (by omega)
    . intro h;exact SA (EP.2 (λ k hk=>h k (by omega))) (h n (by omega))
abbrev u5:=Int×yY×Unit
abbrev vy:=Int×List yY×Unit
abbrev ToD:=Int×List u5×Unit
def Ar:o7:={ ps:=[.v e8,.v e8,.v e8],rs:=[.bool],pre:=λ _=>True,fn:=λ x=>(Y1 x.1 x.2.1 x.2.2.1,()),out:=λ _=>() }
noncomputable def Fm:Env:={ P:=Tryz.prog,tt:=tt,C5:=[],res:=[Go.ResultVar.tmp 6],rs:=[Ty.bool],ps:=[PK.v e8,PK.v e8,PK.v e8],y9:=[],nt:=15 }
theorem Nj:w5 Fm:=x6 p9 trivial
theorem Nu:B0 Fm Tryz.f75:=⟨rfl,rfl⟩
theorem UN (x0:Int) (x1:Int) (x2:Int):exec Fm 1000 [.code (d8 Tryz.prog 75)] (s7 Ar.ps ((x0,x1,x2,()))) =
  cond (decide (x1<=x0)) (.ret ((decide (x0<=x2),()))) (.ret ((false,()))):=by kernel_rfl
theorem Ki:Ar.Valid Tryz.prog 75:=by
  refine o7.n8 Nj rfl rfl Tryz.func75 (c:=d8 Tryz.prog 75) rfl rfl Nu rfl ?_;rintro ⟨(a:Int),(b:Int),(c:Int),⟨⟩⟩ - -
  refine j8 (n:=1000) Nj Nu ?_;refine i7 (UN a b c) ?_;simp only [j6,Tree.holds,sL]
  repeat' first|exact trivial|(refine And.intro ?_ ?_)|(intro _)
  all_goals (show ((_,()):Bool×Unit)=(Y1 a b c,()); simp [Y1, *])
def E2 (s:yY):Bool:=decide ((200:Int)<s.length)
def zD:o7:={ ps:=[.v .str],rs:=[.bool],pre:=λ _=>True,fn:=λ x=>(E2 x.1,()),out:=λ _=>() }
noncomputable def Hp:Env:={ P:=Tryz.prog,tt:=tt,C5:=[],res:=[Go.ResultVar.tmp 2],rs:=[Ty.bool],ps:=[PK.v Ty.str],y9:=[],nt:=6 }
theorem QZ:w5 Hp:=x6 p9 trivial
theorem QI:B0 Hp Tryz.f59:=⟨rfl,rfl⟩
theorem Xg (x0:yY):exec Hp 1000 [.code (d8 Tryz.prog 59)] (s7 zD.ps ((x0,()))) =
  .ret ((decide ((200:Int)<(↑(List.length x0):Int)),())):=by kernel_rfl
theorem EK:zD.Valid Tryz.prog 59:=by
  refine o7.n8 QZ rfl rfl Tryz.func59 (c:=d8 Tryz.prog 59) rfl rfl QI rfl ?_;rintro ⟨(s:yY),⟨⟩⟩ - -
  refine j8 (n:=1000) QZ QI ?_;refine i7 (Xg s) ?_;rfl
def Gc:o7:={ ps:=[.v (.d0 false .str),.C3 59 []],rs:=[e8],pre:=λ x=>True,fn:=λ x=>(idxOf (E2) x.1,()),out:=λ _=>() }
noncomputable def CV:Env:={ P:=Tryz.prog,tt:=tt,C5:=[(59,zD)],res:=[Go.ResultVar.tmp 4],rs:=[Ty.int IntKind.i64],ps:=[PK.v (Ty.d0 false Ty.str),PK.C3 59 []],y9:=[(2,[(0,none),(1,none),(7,none),(8,none)])],nt:=19 }
theorem Jh:w5 CV:=x6 p9 ⟨EK,trivial⟩
theorem IL:B0 CV Tryz.f94:=⟨rfl,rfl⟩
theorem VC (x0:List yY):exec CV 1000 [.code (d8 Tryz.prog 94)] (s7 Gc.ps ((x0,(),()))) =
  .ctL (g8 (d8 Tryz.prog 94) 2) (St.mk [(0,AV.val (Ty.d0 false Ty.str) x0),(1,AV.C3 59 AV.nil),(7,AV.val e8 (↑(List.length x0):Int)),(8,AV.val e8 (0:Int))] []):=by kernel_rfl
def Oy (v0:List yY) (v7:Int) (v8:Int):St:=St.mk [(0,AV.val (Ty.d0 false Ty.str) v0),(1,AV.C3 59 AV.nil),(7,AV.val e8 v7),(8,AV.val e8 v8)] []
theorem Xf (v0:List yY) (v7:Int) (v8:Int):exec CV 1000 (.code (g8 (d8 Tryz.prog 94) 2).1::.inLoop (g8 (d8 Tryz.prog 94) 2).1::(g8 (d8 Tryz.prog 94) 2).2) (Oy v0 v7 v8) =
  cond (decide (v8<v7)) (.f7 ((0:Int)<=v8/\v8<(↑(List.length v0):Int)) (.f7 (True) (cond (E2 (List.getD v0 (Int.toNat v8) [])) (.ret ((v8,()))) (.f7 (r7 IntKind.i64 (v8+(1:Int))) (.ctL (g8 (d8 Tryz.prog 94) 2) (St.mk [(0,AV.val (Ty.d0 false Ty.str) v0),(1,AV.C3 59 AV.nil),(7,AV.val e8 v7),(8,AV.val e8 (v8+(1:Int)))] [])))))) (.ret (((-1:Int),()))):=by kernel_rfl
theorem b8j:Gc.Valid Tryz.prog 94:=by
  refine o7.n8 Jh rfl rfl Tryz.func94 (c:=d8 Tryz.prog 94) rfl rfl IL rfl ?_;rintro ⟨(l:List yY),⟨⟩,⟨⟩⟩ - ⟨⟨hl,-⟩,-⟩;have hl:l.length<=9223372036854775807:=hl;refine j8 (n:=1000) Jh IL ?_;refine i7 (VC l ) ?_;refine Reach.M0 Jh IL (λ i:Nat=>Oy l  (l.length:Int) (i:Int)) (λ i=>i<=l.length/\idxOf (E2) l=U6 (E2) (l.drop i) i)
    (λ i=>l.length - i) 1000 (λ _=>⟨s6 rfl,s6 rfl⟩) ?_ 0 ⟨by omega,rfl⟩
  rintro i ⟨k1,k2⟩ - ih;refine i7 (Xf ..) ?_;simp only [j6,Tree.holds,sL];refine ⟨λ h=>?_,λ h=>?_⟩
  . rw [Jr (show i<l.length by omega) [],U6] at k2;refine ⟨by omega,λ _=>⟨λ c=>?_,λ c=>⟨by omega,λ _=>ih (i+1) ⟨by omega,?_⟩ (by omega)⟩⟩⟩
    . show (((i:Int),()):Int×Unit)=(idxOf (E2) l,());rw [k2,if_pos (show (E2) (l.getD i [])=true from c)]
    . rw [k2,if_neg (show ¬ (E2) (l.getD i [])=true from λ h9=>Bool.noConfusion (Eq.trans (Eq.symm h9) c))]
  . rw [List.drop_eq_nil_of_le (by omega)] at k2;show (((-1:Int),()):Int×Unit)=(idxOf (E2) l,());rw [k2]; rfl
def Hk:o7:={ ps:=[.v (.d0 false .str),.C3 59 []],rs:=[.bool],pre:=λ x=>True,fn:=λ x=>(List.any (α:=yY) x.1 (E2),()),out:=λ _=>() }
noncomputable def GP:Env:={ P:=Tryz.prog,tt:=tt,C5:=[(94,Gc)],res:=[Go.ResultVar.tmp 4],rs:=[Ty.bool],ps:=[PK.v (Ty.d0 false Ty.str),PK.C3 59 []],y9:=[],nt:=9 }
theorem PS:w5 GP:=x6 p9 ⟨b8j,trivial⟩
theorem Qz:B0 GP Tryz.f76:=⟨rfl,rfl⟩
theorem Wg (x0:List yY):exec GP 1000 [.code (d8 Tryz.prog 76)] (s7 Hk.ps ((x0,(),()))) =
  .f7 (True) (.ret ((decide ((0:Int)<=idxOf E2 x0),()))):=by kernel_rfl
theorem b6c:Hk.Valid Tryz.prog 76:=by
  refine o7.n8 PS rfl rfl Tryz.func76 (c:=d8 Tryz.prog 76) rfl rfl Qz rfl ?_;rintro ⟨(l:List yY),⟨⟩,⟨⟩⟩ - -
  refine j8 (n:=1000) PS Qz ?_;refine i7 (Wg l ) ?_;refine ⟨trivial,λ _=>?_⟩;show ((decide (0<=idxOf (E2) l),()):Bool×Unit)=(l.any (E2),());rw [MU]
theorem TZ:Ty.wb .str=16:=rfl
def CL:o7:={ ps:=[.v (.d0 false .str)],rs:=[.d0 true .str],pre:=λ x=>List.length (α:=yY) x.1<=1048576,fn:=λ x=>x,out:=λ _=>() }
noncomputable def Fq:Env:={ P:=Tryz.prog,tt:=tt,C5:=[],res:=[Go.ResultVar.tmp 2],rs:=[Ty.d0 true Ty.str],ps:=[PK.v (Ty.d0 false Ty.str)],y9:=[],nt:=8 }
theorem Nn:w5 Fq:=x6 p9 trivial
theorem Nx:B0 Fq Tryz.f32:=⟨rfl,rfl⟩
theorem Ut (x0:List yY):exec Fq 1000 [.code (d8 Tryz.prog 32)] (s7 CL.ps ((x0,()))) =
  .both (x0=[]) (.ret (([],()))) (.f7 ((0:Nat)+List.length x0<=140737488355328/\((0:Nat)+List.length x0)*Ty.wb Ty.str<=140737488355328) (.ret (([]++x0,())))):=by kernel_rfl
theorem Si:CL.Valid Tryz.prog 32:=by
  refine o7.n8 Nn rfl rfl Tryz.func32 (c:=d8 Tryz.prog 32) rfl rfl Nx rfl ?_;rintro ⟨(l:List yY),⟨⟩⟩ hp -
  have hp:l.length<=1048576:=hp;refine j8 (n:=1000) Nn Nx ?_;refine i7 (Ut l) ?_;simp only [j6,Tree.holds,TZ,sL];refine ⟨λ h=>?_,by omega,λ _=>rfl⟩;show (([],()):List yY×Unit)=(l,());rw [show l=[] from h]
def f00:vy:=(0,[],())
def H8 (s:vy):Int:=if Y1 s.1 0 16777215=false then 1 else if (16:Int)<s.2.1.length then 1 else if s.2.1.any E2=true then 2 else 0
def Bd:o7:={ ps:=[.v P7],rs:=[e8],pre:=λ _=>True,fn:=λ x=>(H8 x.1,()),out:=λ _=>() }
noncomputable def GR:Env:={ P:=Tryz.prog,tt:=tt,C5:=[(75,Ar),(76,Hk)],res:=[Go.ResultVar.tmp 2],rs:=[Ty.int IntKind.i64],ps:=[PK.v P7],y9:=[],nt:=18 }
theorem QS:w5 GR:=x6 p9 ⟨Ki,b6c,trivial⟩
theorem QB:B0 GR Tryz.f58:=⟨rfl,rfl⟩
theorem Xx (aO:Int) (ab:List yY):exec GR 1000 [.code (d8 Tryz.prog 58)] (s7 Bd.ps (((aO,ab,()),()))) =
  .f7 (True) (cond (!Y1 aO (0:Int) (16777215:Int)) (.ret (((1:Int),()))) (cond (decide ((16:Int)<(↑(List.length ab):Int))) (.ret (((1:Int),()))) (.f7 (True) (cond (List.any ab E2) (.ret (((2:Int),()))) (.ret (((0:Int),()))))))):=by kernel_rfl
theorem lnf {b:Bool} (h:b=true):¬ b=false:=by rw [h]; simp
theorem KS:Bd.Valid Tryz.prog 58:=by
  refine o7.n8 QS rfl rfl Tryz.func58 (c:=d8 Tryz.prog 58) rfl rfl QB rfl ?_;rintro ⟨⟨(b:Int),(l:List yY),⟨⟩⟩,⟨⟩⟩ - -
  refine j8 (n:=1000) QS QB ?_;refine i7 (Xx b l) ?_;have key:∀ {x:Int},H8 (b,l,())=x->((x,()):Int×Unit)=(H8 (b,l,()),()):=by rintro x rfl; rfl
  have hd:H8 (b,l,())=if Y1 b 0 16777215=false then 1 else if (16:Int)<l.length then 1 else if l.any E2=true then 2 else 0:=rfl
  simp only [j6,Tree.holds,sL];refine ⟨λ a=>key (by rw [hd,if_pos a]),λ a=>⟨λ c=>key (by rw [hd,if_neg (lnf a),if_pos c]),λ c=>⟨λ d=>key (by rw [hd,if_neg (lnf a),if_neg c,if_pos d]),λ d=>key (by rw [hd,if_neg (lnf a),if_neg c,if_neg (by rw [d]; simp)])⟩⟩⟩
theorem Z7 {s:vy} (h:H8 s=0):(0<=s.1/\s.1<=16777215)/\s.2.1.length<=16/\s.2.1.any E2=false:=by
  unfold H8 at h;split at h
  . cases h
  rename_i c1;split at h
  . cases h
  rename_i c2;split at h
  . cases h
  rename_i c3;exact ⟨wv.1 (Bool.not_eq_false _▸c1),by omega,by simpa using c3⟩
def K3 (s:vy) (x:yY):vy×Int×Unit :=
  if H8 s≠0 then (f00,H8 s,()) else if E2 x=true then (f00,2,()) else if (s.2.1.length:Int)=16\/16777215<=s.1+s.2.1.length then (f00,8,()) else ((s.1,s.2.1++[x],()),0,())
def Gf:o7:={ ps:=[.v P7,.v .str],rs:=[LO,e8],pre:=λ _=>True,fn:=λ x=>K3 x.1 x.2.1,out:=λ _=>() }
noncomputable def FK:Env:={ P:=Tryz.prog,tt:=tt,C5:=[(58,Bd),(59,zD),(32,CL)],res:=[Go.ResultVar.cell 4 78,Go.ResultVar.tmp 5],rs:=[Ty.pair e8 (Ty.pair (Ty.d0 true Ty.str) Ty.unit),Ty.int IntKind.i64],ps:=[PK.v P7,PK.v Ty.str],y9:=[],nt:=41 }
theorem Pg:w5 FK:=x6 p9 ⟨KS,EK,Si,trivial⟩
theorem OY:B0 FK Tryz.f42:=⟨rfl,rfl⟩
theorem VF (aO:Int) (ab:List yY) (x1:yY):exec FK 1000 [.code (d8 Tryz.prog 42)] (s7 Gf.ps (((aO,ab,()),x1,()))) =
  .f7 (True) (cond (decide (H8 (aO,ab,())≠(0:Int))) (.ret ((((0:Int),[],()),H8 (aO,ab,()),()))) (.f7 (True) (cond (E2 x1) (.ret ((((0:Int),[],()),(2:Int),()))) (cond (decide ((↑(List.length ab):Int)=(16:Int))) (.ret ((((0:Int),[],()),(8:Int),()))) (.f7 (r7 IntKind.i64 (aO+(↑(List.length ab):Int))) (cond (decide ((16777215:Int)<=aO+(↑(List.length ab):Int))) (.ret ((((0:Int),[],()),(8:Int),()))) (.f7 (List.length ab<=1048576) (.f7 (List.length ab+List.length (List.set [[]] (Int.toNat (↑0:Int)) x1)<=140737488355328/\(List.length ab+List.length (List.set [[]] (Int.toNat (↑0:Int)) x1))*Ty.wb Ty.str<=140737488355328) (.ret (((aO,ab++List.set [[]] (Int.toNat (↑0:Int)) x1,()),(0:Int),()))))))))))):=by kernel_rfl
theorem b8e:Gf.Valid Tryz.prog 42:=by
  refine o7.n8 Pg rfl rfl Tryz.func42 (c:=d8 Tryz.prog 42) rfl rfl OY rfl ?_;rintro ⟨⟨(b:Int),(l:List yY),⟨⟩⟩,(x:yY),⟨⟩⟩ - -
  refine j8 (n:=1000) Pg OY ?_;refine i7 (VF b l x) ?_;have key:∀ {y:vy×Int×Unit},K3 (b,l,()) x=y->y=K3 (b,l,()) x:=λ h=>h.symm;have hd:K3 (b,l,()) x=if H8 (b,l,())≠0 then (f00,H8 (b,l,()),()) else if E2 x=true then (f00,2,()) else if (l.length:Int)=16\/16777215<=b+l.length then (f00,8,()) else ((b,l++[x],()),0,()):=rfl
  have hw:Ty.wb .str=16:=rfl;simp only [j6,Tree.holds,hw,sL];refine ⟨λ a=>key (by rw [hd,if_pos a]<;>rfl),λ a=>?_⟩;have aM:=Z7 (Decidable.not_not.1 a);simp only at aM;rw [if_neg a] at hd;refine ⟨λ c=>key (by rw [hd,if_pos c]<;>rfl),λ c=>?_⟩;rw [if_neg (by rw [c]; simp)] at hd;refine ⟨λ d=>key (by rw [hd,if_pos (.inl d)]<;>rfl),λ d=>⟨by omega,λ _=>⟨λ e=>key (by rw [hd,if_pos (.inr e)]<;>rfl),λ e=>⟨by omega,λ _=>⟨⟨by omega,by omega⟩,λ _=>key ?_⟩⟩⟩⟩⟩;rw [hd,if_neg (by rintro (h|h); exact d h; exact e h)]; rfl
def ahd (b x:Int):Int:=if x - b<0 then 0 else x - b
def Q8 (s:vy) (x:Int):vy×Int×Unit :=
  if H8 s≠0 then (f00,H8 s,()) else if s.1+s.2.1.length<x then (f00,1,()) else ((s.1+ahd s.1 x,s.2.1.drop (ahd s.1 x).toNat,()),0,())
def HB:o7:={ ps:=[.v P7,.v e8],rs:=[LO,e8],pre:=λ x=>LE.le (α:=Int) 0 x.2.1,fn:=λ x=>Q8 x.1 x.2.1,out:=λ _=>() }
noncomputable def HR:Env:={ P:=Tryz.prog,tt:=tt,C5:=[(58,Bd),(32,CL)],res:=[Go.ResultVar.cell 4 78,Go.ResultVar.tmp 5],rs:=[Ty.pair e8 (Ty.pair (Ty.d0 true Ty.str) Ty.unit),Ty.int IntKind.i64],ps:=[PK.v P7,PK.v e8],y9:=[],nt:=38 }
theorem RF:w5 HR:=x6 p9 ⟨KS,Si,trivial⟩
theorem Rs:B0 HR Tryz.f86:=⟨rfl,rfl⟩
theorem XO (aO:Int) (ab:List yY) (x1:Int):exec HR 1000 [.code (d8 Tryz.prog 86)] (s7 HB.ps (((aO,ab,()),x1,()))) =
  .f7 (True) (cond (decide (H8 (aO,ab,())≠(0:Int))) (.ret ((((0:Int),[],()),H8 (aO,ab,()),()))) (.f7 (r7 IntKind.i64 (aO+(↑(List.length ab):Int))) (cond (decide (aO+(↑(List.length ab):Int)<x1)) (.ret ((((0:Int),[],()),(1:Int),()))) (.f7 (r7 IntKind.i64 (x1 - aO)) (.f7 (r7 IntKind.i64 (aO+if x1 - aO<(0:Int) then (0:Int) else x1 - aO)) (.f7 (((0:Int)<=if x1 - aO<(0:Int) then (0:Int) else x1 - aO)/\(if x1 - aO<(0:Int) then (0:Int) else x1 - aO)<=(↑(List.length ab):Int)/\(↑(List.length ab):Int)<=(↑(List.length ab):Int)) (.f7 (List.length (n9 (if x1 - aO<(0:Int) then (0:Int) else x1 - aO) (↑(List.length ab):Int) ab)<=1048576) (.ret (((aO+if x1 - aO<(0:Int) then (0:Int) else x1 - aO,n9 (if x1 - aO<(0:Int) then (0:Int) else x1 - aO) (↑(List.length ab):Int) ab,()),(0:Int),())))))))))):=by kernel_rfl
theorem b4t:HB.Valid Tryz.prog 86:=by
  refine o7.n8 RF rfl rfl Tryz.func86 (c:=d8 Tryz.prog 86) rfl rfl Rs rfl ?_;rintro ⟨⟨(b:Int),(l:List yY),⟨⟩⟩,(x:Int),⟨⟩⟩ (h0:0<=x) -
  refine j8 (n:=1000) RF Rs ?_;refine i7 (XO b l x) ?_;have key:∀ {y:vy×Int×Unit},Q8 (b,l,()) x=y->y=Q8 (b,l,()) x:=λ h=>h.symm;have hd:Q8 (b,l,()) x=if H8 (b,l,())≠0 then (f00,H8 (b,l,()),()) else if b+l.length<x then (f00,1,()) else ((b+ahd b x,l.drop (ahd b x).toNat,()),0,()):=rfl
  have ha:(if x - b<0 then 0 else x - b)=ahd b x:=rfl;have tg:0<=ahd b x/\(x<=b+l.length->ahd b x<=l.length)/\(ahd b x=0\/ahd b x=x - b):=by rw [ahd]; split<;>omega
  have jv:0<=ahd b x->n9 (ahd b x) (l.length:Int) l=l.drop (ahd b x).toNat:=λ h=>by
    rw [n9,List.take_of_length_le (by rw [List.length_drop]; omega)]
  rw [ha];generalize ahd b x=n at *
  rw [jv tg.1];simp only [j6,Tree.holds,sL];refine ⟨λ a=>key (by rw [hd,if_pos a]<;>rfl),λ a=>?_⟩;have aM:=Z7 (Decidable.not_not.1 a);simp only at aM;rw [if_neg a] at hd;refine ⟨by omega,λ _=>⟨λ c=>key (by rw [hd,if_pos c]<;>rfl),λ c=>?_⟩⟩;rw [if_neg c] at hd;refine ⟨by omega,λ _=>⟨by omega,λ _=>⟨by omega,λ _=>⟨?_,λ _=>key (by rw [hd]<;>rfl)⟩⟩⟩⟩;rw [List.length_drop]; omega
def xn (b most:Int) (l:List yY):Nat->List u5
  | 0=>[]
  | i+1=>xn b most l i++(if (i:Int)<most then [(b+i,l.getD i [],())] else [])
theorem KL {b most:Int} {l:List yY}:∀ {i:Nat},(xn b most l i).length<=i
  | 0=>Nat.le_refl _
  | i+1=>by
    have:=KL (b:=b) (most:=most) (l:=l) (i:=i);rw [xn,List.length_append]
    split<;>simp<;>omega
def wk (s:vy) (most:Int):List u5×Int×Unit:=if H8 s≠0 then ([],H8 s,()) else (xn s.1 most s.2.1 s.2.1.length,0,())
def HC:o7:={ ps:=[.v P7,.v e8],rs:=[.d0 true r8,e8],pre:=λ _=>True,fn:=λ x=>wk x.1 x.2.1,out:=λ _=>() }
noncomputable def DP:Env:={ P:=Tryz.prog,tt:=tt,C5:=[(58,Bd)],res:=[Go.ResultVar.tmp 4,Go.ResultVar.tmp 5],rs:=[Ty.d0 true r8,Ty.int IntKind.i64],ps:=[PK.v P7,PK.v e8],y9:=[(6,[(1,none),(2,none),(7,some (Ty.d0 true r8)),(16,none),(17,none),(18,none)])],nt:=37 }
theorem Kb:w5 DP:=x6 p9 ⟨KS,trivial⟩
theorem Kd:B0 DP Tryz.f54:=⟨rfl,rfl⟩
theorem XP (aO:Int) (ab:List yY) (x1:Int):exec DP 1000 [.code (d8 Tryz.prog 54)] (s7 HC.ps (((aO,ab,()),x1,()))) =
  .f7 (True) (cond (decide (H8 (aO,ab,())≠(0:Int))) (.ret (([],H8 (aO,ab,()),()))) (.ctL (g8 (d8 Tryz.prog 54) 6) (St.mk [(1,AV.val e8 x1),(2,AV.ptr 2 []),(7,AV.at_ 1000007 []),(16,AV.val (Ty.d0 false Ty.str) ab),(17,AV.val e8 (↑(List.length ab):Int)),(18,AV.val e8 (0:Int))] [(2,g9.var P7 (aO,ab,())),(1000007,g9.own (Ty.d0 true r8) [])]))):=by kernel_rfl
def RG (v1:Int) (wP:List yY) (uZ:Int) (uG:Int) (dO:Int) (cL:List yY) (bg:List (Int×yY×Unit)):St:=St.mk [(1,AV.val e8 v1),(2,AV.ptr 2 []),(7,AV.at_ 1000007 []),(16,AV.val (Ty.d0 false Ty.str) wP),(17,AV.val e8 uZ),(18,AV.val e8 uG)] [(2,g9.var P7 (dO,cL,())),(1000007,g9.own (Ty.d0 true r8) bg)]
theorem Zv (v1:Int) (wP:List yY) (uZ:Int) (uG:Int) (dO:Int) (cL:List yY) (bg:List (Int×yY×Unit)):exec DP 1000 (.code (g8 (d8 Tryz.prog 54) 6).1::.inLoop (g8 (d8 Tryz.prog 54) 6).1::(g8 (d8 Tryz.prog 54) 6).2) (RG v1 wP uZ uG dO cL bg) =
  cond (decide (uG<uZ)) (.f7 ((0:Int)<=uG/\uG<(↑(List.length wP):Int)) (cond (decide (uG<v1)) (.f7 (r7 IntKind.i64 (dO+uG)) (.f7 (List.length bg+List.length (List.set [((0:Int),[],())] (Int.toNat (↑0:Int)) (dO+uG,List.getD wP (Int.toNat uG) [],()))<=140737488355328/\(List.length bg+List.length (List.set [((0:Int),[],())] (Int.toNat (↑0:Int)) (dO+uG,List.getD wP (Int.toNat uG) [],())))*Ty.wb r8<=140737488355328) (.f7 (r7 IntKind.i64 (uG+(1:Int))) (.ctL (g8 (d8 Tryz.prog 54) 6) (St.mk [(1,AV.val e8 v1),(2,AV.ptr 2 []),(7,AV.at_ 1000007 []),(16,AV.val (Ty.d0 false Ty.str) wP),(17,AV.val e8 uZ),(18,AV.val e8 (uG+(1:Int)))] [(2,g9.var P7 (dO,cL,())),(1000007,g9.own (Ty.d0 true r8) (bg++List.set [((0:Int),[],())] (Int.toNat (↑0:Int)) (dO+uG,List.getD wP (Int.toNat uG) [],())))]))))) (.f7 (r7 IntKind.i64 (uG+(1:Int))) (.ctL (g8 (d8 Tryz.prog 54) 6) (St.mk [(1,AV.val e8 v1),(2,AV.ptr 2 []),(7,AV.at_ 1000007 []),(16,AV.val (Ty.d0 false Ty.str) wP),(17,AV.val e8 uZ),(18,AV.val e8 (uG+(1:Int)))] [(2,g9.var P7 (dO,cL,())),(1000007,g9.own (Ty.d0 true r8) bg)]))))) (.ret ((bg,(0:Int),()))):=by kernel_rfl
theorem b4s:HC.Valid Tryz.prog 54:=by
  refine o7.n8 Kb rfl rfl Tryz.func54 (c:=d8 Tryz.prog 54) rfl rfl Kd rfl ?_;rintro ⟨⟨(b:Int),(l:List yY),⟨⟩⟩,(m:Int),⟨⟩⟩ - -
  refine j8 (n:=1000) Kb Kd ?_;refine i7 (XP b l m) ?_;have key:∀ {y:List u5×Int×Unit},wk (b,l,()) m=y->y=wk (b,l,()) m:=λ h=>h.symm;have hd:wk (b,l,()) m=if H8 (b,l,())≠0 then ([],H8 (b,l,()),()) else (xn b m l l.length,0,()):=rfl
  have hw:Ty.wb r8=24:=rfl;simp only [j6,Tree.holds,sL];refine ⟨λ a=>key (by rw [hd,if_pos a]<;>rfl),λ a=>?_⟩;have aM:=Z7 (Decidable.not_not.1 a);simp only at aM;rw [if_neg a] at hd;refine Reach.M0 Kb Kd (λ i:Nat=>RG m l (l.length:Int) (i:Int) b l (xn b m l i)) (λ i=>i<=l.length) (λ i=>l.length - i) 1000 (λ _=>⟨s6 rfl,s6 rfl⟩) ?_ 0 (by omega);rintro i k1 - ih;have k1:i<=l.length:=k1;refine i7 (Zv ..) ?_;have lr:=KL (b:=b) (most:=m) (l:=l) (i:=i);simp only [j6,Tree.holds,hw,sL];refine ⟨λ c=>⟨by omega,λ _=>?_⟩,λ c=>key (by rw [hd,show i=l.length by omega]<;>rfl)⟩;have next:=ih (i+1) (by show i+1<=l.length; omega) (by omega)
  rw [xn] at next
  refine ⟨λ d=>⟨by omega,λ _=>⟨⟨by omega,by omega⟩,λ _=>⟨by omega,λ _=>?_⟩⟩⟩,λ d=>⟨by omega,λ _=>?_⟩⟩
  . rw [if_pos d] at next; exact next
  . rw [if_neg d,List.append_nil] at next; exact next
def p00:u5:=(0,[],())
def t00:ToD:=(0,[],())
def zg (r:Int) (l:List u5):Nat->Int
  | 0=>r
  | i+1=>(l.getD i p00).1
def xg (r:Int) (l:List u5) (i:Nat):Int:=if (l.getD i p00).1<=zg r l i then 4 else if r+16<=(l.getD i p00).1 then 4 else if E2 (l.getD i p00).2.1=true then 4 else 0
def toE (s:ToD):Int:=if Y1 s.1 0 16777215=false then 1 else if (16:Int)<s.2.1.length then 2 else R9 (xg s.1 s.2.1) s.2.1.length
def Fi:o7:={ ps:=[.v ToT],rs:=[e8],pre:=λ _=>True,fn:=λ x=>(toE x.1,()),out:=λ _=>() }
noncomputable def Ct:Env:={ P:=Tryz.prog,tt:=tt,C5:=[(75,Ar),(59,zD)],res:=[Go.ResultVar.tmp 2],rs:=[Ty.int IntKind.i64],ps:=[PK.v ToT],y9:=[(7,[(1,none),(3,none),(19,none),(20,none),(21,none)])],nt:=45 }
theorem HU:w5 Ct:=x6 p9 ⟨Ki,EK,trivial⟩
theorem HZ:B0 Ct Tryz.f96:=⟨rfl,rfl⟩
theorem Uv (aO:Int) (ab:List (Int×yY×Unit)):exec Ct 1000 [.code (d8 Tryz.prog 96)] (s7 Fi.ps (((aO,ab,()),()))) =
  .f7 (True) (cond (!Y1 aO (0:Int) (16777215:Int)) (.ret (((1:Int),()))) (cond (decide ((16:Int)<(↑(List.length ab):Int))) (.ret (((2:Int),()))) (.ctL (g8 (d8 Tryz.prog 96) 7) (St.mk [(1,AV.ptr 1 []),(3,AV.val e8 aO),(19,AV.val L9 ab),(20,AV.val e8 (↑(List.length ab):Int)),(21,AV.val e8 (0:Int))] [(1,g9.var ToT (aO,ab,()))])))):=by kernel_rfl
def Np (v3:Int) (uC:List (Int×yY×Unit)) (v20:Int) (v21:Int) (eD:Int) (cV:List (Int×yY×Unit)):St:=St.mk [(1,AV.ptr 1 []),(3,AV.val e8 v3),(19,AV.val L9 uC),(20,AV.val e8 v20),(21,AV.val e8 v21)] [(1,g9.var ToT (eD,cV,()))]
theorem VO (v3:Int) (uC:List (Int×yY×Unit)) (v20:Int) (v21:Int) (eD:Int) (cV:List (Int×yY×Unit)):exec Ct 1000 (.code (g8 (d8 Tryz.prog 96) 7).1::.inLoop (g8 (d8 Tryz.prog 96) 7).1::(g8 (d8 Tryz.prog 96) 7).2) (Np v3 uC v20 v21 eD cV) =
  cond (decide (v21<v20)) (.f7 ((0:Int)<=v21/\v21<(↑(List.length uC):Int)) (cond (decide (Prod.fst (List.getD uC (Int.toNat v21) ((0:Int),[],()))<=v3)) (.ret (((4:Int),()))) (.f7 (r7 IntKind.i64 (eD+(16:Int))) (cond (decide (eD+(16:Int)<=Prod.fst (List.getD uC (Int.toNat v21) ((0:Int),[],())))) (.ret (((4:Int),()))) (.f7 (True) (cond (E2 (Prod.fst (Prod.snd (List.getD uC (Int.toNat v21) ((0:Int),[],()))))) (.ret (((4:Int),()))) (.f7 (r7 IntKind.i64 (v21+(1:Int))) (.ctL (g8 (d8 Tryz.prog 96) 7) (St.mk [(1,AV.ptr 1 []),(3,AV.val e8 (Prod.fst (List.getD uC (Int.toNat v21) ((0:Int),[],())))),(19,AV.val L9 uC),(20,AV.val e8 v20),(21,AV.val e8 (v21+(1:Int)))] [(1,g9.var ToT (eD,cV,()))]))))))))) (.ret (((0:Int),()))):=by kernel_rfl
theorem c02:Fi.Valid Tryz.prog 96:=by
  refine o7.n8 HU rfl rfl Tryz.func96 (c:=d8 Tryz.prog 96) rfl rfl HZ rfl ?_;rintro ⟨⟨(r:Int),(l:List u5),⟨⟩⟩,⟨⟩⟩ - -
  refine j8 (n:=1000) HU HZ ?_;refine i7 (Uv r l) ?_;have key:∀ {x:Int},toE (r,l,())=x->((x,()):Int×Unit)=(toE (r,l,()),()):=by rintro x rfl; rfl
  have hd:toE (r,l,())=if Y1 r 0 16777215=false then 1 else if (16:Int)<l.length then 2 else R9 (xg r l) l.length:=rfl
  simp only [j6,Tree.holds,sL];refine ⟨λ a=>key (by rw [hd,if_pos a]),λ a=>?_⟩;have hr:=wv.1 a;rw [if_neg (lnf a)] at hd;refine ⟨λ a=>key (by rw [hd,if_pos a]),λ a=>?_⟩;rw [if_neg a] at hd;refine Reach.M0 HU HZ (λ i:Nat=>Np (zg r l i) l (l.length:Int) (i:Int) r l) (λ i=>i<=l.length/\R9 (xg r l) i=0) (λ i=>l.length - i) 1000 (λ _=>⟨s6 rfl,s6 rfl⟩) ?_ 0 ⟨by omega,rfl⟩;rintro i ⟨k1,k2⟩ - ih;have k1:i<=l.length:=k1;refine i7 (VO ..) ?_;simp only [j6,Tree.holds,sL];have hE:xg r l i=if (l.getD i (0,[],())).1<=zg r l i then 4 else if r+16<=(l.getD i (0,[],())).1 then 4 else if E2 (l.getD i (0,[],())).2.1=true then 4 else 0:=rfl
  have hB:zg r l (i+1)=(l.getD i (0,[],())).1:=rfl;have stop:xg r l i=4->i<l.length->toE (r,l,())=4:=λ h9 hi=>by rw [hd,SB k2 (by rw [h9]; decide) hi,h9]
  have next:=λ(h:xg r l i=0) (hi:i<l.length)=>ih (i+1) ⟨by omega,SA k2 h⟩ (by omega)
  rw [hB] at next
  generalize l.getD i (0,[],())=w at *
  obtain ⟨q,x,u⟩:=w;simp only at hE next ⊢
  refine ⟨λ c=>⟨by omega,λ _=>⟨λ c1=>key (stop (by rw [hE,if_pos c1]) (by omega)),λ c1=>⟨by omega,λ _=>⟨λ c2=>key (stop (by rw [hE,if_neg c1,if_pos c2]) (by omega)),λ c2=>⟨λ c3=>key (stop (by rw [hE,if_neg c1,if_neg c2,if_pos c3]) (by omega)),λ c3=>⟨by omega,λ _=>next (by rw [hE,if_neg c1,if_neg c2,if_neg (by rw [c3]; simp)]) (by omega)⟩⟩⟩⟩⟩⟩,λ c=>key (by rw [hd,show l.length=i by omega,k2])⟩
def FA (p:u5) (n:Int):Int:=p.1 - n
def Ge:o7:={ ps:=[.v r8,.v e8],rs:=[e8],pre:=λ x=>(LE.le (α:=Int) (-100000000) x.1.1/\LE.le (α:=Int) x.1.1 100000000)/\(LE.le (α:=Int) (-100000000) x.2.1/\LE.le (α:=Int) x.2.1 100000000),fn:=λ x=>(FA x.1 x.2.1,()),out:=λ _=>() }
noncomputable def FJ:Env:={ P:=Tryz.prog,tt:=tt,C5:=[],res:=[Go.ResultVar.tmp 4],rs:=[Ty.int IntKind.i64],ps:=[PK.v r8,PK.v e8],y9:=[],nt:=9 }
theorem Pf:w5 FJ:=x6 p9 trivial
theorem OX:B0 FJ Tryz.f99:=⟨rfl,rfl⟩
theorem VE (aO:Int) (ab:yY) (x1:Int):exec FJ 1000 [.code (d8 Tryz.prog 99)] (s7 Ge.ps (((aO,ab,()),x1,()))) =
  .f7 (r7 IntKind.i64 (aO - x1)) (.ret ((aO - x1,()))):=by kernel_rfl
theorem b8g:Ge.Valid Tryz.prog 99:=by
  refine o7.n8 Pf rfl rfl Tryz.func99 (c:=d8 Tryz.prog 99) rfl rfl OX rfl ?_;rintro ⟨⟨(q:Int),(s:yY),⟨⟩⟩,(n:Int),⟨⟩⟩ ⟨⟨(h1:-100000000<=q),(h2:q<=100000000)⟩,(h3:-100000000<=n),(h4:n<=100000000)⟩ -
  refine j8 (n:=1000) Pf OX ?_;refine i7 (VE q s n) ?_;simp only [j6,Tree.holds,sL];exact ⟨by omega,λ _=>rfl⟩
def atF (n:Int) (l:List u5):Nat:=(l.takeWhile λ p=>decide (p.1<n)).length
theorem Mx {n:Int}:∀ {l:List u5} {i:Nat},i<=l.length->(∀ k,k<i->(l.getD k p00).1<n)->(i<l.length->n<=(l.getD i p00).1)->atF n l=i
  | [],i,hi,_,_=>by simp at hi; subst hi; rfl
  | p::l,0,_,_,h=>by
    have:=h (by simp);rw [atF,List.takeWhile_cons,if_neg]
    . rfl
    . rw [decide_eq_true_eq]; show ¬ p.1<n; exact Int.not_lt.2 this
  | p::l,i+1,hi,h1,h2=>by
    have h0:p.1<n:=h1 0 (by omega);have:=Mx (l:=l) (i:=i) (by simpa using hi) (λ k hk=>h1 (k+1) (by omega)) (λ hk=>h2 (by simpa using hk));rw [atF,List.takeWhile_cons,if_pos (decide_eq_true h0),List.length_cons];rw [atF] at this; omega
def sorted (l:List u5):Prop:=(∀ i j,i<j->j<l.length->(l.getD i p00).1<(l.getD j p00).1)/\(∀ i,i<l.length->-100000000<=(l.getD i p00).1/\(l.getD i p00).1<=100000000)
def Y7 (n:Int) (l:List u5):Bool:=decide (atF n l<l.length) && decide ((l.getD (atF n l) p00).1 - n=0)
def Fc:o7:={ ps:=[.v (.d0 false r8),.v e8,.C3 99 []],rs:=[e8,.bool],pre:=λ x=>(List.length (α:=u5) x.1<=1000/\sorted x.1)/\(LE.le (α:=Int) (-100000000) x.2.1/\LE.le (α:=Int) x.2.1 100000000),fn:=λ x=>((atF x.2.1 x.1:Int),Y7 x.2.1 x.1,()),out:=λ _=>() }
noncomputable def Cv:Env:={ P:=Tryz.prog,tt:=tt,C5:=[(99,Ge)],res:=[Go.ResultVar.tmp 6,Go.ResultVar.tmp 7],rs:=[Ty.int IntKind.i64,Ty.bool],ps:=[PK.v L9,PK.v e8,PK.C3 99 []],y9:=[(3,[(0,none),(1,none),(2,none),(8,none),(9,none),(10,none)])],nt:=49 }
theorem HP:w5 Cv:=x6 p9 ⟨b8g,trivial⟩
theorem HY:B0 Cv Tryz.f98:=⟨rfl,rfl⟩
theorem UI (x0:List (Int×yY×Unit)) (x1:Int):exec Cv 1000 [.code (d8 Tryz.prog 98)] (s7 Fc.ps ((x0,x1,(),()))) =
  .ctL (g8 (d8 Tryz.prog 98) 3) (St.mk [(0,AV.val L9 x0),(1,AV.val e8 x1),(2,AV.C3 99 AV.nil),(8,AV.val e8 (↑(List.length x0):Int)),(9,AV.val e8 (0:Int)),(10,AV.val e8 (↑(List.length x0):Int))] []):=by kernel_rfl
def NJ (v0:List (Int×yY×Unit)) (v1:Int) (v8:Int) (v9:Int) (v10:Int):St:=St.mk [(0,AV.val L9 v0),(1,AV.val e8 v1),(2,AV.C3 99 AV.nil),(8,AV.val e8 v8),(9,AV.val e8 v9),(10,AV.val e8 v10)] []
theorem Wb (v0:List (Int×yY×Unit)) (v1:Int) (v8:Int) (v9:Int) (v10:Int):exec Cv 1000 (.code (g8 (d8 Tryz.prog 98) 3).1::.inLoop (g8 (d8 Tryz.prog 98) 3).1::(g8 (d8 Tryz.prog 98) 3).2) (NJ v0 v1 v8 v9 v10) =
  cond (decide (v9<v10)) (.f7 (r7 IntKind.i64 (v9+v10)) (.f7 ((0:Int)<=(1:Int)) (.f7 ((0:Int)<=IntKind.wrap IntKind.i64 (IntKind.wrap IntKind.u64 (v9+v10) / (2:Int)^min (Int.toNat (1:Int)) (IntKind.bits IntKind.u64))/\IntKind.wrap IntKind.i64 (IntKind.wrap IntKind.u64 (v9+v10) / (2:Int)^min (Int.toNat (1:Int)) (IntKind.bits IntKind.u64))<(↑(List.length v0):Int)) (.f7 (((-100000000:Int)<=Prod.fst (List.getD v0 (Int.toNat (IntKind.wrap IntKind.i64 (IntKind.wrap IntKind.u64 (v9+v10) / (2:Int)^min (Int.toNat (1:Int)) (IntKind.bits IntKind.u64)))) ((0:Int),[],()))/\Prod.fst (List.getD v0 (Int.toNat (IntKind.wrap IntKind.i64 (IntKind.wrap IntKind.u64 (v9+v10) / (2:Int)^min (Int.toNat (1:Int)) (IntKind.bits IntKind.u64)))) ((0:Int),[],()))<=(100000000:Int))/\(-100000000:Int)<=v1/\v1<=(100000000:Int)) (cond (decide (FA (List.getD v0 (Int.toNat (IntKind.wrap IntKind.i64 (IntKind.wrap IntKind.u64 (v9+v10) / (2:Int)^min (Int.toNat (1:Int)) (IntKind.bits IntKind.u64)))) ((0:Int),[],())) v1<(0:Int))) (.f7 (r7 IntKind.i64 (IntKind.wrap IntKind.i64 (IntKind.wrap IntKind.u64 (v9+v10) / (2:Int)^min (Int.toNat (1:Int)) (IntKind.bits IntKind.u64))+(1:Int))) (.ctL (g8 (d8 Tryz.prog 98) 3) (St.mk [(0,AV.val L9 v0),(1,AV.val e8 v1),(2,AV.C3 99 AV.nil),(8,AV.val e8 v8),(9,AV.val e8 (IntKind.wrap IntKind.i64 (IntKind.wrap IntKind.u64 (v9+v10) / (2:Int)^min (Int.toNat (1:Int)) (IntKind.bits IntKind.u64))+(1:Int))),(10,AV.val e8 v10)] []))) (.ctL (g8 (d8 Tryz.prog 98) 3) (St.mk [(0,AV.val L9 v0),(1,AV.val e8 v1),(2,AV.C3 99 AV.nil),(8,AV.val e8 v8),(9,AV.val e8 v9),(10,AV.val e8 (IntKind.wrap IntKind.i64 (IntKind.wrap IntKind.u64 (v9+v10) / (2:Int)^min (Int.toNat (1:Int)) (IntKind.bits IntKind.u64))))] []))))))) (cond (decide (v9<v8)) (.f7 ((0:Int)<=v9/\v9<(↑(List.length v0):Int)) (.f7 (((-100000000:Int)<=Prod.fst (List.getD v0 (Int.toNat v9) ((0:Int),[],()))/\Prod.fst (List.getD v0 (Int.toNat v9) ((0:Int),[],()))<=(100000000:Int))/\(-100000000:Int)<=v1/\v1<=(100000000:Int)) (.ret ((v9,decide (FA (List.getD v0 (Int.toNat v9) ((0:Int),[],())) v1=(0:Int)),()))))) (.ret ((v9,false,())))):=by kernel_rfl
theorem c1B:Fc.Valid Tryz.prog 98:=by
  refine o7.n8 HP rfl rfl Tryz.func98 (c:=d8 Tryz.prog 98) rfl rfl HY rfl ?_;rintro ⟨(l:List u5),(n:Int),⟨⟩,⟨⟩⟩ ⟨⟨(h0:l.length<=1000),(hs:sorted l)⟩,(h1:-100000000<=n),(h2:n<=100000000)⟩ -
  refine j8 (n:=1000) HP HY ?_;refine i7 (UI l n) ?_;refine Reach.M0 HP HY (λ s:Nat×Nat=>NJ l n (l.length:Int) (s.1:Int) (s.2:Int)) (λ s=>s.1<=s.2/\s.2<=l.length/\(∀ k,k<s.1->(l.getD k p00).1<n)/\(∀ k,s.2<=k->k<l.length->n<=(l.getD k p00).1)) (λ s=>s.2 - s.1) 1000 (λ _=>⟨s6 rfl,s6 rfl⟩) ?_ (0,l.length) ⟨Nat.zero_le _,Nat.le_refl _,λ k hk=>by omega,λ k hk eS=>by omega⟩;rintro ⟨i,j⟩ ⟨k1,k2,k3,k4⟩ - ih;have k1:i<=j:=k1;have k2:j<=l.length:=k2;have k3:∀ k,k<i->(l.getD k p00).1<n:=k3;have k4:∀ k,j<=k->k<l.length->n<=(l.getD k p00).1:=k4;refine i7 (Wb ..) ?_;have hh:IntKind.wrap .i64 (IntKind.wrap .u64 ((i:Int)+(j:Int)) / 2^min (Int.toNat 1) (IntKind.bits .u64))=(((i+j) / 2:Nat):Int):=by
    rw [S8 (k:=.u64) (by show (0:Int)<=_/\_<=(18446744073709551615:Int); omega)];rw [show (2:Int)^min (Int.toNat 1) (IntKind.bits .u64)=2 from rfl];rw [S8 (k:=.i64) (by show (-9223372036854775808:Int)<=_/\_<=(9223372036854775807:Int); omega)];omega
  rw [show ((i,j):Nat×Nat).1=i from rfl,show ((i,j):Nat×Nat).2=j from rfl,hh];simp only [j6,Tree.holds,sL];refine ⟨λ c=>⟨by omega,λ _=>⟨by omega,λ _=>?_⟩⟩,λ c=>?_⟩
  . have hm:(i+j) / 2<l.length:=by omega
    have ly:=hs.2 _ hm;have e0:l.getD ((i+j) / 2) (0,[],())=l.getD ((i+j) / 2) p00:=rfl;rw [e0];refine ⟨⟨by omega,by omega⟩,λ _=>⟨⟨ly,h1,h2⟩,λ _=>⟨λ d=>⟨by omega,λ _=>?_⟩,λ d=>?_⟩⟩⟩
    . have d:(l.getD ((i+j) / 2) p00).1 - n<0:=d;exact ih ((i+j) / 2+1,j) ⟨by show (i+j) / 2+1<=j; omega,k2,λ k hk=>(by
        have hk:k<(i+j) / 2+1:=hk;by_cases e:k=(i+j) / 2
        . subst e; omega
        . have:=hs.1 k ((i+j) / 2) (by omega) hm; omega),k4⟩ (by show j - ((i+j) / 2+1)<j - i; omega)
    . have d:¬ (l.getD ((i+j) / 2) p00).1 - n<0:=d;exact ih (i,(i+j) / 2) ⟨by show i<=(i+j) / 2; omega,by show (i+j) / 2<=l.length; omega,k3,λ k hk eS=>(by
        have hk:(i+j) / 2<=k:=hk;by_cases e:k=(i+j) / 2
        . subst e; omega
        . have:=hs.1 ((i+j) / 2) k (by omega) eS; omega)⟩ (by show (i+j) / 2 - i<j - i; omega)
  . have e:j=i:=by omega
    subst e;have jz:atF n l=j:=Mx k2 k3 (λ h=>k4 j (Nat.le_refl _) h);have key:∀ {x:Bool},Y7 n l=x->(((j:Int),x,()):Int×Bool×Unit)=((atF n l:Int),Y7 n l,()):=by rintro x rfl; rw [jz]
    have hk:Y7 n l=(decide (j<l.length) && decide ((l.getD j p00).1 - n=0)):=by rw [Y7,jz]
    refine ⟨λ d=>⟨by omega,λ _=>⟨⟨hs.2 j (by omega),h1,h2⟩,λ _=>key ?_⟩⟩,λ d=>key ?_⟩
    . rw [hk,decide_eq_true (show j<l.length by omega),Bool.true_and]; rfl
    . rw [hk,decide_eq_false (show ¬ j<l.length by omega)]; rfl
theorem PB {a b:u5}:Y2 r8 a b=true↔a=b:=by
  obtain ⟨a1,a2,a3⟩:=a;obtain ⟨b1,b2,b3⟩:=b;show (decide (a1=b1) && (decide ((a2:yY)=b2) && decide ((a3:Unit)=b3)))=true↔_;rw [Bool.and_eq_true,Bool.and_eq_true,decide_eq_true_eq,decide_eq_true_eq];constructor
  . rintro ⟨rfl,rfl,_⟩; rfl
  . intro h; cases h; exact ⟨rfl,rfl,by simp⟩
theorem Za {a b:u5} (d:Y2 r8 a b=false):¬ a=b:=λ h=>by rw [PB.2 h] at d; cases d
end Go.Proofs.YtijlnmgondibnaaGreatDoor
namespace Go.Proofs.YtijlnmgondibnaaGreatDoor
open Go.Ex
def E0:List u5->Int->Int×List u5×List yY
  | [],n=>(n,[],[])
  | p::l,n=>if p.1=n then ((E0 l (n+1)).1,(E0 l (n+1)).2.1,p.2.1::(E0 l (n+1)).2.2) else (n,p::l,[])
def xB (b:Int):List u5->Prop
  | []=>True
  | p::l=>b<p.1/\xB p.1 l
theorem IB {b:Int}:∀ {l:List u5} {p:u5},xB b l->p∈l->b<p.1
  | q::l,p,⟨h1,h2⟩,hp=>by
    rcases List.mem_cons.1 hp with rfl|hp
    . exact h1
    . have:=IB h2 hp; omega
theorem Oc:∀ {l:List u5} {n:Int},xB (n - 1) l->xB (E0 l n).1 (E0 l n).2.1/\(E0 l n).1=n+(E0 l n).2.2.length/\(E0 l n).2.1.length+(E0 l n).2.2.length=l.length/\(∀ p∈(E0 l n).2.1,p∈l)
  | [],n,_=>⟨trivial,by simp [E0],by simp [E0],by simp [E0]⟩
  | p::l,n,⟨h1,h2⟩=>by
    rw [E0];by_cases e:p.1=n
    . rw [if_pos e];obtain ⟨a1,a2,a3,a4⟩:=Oc (l:=l) (n:=n+1) (by rw [show n+1 - 1=p.1 by omega]; exact h2);refine ⟨a1,?_,?_,λ q hq=>List.mem_cons_of_mem _ (a4 q hq)⟩
      . show (E0 l (n+1)).1=n+((p.2.1::(E0 l (n+1)).2.2).length:Int);rw [List.length_cons]; omega
      . show (E0 l (n+1)).2.1.length+(p.2.1::(E0 l (n+1)).2.2).length=(p::l).length;rw [List.length_cons,List.length_cons]; omega
    . rw [if_neg e];exact ⟨⟨by show n<p.1; omega,h2⟩,by simp,by simp,λ q hq=>hq⟩
theorem Px {c:Int}:∀ {l:List u5} {b:Int},xB b l->(∀ p∈l,p.1<c)->l≠[]->(l.length:Int)+b<c
  | [p],b,⟨h1,_⟩,h,_=>by have:=h p List.mem_cons_self; show ((1:Nat):Int)+b<c; omega
  | p::x::l,b,⟨h1,h2⟩,h,_=>by
    have:=Px (l:=x::l) h2 (λ y hy=>h y (List.mem_cons_of_mem _ hy)) (by simp);rw [List.length_cons]; omega
def a49 (p:u5) (l:List u5):List u5:=l.take (atF p.1 l)++p::l.drop (atF p.1 l)
theorem Xd {p y:u5} {l:List u5}:y∈a49 p l↔y=p\/y∈l:=by
  have h:y∈l↔y∈l.take (atF p.1 l)\/y∈l.drop (atF p.1 l):=by rw [<- List.mem_append,List.take_append_drop]
  rw [a49,List.mem_append,List.mem_cons,h];constructor
  . rintro (a|a|a)
    . exact .inr (.inl a)
    . exact .inl a
    . exact .inr (.inr a)
  . rintro (a|a|a)
    . exact .inr (.inl a)
    . exact .inl a
    . exact .inr (.inr a)
theorem Xc {p:u5} {l:List u5}:(a49 p l).length=l.length+1:=by
  rw [a49,List.length_append,List.length_cons,List.length_take,List.length_drop]; omega
theorem BP:∀ {l:List u5} {b:Int},xB b l↔∀ i,i<l.length->zg b l i<(l.getD i p00).1
  | [],b=>⟨λ _ i hi=>absurd hi (Nat.not_lt_zero _),λ _=>trivial⟩
  | p::l,b=>by
    constructor
    . rintro ⟨h1,h2⟩ i hi
      match i,hi with
      | 0,_=>exact h1
      | 1,hi=>exact (BP.1 h2) 0 (by simpa using hi)
      | i+2,hi=>exact (BP.1 h2) (i+1) (by rw [List.length_cons] at hi; omega)
    . intro h;refine ⟨h 0 (by simp),BP.2 λ i hi=>?_⟩
      match i,hi with
      | 0,hi=>exact h 1 (by simpa using hi)
      | i+1,hi=>exact h (i+2) (by rw [List.length_cons]; omega)
structure Al (r:Int) (l:List u5):Prop where
  rg:0<=r/\r<=16777215
  len:l.length<=16
  up:xB r l
  b:∀ p∈l,p.1<r+16/\E2 p.2.1=false
theorem Ir {r:Int} {l:List u5} {u:Unit}:toE (r,l,u)=0↔Al r l:=by
  have hd:toE (r,l,u)=if Y1 r 0 16777215=false then 1 else if (16:Int)<l.length then 2 else R9 (xg r l) l.length:=rfl
  rw [hd];constructor
  . intro h;split at h
    . cases h
    rename_i c1;split at h
    . cases h
    rename_i c2;have h:=EP.1 h;have hE:∀ i,i<l.length->zg r l i<(l.getD i p00).1/\(l.getD i p00).1<r+16/\E2 (l.getD i p00).2.1=false:=λ i hi=>by
      have:=h i hi;unfold xg at this;split at this
      . cases this
      split at this
      . cases this
      split at this
      . cases this
      rename_i d1 d2 d3;exact ⟨by omega,by omega,by simpa using d3⟩
    refine ⟨wv.1 (Bool.not_eq_false _▸c1),by omega,BP.2 λ i hi=>(hE i hi).1,λ p hp=>?_⟩;obtain ⟨i,hi,rfl⟩:=List.getElem_of_mem hp;have:=hE i hi;rw [List.getD_eq_getElem?_getD,List.getElem?_eq_getElem hi] at this;exact this.2
  . intro h;rw [if_neg (by rw [wv.2 h.rg]; simp),if_neg (by have:=h.len; omega)];refine EP.2 λ i hi=>?_;have h1:=BP.1 h.up i hi;obtain ⟨h2,h3⟩:=h.b (l.getD i p00) (DU hi);rw [xg,if_neg (by omega),if_neg (by omega),if_neg (by rw [h3]; simp)]
theorem b7L {l:List u5}:∀ {b:Int},xB b l->∀ i j,i<j->j<l.length->(l.getD i p00).1<(l.getD j p00).1:=by
  induction l with
  | nil=>intro b _ i j _ h; exact absurd h (Nat.not_lt_zero _)
  | cons p l ih =>
    rintro b ⟨h1,h2⟩ i j bO hj
    match i,j,bO,hj with
    | 0,j+1,_,hj=>exact IB h2 (DU (by simpa using hj))
    | i+1,j+1,bO,hj=>exact ih h2 i j (by omega) (by simpa using hj)
end Go.Proofs.YtijlnmgondibnaaGreatDoor
namespace Go.Proofs.YtijlnmgondibnaaGreatDoor
open Go.Ex
def D6 (s:ToD) (p:u5):ToD×List yY×Int×Unit :=
  if toE s≠0 then (t00,[],toE s,()) else if Y1 p.1 0 16777214=false then (t00,[],1,()) else if E2 p.2.1=true then (t00,[],2,()) else
  if p.1<s.1\/s.1+16<=p.1\/Y7 p.1 s.2.1=true then (s,[],0,()) else if s.1<p.1 then ((s.1,a49 p s.2.1,()),[],0,()) else
  (((E0 s.2.1 (s.1+1)).1,(E0 s.2.1 (s.1+1)).2.1,()),p.2.1::(E0 s.2.1 (s.1+1)).2.2,0,())
theorem XZ {r:Int} {l:List u5} {p:u5} (h:Al r l) (h1:0<=p.1/\p.1<=16777214) (h2:E2 p.2.1=false):D6 (r,l,()) p =
    if p.1<r\/r+16<=p.1\/Y7 p.1 l=true then ((r,l,()),[],0,()) else if r<p.1 then ((r,a49 p l,()),[],0,()) else
    (((E0 l (r+1)).1,(E0 l (r+1)).2.1,()),p.2.1::(E0 l (r+1)).2.2,0,()):=by
  rw [D6,if_neg (by simp [Ir.2 h]),if_neg (by rw [wv.2 h1]; simp),if_neg (by rw [h2]; simp)]
theorem YG {s:ToD} {p:u5} (h:(D6 s p).2.2.1≠0):(D6 s p).2.1=[]:=by
  by_cases c1:toE s≠0
  . rw [D6,if_pos c1]
  by_cases c2:Y1 p.1 0 16777214=false
  . rw [D6,if_neg c1,if_pos c2]
  by_cases c3:E2 p.2.1=true
  . rw [D6,if_neg c1,if_neg c2,if_pos c3]
  by_cases c4:p.1<s.1\/s.1+16<=p.1\/Y7 p.1 s.2.1=true
  . rw [D6,if_neg c1,if_neg c2,if_neg c3,if_pos c4]
  by_cases c5:s.1<p.1
  . rw [D6,if_neg c1,if_neg c2,if_neg c3,if_neg c4,if_pos c5]
  . rw [D6,if_neg c1,if_neg c2,if_neg c3,if_neg c4,if_neg c5] at h; exact absurd rfl h
end Go.Proofs.YtijlnmgondibnaaGreatDoor
set_option linter.unusedVariables false
set_option linter.unusedSimpArgs false
namespace Go.Proofs.YtijlnmgondibnaaGreatDoor
open Go Go.Shelf Go.RowKit Go.Lib
theorem b4U {P:Program} (w:World) {o:Oper} {a:Act} {K:Act->World->Prop} {Q:Exit->Act->World->Prop} (d s:Operand) (t t':TypeId)
    (ho:o.op=.call { callee:=.builtin .copy,args:=#[d,s],argTypes:=#[t,t'] }) (v u:Value) (hd:a.eval d=v) (hs:a.eval s=u) {v':Value} {w':World}
    (hr:(Builtin.copy_ #[t,t'] o.type #[v,u]).run P w=.ok v' w') (h:K (a.put o.dst v') w'):o.wp P a w K Q:=by
  unfold Oper.wp execOp;simp only [ho,resolve,invoke,builtin,Sem.run_bind,Sem.run_pure,Result.andThen_ok,List.map_toArray,List.map_cons,List.map_nil,hd,hs,hr];exact h
theorem TA {P:Program} (w:World) {ops:Array Oper} {rest:List Oper} {o:Oper} {a:Act} {Q:Exit->Act->World->Prop} (pA:o.guard=none) (d s:Operand) (t t':TypeId)
    (ho:o.op=.call { callee:=.builtin .copy,args:=#[d,s],argTypes:=#[t,t'] }) (v u:Value) (hd:a.eval d=v) (hs:a.eval s=u) {v':Value} {w':World}
    (hr:(Builtin.copy_ #[t,t'] o.type #[v,u]).run P w=.ok v' w') (h:wpList P ops Q rest (a.put o.dst v') w'):wpList P ops Q (o::rest) a w :=
  wpList_plain pA λ _ hK=>b4U w d s t t' ho v u hd hs hr (hK _ _ h)
theorem Tw {P:Program} {ops:Array Oper} {o:Oper} {a:Act} {w:World} {K:Act->World->Prop} {Q:Exit->Act->World->Prop} {E:Prop}
    (hg:o.guard=none) (d x:Operand) (dT sT:TypeId) (cv:o.op=Op.call { callee:=Callee.builtin Builtin.copy,args:=#[d,x],argTypes:=#[dT,sT] })
    (v u:Value) (hd:a.eval d=v) (hx:a.eval x=u) {v':Value} {w':World} (hr:(Builtin.copy_ #[dT,sT] o.type #[v,u]).run P w=.ok v' w') (hK:K (a.put o.dst v') w') :
    if Region.wanted o (yielded ops a.tmps)=true then Oper.wp P o a w K Q else E:=by
  have hw:Region.wanted o (yielded ops a.tmps)=true:=by simp [Region.wanted,hg]
  rw [if_pos hw];unfold Oper.wp;simp [execOp,cv,resolve,invoke,builtin,hd,hx,hr,Result.andThen];exact hK
theorem EX (b:Nat) (vs:List Value) (o:Nat) (w:World) (h:∀ j,j<vs.length->(w.cell? ⟨b,o+j,none⟩).isSome=true) (k:Nat) (hk:(w.cell? ⟨b,k,none⟩).isSome=true):((w.setCells b o vs).cell? ⟨b,k,none⟩).isSome=true:=by
  by_cases cZ:o<=k/\k<o+vs.length
  . have:=World.cell?_setCells_in b vs o w h (k - o) (by omega);rw [show o+(k - o)=k by omega] at this;rw [this]; rfl
  . rw [World.cell?_setCells_out b vs o w ⟨b,k,none⟩ (λ _ _=>by show k<o\/o+vs.length<=k; omega)];exact hk
theorem EI {P:Program} (w:World) (dT sT ty elem:TypeId) (k b o dLen dCap:Nat) (a:Addr) (sLen sCap:Nat) (cs:List Value)
    (hu:P.underlying dT=some (.slice elem)) (hs:(P.info? elem).map (·.size)=some k) (hn:cs.length=Nat.min sLen dLen*k)
    (eF:∀ j v,cs[j]?=some v->w.cell? (a.add j)=some v) (hc:∀ j,j<cs.length->(w.cell? ⟨b,o+j,none⟩).isSome=true) (hf:∀ j,j<cs.length->w.frozen? ⟨b,o+j,none⟩=false) (h1:∀ v∈cs,v.oneCell'=true) :
    (Builtin.copy_ #[dT,sT] ty #[.slice (some ⟨b,o,none⟩) dLen dCap,.slice (some a) sLen sCap]).run P w=.ok (goInt (Nat.min sLen dLen)) (w.setCells b o cs):=by
  have hl:=run_loadCells_list (P:=P) w a cs eF;have bL:=run_storeCells_cells (P:=P) b o cs 0 w (by simpa using hc) (by simpa using hf) h1;cases hq:P.info? elem with
  | none=>simp [hq] at hs
  | some i =>
    have hi:i.size=k:=by simpa [hq] using hs
    rw [hn] at hl;simp [Builtin.copy_,run_underlying hu,Builtin.lenOf,Builtin.firstCells,sizeOf,typeInfo,hq,hi,hl,bL]
set_option maxHeartbeats 4000000 in
set_option maxRecDepth 100000 in
theorem Zg (b off n c i vb voff vc:Nat) (cs vs:List Value) (w:World) (hi:i<n) (cq:n+1<=c) (ta:c<=9223372036854775807) (nA:vb≠b)
    (cD:cs.length=n*2) (ik:vs.length=2)
    (hcs:∀ j v,cs[j]?=some v->w.cell? ⟨b,off+j,none⟩=some v) (fq:∀ j,j<(n+1)*2->(w.cell? ⟨b,off+j,none⟩).isSome=true) (qS:∀ j,j<(n+1)*2->w.frozen? ⟨b,off+j,none⟩=false)
    (iO:∀ j v,vs[j]?=some v->w.cell? ⟨vb,voff+j,none⟩=some v) (lk:∀ v∈cs,v.oneCell'=true) (qs:∀ v∈vs,v.oneCell'=true)
    (tA tB:TypeId) (kA kB:Nat) (rM:w.shape? vb=some (tA,kA)) (rL:w.shape? b=some (tB,kB)) (su:kB≠0) (sQ:w.frozen? ⟨vb,voff,none⟩=false) (pC:w.frozen? ⟨vb,kA,none⟩=false) :
    Calls Tryz.prog 100 #[.slice (some ⟨b,off,none⟩) n c,.int .i64 i,.slice (some ⟨vb,voff,none⟩) 1 vc] w λ e w' =>
      e=.returned (.slice (some ⟨b,off,none⟩) (n+1) c)/\w'=(w.drew.setCells b (off+(i+1)*2) (cs.drop (i*2))).setCells b (off+i*2) vs:=by
  have oe:¬ ((i:Int)=(n:Int)):=by omega
  have aW:(Tryz.prog.info? 104).map (·.size)=some 2:=by kernel_rfl
  have nF:∀ lb cb,(callFunc 111 #[.slice (some ⟨vb,voff,none⟩) 1 vc,.slice (some ⟨b,off+(i+1)*2,none⟩) lb cb]).run Tryz.prog w=.ok (.value (.bool false)) w:=λ lb cb=>by
    rw [run_callFunc_extern Tryz.func111 (by kernel_rfl) (by kernel_rfl) (by kernel_rfl) (e:=Extern.SlicesOverlaps.overlaps #[81,81] #[4]) (by kernel_rfl),
      Lib.run_overlaps_apart w 81 4 104 Tryz.underlying81 2 Tryz.sizeOf104 ⟨vb,voff,none⟩ ⟨b,off+(i+1)*2,none⟩ 1 vc lb cb nA tA tB kA kB rM rL su sQ pC]
    rfl
  have ib:(cs.drop (i*2)).length=(n - i)*2:=by rw [List.length_drop,cD]; omega
  have jF:IntKind.i64.wrap ((i:Int)+(1:Int))=(i:Int)+(1:Int):=by rw [IntKind.wrap_i64]; omega
  have dC:(0:Int)<=(i:Int)+(1:Int):=by omega
  have cZ:i<=n:=by omega
  have qB:((i:Int)+(1:Int)).toNat=i+1:=by omega
  have fo:¬ (c=i+1):=by omega
  have pX:(i:Int)<=(n:Int)+(1:Int):=by omega
  have uv:¬ (c=i):=by omega
  have mS:∀ ty dc sc,(Builtin.copy_ #[81,81] ty #[.slice (some ⟨b,off+(i+1)*2,none⟩) (n - i) dc,.slice (some ⟨b,off+i*2,none⟩) (n+1 - i) sc]).run Tryz.prog w.drew=.ok (goInt (Nat.min (n+1 - i) (n - i))) (w.drew.setCells b (off+(i+1)*2) (cs.drop (i*2))):=λ ty dc sc =>
    EI w.drew _ _ ty 104 2 b (off+(i+1)*2) (n - i) dc ⟨b,off+i*2,none⟩ (n+1 - i) sc (cs.drop (i*2)) Tryz.underlying81 aW (by rw [ib]; simp only [Nat.min_def]; split<;>omega)
      (λ j v hj=>by rw [Addr.add_lit,Nat.add_assoc]; exact hcs (i*2+j) v (by rwa [List.getElem?_drop] at hj))
      (λ j hj=>by rw [Nat.add_assoc]; exact fq _ (by omega)) (λ j hj=>by rw [Nat.add_assoc]; exact qS _ (by omega)) (λ v hv=>lk v (List.mem_of_mem_drop hv))
  obtain ⟨W1,gg⟩:∃ W1,W1=w.drew.setCells b (off+(i+1)*2) (cs.drop (i*2)):=⟨_,rfl⟩;have oB:∀ k,k<(n+1)*2->(W1.cell? ⟨b,off+k,none⟩).isSome=true:=λ k hk=>by
    rw [gg];exact EX b _ _ _ (λ j hj=>by rw [Nat.add_assoc]; exact fq _ (by omega)) _ (fq k hk)
  have pK:∀ (W:World),(∀ x,W.cell? x=W1.cell? x)->(∀ x,W.frozen? x=W1.frozen? x)->∀ ty dc,(Builtin.copy_ #[81,81] ty #[.slice (some ⟨b,off+i*2,none⟩) (n+1 - i) dc,.slice (some ⟨vb,voff,none⟩) 1 vc]).run Tryz.prog W=.ok (goInt (Nat.min 1 (n+1 - i))) (W.setCells b (off+i*2) vs):=λ W kg nb ty dc =>
    EI W _ _ ty 104 2 b (off+i*2) (n+1 - i) dc ⟨vb,voff,none⟩ 1 vc vs Tryz.underlying81 aW (by rw [ik]; simp only [Nat.min_def]; split<;>omega)
      (λ j v hj=>by
        rw [Addr.add_lit,kg,gg,World.cell?_setCells_out b _ _ _ _ (λ h _=>absurd h nA)];exact iO j v hj)
      (λ j hj=>by rw [kg,Nat.add_assoc]; exact oB _ (by omega)) (λ j hj=>by rw [nb,gg,World.frozen?_setCells,Nat.add_assoc]; exact qS _ (by omega)) qs
  rw [<- gg] at mS;have mixed:Tryz.prog.follows .mixedOrders=true:=by kernel_rfl
  go_enter Tryz.func100,Tryz.ntmps100
  go_wp2_with (simp only [nF])
  go_region_law_o (refine Tw rfl _ _ 81 81 rfl _ _ (by simp [Act.eval,Act.put]) (by simp [Act.eval,Act.put]) (mS _ _ _) ?_)
  go_wp2_with (at_builtin; refine TA _ rfl _ _ 81 81 rfl _ _ rfl rfl (pK _ (λ _=>rfl) (λ _=>rfl) _ _) ?_)
  go_ret
  first|exact ⟨rfl,rfl⟩|exact ⟨rfl,by rw [gg]⟩
end Go.Proofs.YtijlnmgondibnaaGreatDoor
namespace Go.Proofs.YtijlnmgondibnaaGreatDoor
open Go Go.Shelf Go.RowKit Go.Lib
set_option linter.unusedVariables false
set_option linter.unusedSimpArgs false
theorem Rj {z:Array Value} {k m:Nat} (h:z.size=k):(Builtin.zeroCells z m).size=m*k:=by
  simp [Builtin.zeroCells,h]
set_option maxHeartbeats 4000000 in
set_option maxRecDepth 100000 in
theorem Yu (b off n c i vb voff vc:Nat) (cs vs:List Value) (w:World) (hi:i<n) (uk:n<=c) (cq:c<n+1) (pV:(n+1)*24<=140737488355328)
    (cD:cs.length=n*2) (ik:vs.length=2)
    (hcs:∀ j v,cs[j]?=some v->w.cell? ⟨b,off+j,none⟩=some v)
    (iO:∀ j v,vs[j]?=some v->w.cell? ⟨vb,voff+j,none⟩=some v) (lk:∀ v∈cs,v.oneCell'=true) (qs:∀ v∈vs,v.oneCell'=true) :
    Calls Tryz.prog 100 #[.slice (some ⟨b,off,none⟩) n c,.int .i64 i,.slice (some ⟨vb,voff,none⟩) 1 vc] w λ e w' =>
      ∃ G Z,n+1<=G/\G<=maxLen/\Z.size=(G - i)*2/\e=.returned (.slice (some ⟨w.heap.size,0,none⟩) (n+1) G) /\
      w'=(((w.alloc (.cells ((cs.take (i*2)).toArray++Z) 104)).drew.setCells w.heap.size (i*2) vs).drew).setCells w.heap.size ((i+1)*2) (cs.drop (i*2)):=by
  have aW:(Tryz.prog.info? 104).map (·.size)=some 2:=by kernel_rfl
  have eN:(Tryz.prog.info? 104).map (λ i=>(i.size,i.bytes,i.zero.map (λ z=>z.cells.size)))=some (2,24,some 2):=by kernel_rfl
  have mixed:Tryz.prog.follows .mixedOrders=true:=by kernel_rfl
  obtain ⟨i0,mK,nq,oc,z,nr,kj⟩:∃ i0,Tryz.prog.info? 104=some i0/\i0.size=2/\i0.bytes=24/\∃ z,i0.zero=some z/\z.cells.size=2:=by
    cases h:Tryz.prog.info? 104 with
    | none=>rw [h] at eN; cases eN
    | some i0 =>
      rw [h] at eN;simp only [Option.map_some,Option.some.injEq,Prod.mk.injEq,Option.map_eq_some_iff] at eN;obtain ⟨h1,h2,z,h3,h4⟩:=eN;exact ⟨i0,rfl,h1,h2,z,h3,h4⟩
  have oe:¬ ((i:Int)=(n:Int)):=by omega
  have ui:(c:Int)<(n:Int)+(1:Int):=by omega
  have tc:b<w.heap.size:=block_lt_of_cell (hcs 0 _ (List.getElem?_eq_getElem (by omega)));have dU:vb<w.heap.size:=block_lt_of_cell (iO 0 _ (List.getElem?_eq_getElem (by omega)));have qN:(n:Int)+(1:Int) - (i:Int)=((n+1 - i:Nat):Int):=by omega
  have mI:i+(n+1 - i)=n+1:=by omega
  have jd:(cs.take (i*2)).length=i*2:=by rw [List.length_take,cD]; omega
  have hold:(Builtin.firstCells i0.size i (.slice (some ⟨b,off,none⟩) i c)).run Tryz.prog w.drew=.ok (cs.take (i*2)).toArray w.drew:=by
    rw [nq];exact run_firstCells_some w.drew 2 i ⟨b,off,none⟩ i c (cs.take (i*2)) jd (λ j v hj=>by
      rw [Addr.add_lit];rw [List.getElem?_take] at hj;split at hj
      . exact hcs j v hj
      . cases hj)
  obtain ⟨G,hG⟩:∃ G,G=grownCap w (n+1) c 104:=⟨_,rfl⟩;have tJ:n+1<=G:=by rw [hG]; exact grownCap_ge w _ _ _
  have nX:G<=maxLen:=by
    rw [hG]; exact grownCap_le_maxLen w (n+1) c 104 (by unfold maxLen; omega)
  have tL:G<=9223372036854775807:=nX;obtain ⟨Z,hZ⟩:∃ Z:Array Value,Z=Builtin.zeroCells z.cells (n+1 - i)++Builtin.zeroCells z.cells (G - (n+1)):=⟨_,rfl⟩;have qa:Z.size=(G - i)*2:=by rw [hZ,Array.size_append,Rj kj,Rj kj]; omega
  have oD:∀ ty,(Builtin.append_ #[81,3] ty #[.slice (some ⟨b,off,none⟩) i c,.int .i64 ((n:Int)+(1:Int) - (i:Int))]).run Tryz.prog w =
      .ok (.slice (some ⟨w.heap.size,0,none⟩) (n+1) G) (w.drew.alloc (.cells ((cs.take (i*2)).toArray++Z) 104)):=λ ty=>by
    have h:=Lib.run_append_grow_zeros w 81 3 ty 104 i0 z .i64 .i64 Tryz.underlying81 Tryz.underlying3 mK nr (some ⟨b,off,none⟩) i c (cs.take (i*2)) hold (n+1 - i) (by omega) (by omega) (by omega) (by omega) (by rw [oc]; omega) (by rw [oc,mI]; exact growslice_fits cq pV);rw [mI,<- hG,Array.append_assoc,<- hZ] at h;rw [qN];exact h
  obtain ⟨ROW,jB⟩:∃ ROW:Array Value,ROW=(cs.take (i*2)).toArray++Z:=⟨_,rfl⟩;rw [<- jB] at oD;have qg:(n+1)*2<=ROW.size:=by
    rw [jB,Array.size_append,qa,List.size_toArray,jd];omega
  obtain ⟨W1,gg⟩:∃ W1,W1=w.drew.alloc (.cells ROW 104):=⟨_,rfl⟩;rw [<- gg] at oD;have hN:∀ j,j<(n+1)*2->(W1.cell? ⟨w.heap.size,j,none⟩).isSome=true:=λ j hj=>by
    rw [gg,World.cell?_alloc_at (w:=w.drew) ROW _ w.heap.size j rfl,Array.getElem?_eq_getElem (by omega)]; rfl
  have rf:∀ j,W1.frozen? ⟨w.heap.size,j,none⟩=false:=λ j=>by rw [gg]; exact World.frozen?_alloc_at (w:=w.drew) ROW _ w.heap.size j rfl
  have nS:∀ j v,w.cell? ⟨b,j,none⟩=some v->W1.cell? ⟨b,j,none⟩=some v:=λ j v h=>by rw [gg,World.cell?_alloc_past (w:=w.drew) _ b j tc]; exact h
  have tw:∀ j v,w.cell? ⟨vb,j,none⟩=some v->W1.cell? ⟨vb,j,none⟩=some v:=λ j v h=>by rw [gg,World.cell?_alloc_past (w:=w.drew) _ vb j dU]; exact h
  have pJ:∀ (W:World),(∀ x,W.cell? x=W1.cell? x)->(∀ x,W.frozen? x=W1.frozen? x)->∀ ty dc,(Builtin.copy_ #[81,81] ty #[.slice (some ⟨w.heap.size,i*2,none⟩) (n+1 - i) dc,.slice (some ⟨vb,voff,none⟩) 1 vc]).run Tryz.prog W=.ok (goInt (Nat.min 1 (n+1 - i))) (W.setCells w.heap.size (i*2) vs):=λ W kg nb ty dc =>
    EI W _ _ ty 104 2 w.heap.size (i*2) (n+1 - i) dc ⟨vb,voff,none⟩ 1 vc vs Tryz.underlying81 aW (by rw [ik]; simp only [Nat.min_def]; split<;>omega)
      (λ j v hj=>by rw [Addr.add_lit,kg]; exact tw _ v (iO j v hj))
      (λ j hj=>by rw [kg]; exact hN _ (by omega)) (λ j hj=>by rw [nb]; exact rf _) qs
  have uw:¬ (G=i):=by omega
  have tK:¬ (G=i+1):=by omega
  have jZ:¬ (c=i):=by omega
  have te:b≠w.heap.size:=by omega
  have ib:(cs.drop (i*2)).length=(n - i)*2:=by rw [List.length_drop,cD]; omega
  have pI:∀ (W:World),(∀ x,W.cell? x=(W1.setCells w.heap.size (i*2) vs).cell? x)->(∀ x,W.frozen? x=(W1.setCells w.heap.size (i*2) vs).frozen? x)->∀ ty dc sc,(Builtin.copy_ #[81,81] ty #[.slice (some ⟨w.heap.size,(i+1)*2,none⟩) (n - i) dc,.slice (some ⟨b,off+i*2,none⟩) (n - i) sc]).run Tryz.prog W=.ok (goInt (Nat.min (n - i) (n - i))) (W.setCells w.heap.size ((i+1)*2) (cs.drop (i*2))):=λ W kg nb ty dc sc =>
    EI W _ _ ty 104 2 w.heap.size ((i+1)*2) (n - i) dc ⟨b,off+i*2,none⟩ (n - i) sc (cs.drop (i*2)) Tryz.underlying81 aW (by rw [ib]; simp only [Nat.min_def]; split<;>omega)
      (λ j v hj=>by
        rw [Addr.add_lit,kg,World.cell?_setCells_out _ _ _ _ _ (λ h _=>absurd h te),Nat.add_assoc];exact nS _ v (hcs (i*2+j) v (by rwa [List.getElem?_drop] at hj)))
      (λ j hj=>by rw [kg]; exact EX _ _ _ _ (λ t ht=>hN _ (by omega)) _ (hN _ (by omega)))
      (λ j hj=>by rw [nb,World.frozen?_setCells]; exact rf _) (λ v hv=>lk v (List.mem_of_mem_drop hv))
  subst gg;have tN:∀ x,((w.alloc (.cells ROW 104)).drew).cell? x=(w.drew.alloc (.cells ROW 104)).cell? x:=λ x=>rfl;have tM:∀ x,((w.alloc (.cells ROW 104)).drew).frozen? x=(w.drew.alloc (.cells ROW 104)).frozen? x:=λ x=>rfl;have nm:∀ x,(((w.alloc (.cells ROW 104)).drew.setCells w.heap.size (i*2) vs).drew).cell? x=((w.drew.alloc (.cells ROW 104)).setCells w.heap.size (i*2) vs).cell? x:=λ x=>rfl;have nj:∀ x,(((w.alloc (.cells ROW 104)).drew.setCells w.heap.size (i*2) vs).drew).frozen? x=((w.drew.alloc (.cells ROW 104)).setCells w.heap.size (i*2) vs).frozen? x:=λ x=>rfl;have jF:IntKind.i64.wrap ((i:Int)+(1:Int))=(i:Int)+(1:Int):=by rw [IntKind.wrap_i64]; omega
  have dC:(0:Int)<=(i:Int)+(1:Int):=by omega
  have cZ:i<=n:=by omega
  have qB:((i:Int)+(1:Int)).toNat=i+1:=by omega
  have pX:(i:Int)<=(n:Int):=by omega
  suffices eK:Calls Tryz.prog 100 #[.slice (some ⟨b,off,none⟩) n c,.int .i64 i,.slice (some ⟨vb,voff,none⟩) 1 vc] w λ e w'=>e=.returned (.slice (some ⟨w.heap.size,0,none⟩) (n+1) G) /\
      w'=(((w.alloc (.cells ROW 104)).drew.setCells w.heap.size (i*2) vs).drew).setCells w.heap.size ((i+1)*2) (cs.drop (i*2)) by
    refine eK.mono ?_;rintro e w' ⟨rfl,rfl⟩;exact ⟨G,Z,tJ,nX,qa,rfl,by rw [<- jB]⟩
  clear qN mI hold qg eN aW mK nr nq oc kj hG hZ jB qa
  go_enter Tryz.func100,Tryz.ntmps100
  go_wp2_with (first
    | (at_builtin; refine Lib.wpList_append_run _ rfl _ _ _ _ rfl _ _ rfl rfl _ _ (oD _) ?_)
    | (at_builtin; refine TA _ rfl _ _ 81 81 rfl _ _ rfl rfl (pJ _ tN tM _ _) ?_))
  go_region_law_o (refine Tw rfl _ _ 81 81 rfl (.slice (some ⟨w.heap.size,(i+1)*2,none⟩) (n - i) (G - (i+1))) (.slice (some ⟨b,off+i*2,none⟩) (n - i) (c - i)) (by simp [Act.eval,Act.put]) (by simp [Act.eval,Act.put]) (pI _ nm nj 3 (G - (i+1)) (c - i)) ?_)
  go_wp2
  go_ret
  exact ⟨rfl,rfl⟩
end Go.Proofs.YtijlnmgondibnaaGreatDoor
namespace Go.Proofs.YtijlnmgondibnaaGreatDoor
open Go.Ex
set_option maxRecDepth 100000
abbrev D4:=Int×yY×Unit
def yo (l:List D4) (i:Int) (m:List D4):List D4:=l.take i.toNat++m++l.drop i.toNat
theorem Cn (b:Nat):∀ (vs:List Value) (o:Nat) (w:World),(w.setCells b o vs).heap.size=w.heap.size/\(w.setCells b o vs).os=w.os/\(w.setCells b o vs).output=w.output/\(w.setCells b o vs).tape=w.tape/\(w.setCells b o vs).drawn=w.drawn /\
    (∀ c,c≠b->(w.setCells b o vs).heap[c]?=w.heap[c]?)/\∀ arr T fz,w.heap[b]?=some (.cells arr T fz)->∃ cX,(w.setCells b o vs).heap[b]?=some (.cells cX T fz)/\cX.size=arr.size
  | [],_,_=>⟨rfl,rfl,rfl,rfl,rfl,λ _ _=>rfl,λ arr _ _ h=>⟨arr,h,rfl⟩⟩
  | v::r,o,w=>by
    obtain ⟨h1,h2,h3,h4,h5,h6,h7⟩:=Cn b r (o+1) (w.setCell ⟨b,o,none⟩ v);have e1:(w.setCell ⟨b,o,none⟩ v).heap.size=w.heap.size:=by simp [World.setCell]
    have e2:∀ c,c≠b->(w.setCell ⟨b,o,none⟩ v).heap[c]?=w.heap[c]?:=λ c hc=>by
      simp only [World.setCell,Array.getElem?_modify,if_neg (Ne.symm hc)]
    refine ⟨h1.trans e1,h2,h3,h4,h5,λ c hc=>(h6 c hc).trans (e2 c hc),λ arr T fz h=>?_⟩;have:(w.setCell ⟨b,o,none⟩ v).heap[b]?=some (.cells (arr.setIfInBounds o v) T fz):=by
      simp [World.setCell,Array.getElem?_modify,h]
    obtain ⟨cX,g1,g2⟩:=h7 _ T fz this;exact ⟨cX,g1,by rw [g2,Array.size_setIfInBounds]⟩
theorem RB {w:World} {b off:Nat} {arr:Array Value} {T:TypeId} {fz:Nat×Nat} (h:w.heap[b]?=some (.cells arr T fz)) {F:List Value} {n:Nat} (hn:F.length=n) (hc:∀ j,j<n->w.cell? ⟨b,off+j,none⟩=F[j]?):d9 w.heap b off n=F:=by
  have bJ:∀ k,w.cell? ⟨b,k,none⟩=arr[k]?:=λ k=>by simp [World.cell?,h]
  simp only [d9,w4,h];apply List.ext_getElem?;intro j;rw [List.getElem?_take,List.getElem?_drop];by_cases hj:j<n
  . rw [if_pos hj,<- hc j hj,bJ,Array.getElem?_toList]
  . rw [if_neg hj,List.getElem?_eq_none (by omega)]
theorem RA {α:Type} (A B C:List α) (j:Nat):(A++B++C)[j]?=if j<A.length then A[j]? else if j<A.length+B.length then B[j - A.length]? else C[j - (A.length+B.length)]?:=by
  rw [List.getElem?_append,List.getElem?_append,List.length_append]
  split<;>split<;>first|rfl|omega|(split<;>first|rfl|omega)
theorem Oa {w:World} {S:Nat->Prop} {t:Ty} (ht:t.shared=true) {L:List Nat} {cs:List Value} {l:List t.den} (h:i6 w.heap S (.d0 true t) L cs l) (hl:0<l.length) :
    ∃ b off cap,L=[b]/\cs=[.slice (some ⟨b,off,none⟩) l.length cap]/\l.length<=cap/\zw true cap/\j5 (i6 w.heap S t) t.size [] (d9 w.heap b off (l.length*t.size)) l/\U0 t.isB w.heap b (off+cap*t.size):=by
  rcases h with ⟨_,_,rfl⟩|⟨b,off,cap,O',h1,h2,h3,h4,h5,h6,h7⟩
  . simp at hl
  have hO:O'=[]:=j5.N1 (λ _ _ _ hr=>i6.N1 ht hr) h5;subst hO;exact ⟨b,off,cap,h6,h1,h2,h3,h5,h7⟩
def zy:o7:={ ps:=[.own (.d0 true r8),.v e8,.own (.d0 true r8)],rs:=[.d0 true r8],pre:=λ x=>(LE.le (α:=Int) 0 x.2.1/\LT.lt (α:=Int) x.2.1 (List.length (α:=D4) x.1))/\List.length (α:=D4) x.1<=1000/\List.length (α:=D4) x.2.2.1=1,fn:=λ x=>(yo x.1 x.2.1 x.2.2.1,()),out:=λ _=>() }
theorem Ob {w w':World} {L:List Nat} (h1:w'.os=w.os) (h2:w'.tape=w.tape) (h3:w.drawn<=w'.drawn) (h4:w'.output=w.output) (h5:w.heap.size<=w'.heap.size) (h6:∀ c,c<w.heap.size->c∉L->w'.heap[c]?=w.heap[c]?):D3 L w w':=⟨h1,⟨h2,h3⟩,h4,h5,h6⟩
theorem a87:zy.Valid Tryz.prog 100:=by
  refine ⟨⟨_,Tryz.func100,by kernel_rfl,by kernel_rfl⟩,?_,λ h=>by cases h⟩;rintro w S vs ⟨(l:List D4),(i0:Int),(m:List D4),⟨⟩⟩ L hS - ⟨⟨(p0:0<=i0),(p1:i0<(l.length:Int))⟩,(p2:l.length<=1000),(p3:m.length=1)⟩ nH - aJ hL;obtain ⟨v1,us,L1,L2,rfl,rfl,⟨cs1,rfl,r1⟩,v2,us,L3,L4,rfl,rfl,⟨rfl,cs2,rfl,r2⟩,v3,us,L5,L6,rfl,rfl,⟨cs3,rfl,r3⟩,rfl,rfl⟩:=nH;obtain ⟨i,rfl⟩:∃ i:Nat,i0=i:=⟨i0.toNat,by omega⟩;have r1:i6 w.heap S (.d0 true r8) L1 cs1 l:=r1;have r3:i6 w.heap S (.d0 true r8) L5 cs3 m:=r3;obtain ⟨b,off,cap,rfl,rfl,c2,c3,c4,c5⟩:=Oa rfl r1 (by omega);obtain ⟨vb,voff,vc,rfl,rfl,d2,d3,d4,d5⟩:=Oa rfl r3 (by omega);obtain ⟨-,rfl,-⟩:=r2;have aW:Ty.size r8=2:=rfl;have c4:j5 (i6 w.heap S r8) 2 [] (d9 w.heap b off (l.length*2)) l:=c4;have c5:U0 false w.heap b (off+cap*2):=c5;have d5:U0 false w.heap vb (voff+vc*2):=d5;have d4:j5 (i6 w.heap S r8) 2 [] (d9 w.heap vb voff (1*2)) m:=by rw [<- p3]; exact d4
  have nA:vb≠b:=by
    rintro rfl;simp at aJ
  have nO:=hL b (by simp);have kn:=hL vb (by simp);obtain ⟨arr,T,⟨fz,e1,ef⟩,en⟩:=c5;obtain rfl:fz=(0,0):=ef.elim id (λ h=>by cases h.1);obtain ⟨varr,vT,⟨vfz,g1,gf⟩,gn⟩:=d5;obtain rfl:vfz=(0,0):=gf.elim id (λ h=>by cases h.1);rw [p3];have cM:cap<=maxLen:=c3.1;have cD:(d9 w.heap b off (l.length*2)).length=l.length*2:=j5.length (λ _ _ _ h=>h.length) c4;have ik:(d9 w.heap vb voff (1*2)).length=2:=by have:=j5.length (λ _ _ _ h=>h.length) d4; rw [p3] at this; exact this
  have bW:=j5.plain (λ _ _ _ hr=>hr.plain) c4;have qF:=j5.plain (λ _ _ _ hr=>hr.plain) d4;have bJ:∀ k,w.cell? ⟨b,k,none⟩=arr[k]?:=λ k=>by simp [World.cell?,e1]
  have kP:∀ k,w.frozen? ⟨b,k,none⟩=false:=λ k=>by simp [World.frozen?,e1]
  have mL:∀ k,w.frozen? ⟨vb,k,none⟩=false:=λ k=>by simp [World.frozen?,g1]
  have hcs:∀ j v,(d9 w.heap b off (l.length*2))[j]?=some v->w.cell? ⟨b,off+j,none⟩=some v:=λ j v h=>M4 h;have iO:∀ j v,(d9 w.heap vb voff (1*2))[j]?=some v->w.cell? ⟨vb,voff+j,none⟩=some v:=λ j v h=>M4 h;have ju:zy.fn (l,(i:Int),m,())=(l.take i++m++l.drop i,()):=rfl;have jV:i<l.length:=by omega
  obtain ⟨q1,q2⟩:j5 (i6 w.heap S r8) 2 [] ((d9 w.heap b off (l.length*2)).take (i*2)) (l.take i)/\j5 (i6 w.heap S r8) 2 [] ((d9 w.heap b off (l.length*2)).drop (i*2)) (l.drop i):=by
    obtain ⟨P1,P2,P3,e,k1,k2,k3⟩:=j5.split (d:=((0:Int),([]:yY),())) jV c4;have e:=e.symm;simp only [List.append_eq_nil_iff] at e;obtain ⟨rfl,rfl,rfl⟩:=e;refine ⟨k1,?_⟩;have h9:l.drop i=l.getD i (0,[],())::l.drop (i+1):=by
      rw [List.drop_eq_getElem_cons jV,List.getD_eq_getElem?_getD,List.getElem?_eq_getElem jV]; rfl
    rw [h9];refine ⟨[],[],rfl,k2,?_⟩;rw [List.drop_drop,show i*2+2=(i+1)*2 by omega];exact k3
  have oF:j5 (i6 w.heap S r8) 2 [] ((d9 w.heap b off (l.length*2)).take (i*2)++d9 w.heap vb voff (1*2)++(d9 w.heap b off (l.length*2)).drop (i*2)) (l.take i++m++l.drop i):=by
    have h1:=j5.append (λ _ _ _ h=>h.length) q1 d4;exact j5.append (λ _ _ _ h=>h.length) h1 q2
  have hlen:(l.take i++m++l.drop i).length=l.length+1:=by simp only [List.length_append,List.length_take,List.length_drop]; omega
  have jd:((d9 w.heap b off (l.length*2)).take (i*2)).length=i*2:=by rw [List.length_take,cD]; omega
  have ib:((d9 w.heap b off (l.length*2)).drop (i*2)).length=(l.length - i)*2:=by rw [List.length_drop,cD]; omega
  have fin:∀ {w':World} {c o G:Nat} {cX:Array Value} {T':TypeId},D3 [b,vb] w w'->(c=b\/w.heap.size<=c)->l.length+1<=G->G<=maxLen->w'.heap[c]?=some (.cells cX T' (0,0))->o+G*2<=cX.size ->
      d9 w'.heap c o ((l.length+1)*2)=(d9 w.heap b off (l.length*2)).take (i*2)++d9 w.heap vb voff (1*2)++(d9 w.heap b off (l.length*2)).drop (i*2) ->
      wZ w S zy.rs zy.ps [p7 (.d0 true r8) [.slice (some ⟨b,off,none⟩) l.length cap],p7 e8 [.int .i64 i],p7 (.d0 true r8) [.slice (some ⟨vb,voff,none⟩) 1 vc]] [b,vb] (zy.fn (l,(i:Int),m,())) (zy.out (l,(i:Int),m,())) (.returned (.slice (some ⟨c,o,none⟩) (l.length+1) G)) w':=by
    intro w' c o G cX T' hp hc hG nX ha hs pQ;have bZ:∀ {cs:List Value} {l':List D4},j5 (i6 w.heap S r8) 2 [] cs l'->j5 (i6 w'.heap S r8) 2 [] cs l':=λ hr=>j5.mono (L:=[]) (λ _ h=>h) (λ O cs x hO hr=>hr.s9 (λ d hd=>by
      rcases hd with hd|hd
      . exact absurd (hO d hd) (by simp)
      . refine hp.frame d (hS d hd) (λ hm=>?_);rcases List.mem_cons.1 hm with rfl|hm
        . exact nO.1 hd
        . rw [List.mem_singleton] at hm; subst hm; exact kn.1 hd) (λ _ h=>h)) hr
    refine ⟨[.slice (some ⟨c,o,none⟩) (l.length+1) G],[c],[],S,rfl,hp,λ _ h=>h,λ _ h=>.inl h,⟨_,[],[c],[],[.slice (some ⟨c,o,none⟩) (l.length+1) G],rfl,rfl,rfl,?_,rfl,rfl⟩,⟨_,_,rfl,_,_,rfl,_,_,rfl,rfl,rfl⟩,by simp,?_⟩
    . rw [ju];refine .inr ⟨c,o,G,[],by rw [hlen],by rw [hlen]; exact hG,⟨nX,λ _=>by omega⟩,?_,?_,rfl,cX,T',⟨(0,0),ha,.inl rfl⟩,hs⟩
      . rw [hlen,aW]; simp only [w4,ha,Array.length_toList]; omega
      . rw [hlen,aW,pQ]; exact bZ oF
    . intro d hd;simp only [List.append_nil,List.mem_singleton] at hd;subst hd;refine ⟨λ h=>?_,?_,?_⟩
      . rcases hc with rfl|hc
        . exact nO.1 h
        . have:=hS d h; omega
      . rcases hc with rfl|hc
        . right; simp
        . left; exact hc
      . exact (Array.getElem?_eq_some_iff.1 ha).1
  by_cases cq:l.length+1<=cap
  . have jP:(l.length+1)*2<=cap*2:=Nat.mul_le_mul_right _ cq;refine (Zg b off l.length cap i vb voff vc (d9 w.heap b off (l.length*2)) (d9 w.heap vb voff (1*2)) w jV cq cM nA cD ik hcs
      (λ j hj=>by rw [bJ,Array.getElem?_eq_getElem (by omega)]; rfl) (λ j _=>kP _) iO (λ v hv=>(bW v hv).1) (λ v hv=>(qF v hv).1)
      vT T varr.size arr.size (by simp [World.shape?,g1]) (by simp [World.shape?,e1]) (by omega) (mL _) (mL _)).mono ?_
    rintro e w' ⟨rfl,rfl⟩;obtain ⟨A1,A2,A3,A4,A5,A6,A7⟩:=Cn b ((d9 w.heap b off (l.length*2)).drop (i*2)) (off+(i+1)*2) w.drew;obtain ⟨B1,B2,B3,B4,B5,B6,B7⟩:=Cn b (d9 w.heap vb voff (1*2)) (off+i*2) (w.drew.setCells b (off+(i+1)*2) ((d9 w.heap b off (l.length*2)).drop (i*2)));obtain ⟨arr1,x1,x2⟩:=A7 arr T (0,0) e1;obtain ⟨arr2,y1,y2⟩:=B7 arr1 T (0,0) x1;have cj:∀ k,off+k<off+cap*2->(w.drew.cell? ⟨b,off+k,none⟩).isSome=true:=λ k hk=>by
      show (w.cell? ⟨b,off+k,none⟩).isSome=true;rw [bJ,Array.getElem?_eq_getElem (by omega)]; rfl
    have gj:∀ k,off+k<off+cap*2->((w.drew.setCells b (off+(i+1)*2) ((d9 w.heap b off (l.length*2)).drop (i*2))).cell? ⟨b,off+k,none⟩).isSome=true:=λ k hk =>
      EX b _ _ _ (λ j hj=>by rw [ib] at hj; rw [Nat.add_assoc]; exact cj _ (by omega)) _ (cj k hk)
    refine fin (T':=T) (cX:=arr2) ?_ (.inl rfl) cq cM y1 (by rw [y2,x2]; exact en) ?_
    . refine Ob (B2.trans A2) (B4.trans A4) (by rw [B5,A5]; exact Nat.le_succ _) (B3.trans A3) (by rw [B1,A1]; exact Nat.le_refl _) (λ c hc hn=>?_);have cw:c≠b:=λ e=>hn (by simp [e]);exact (B6 c cw).trans (A6 c cw)
    . refine RB y1 (by rw [List.length_append,List.length_append,jd,ik,ib]; omega) (λ j hj=>?_);rw [RA,jd,ik];by_cases k1:j<i*2
      . rw [if_pos k1,World.cell?_setCells_out b _ _ _ _ (λ _ _=>.inl (by show off+j<_; omega)),World.cell?_setCells_out b _ _ _ _ (λ _ _=>.inl (by show off+j<_; omega)),List.getElem?_take,if_pos k1];have iU:j<(d9 w.heap b off (l.length*2)).length:=by omega
        rw [List.getElem?_eq_getElem iU];exact hcs j _ (List.getElem?_eq_getElem iU)
      . rw [if_neg k1];by_cases k2:j<i*2+2
        . rw [if_pos k2];have:=World.cell?_setCells_in b (d9 w.heap vb voff (1*2)) (off+i*2) (w.drew.setCells b (off+(i+1)*2) ((d9 w.heap b off (l.length*2)).drop (i*2))) (λ j hj=>by rw [Nat.add_assoc]; exact gj _ (by omega)) (j - i*2) (by omega);rw [show off+i*2+(j - i*2)=off+j by omega] at this;rw [this,List.getElem?_eq_getElem]
        . rw [if_neg k2,World.cell?_setCells_out b _ _ _ _ (λ _ _=>.inr (by show _<=off+j; rw [ik]; omega))];have:=World.cell?_setCells_in b ((d9 w.heap b off (l.length*2)).drop (i*2)) (off+(i+1)*2) w.drew (λ j hj=>by rw [ib] at hj; rw [Nat.add_assoc]; exact cj _ (by omega)) (j - (i*2+2)) (by omega);rw [show off+(i+1)*2+(j - (i*2+2))=off+j by omega] at this;rw [this,List.getElem?_eq_getElem]
  . refine (Yu b off l.length cap i vb voff vc (d9 w.heap b off (l.length*2)) (d9 w.heap vb voff (1*2)) w jV c2 (by omega) (by omega) cD ik hcs iO (λ v hv=>(bW v hv).1) (λ v hv=>(qF v hv).1)).mono ?_;rintro e w' ⟨G,Z,z1,z2,z3,rfl,rfl⟩;generalize jI:((d9 w.heap b off (l.length*2)).take (i*2)).toArray++Z=ROW;have tr:ROW.size=G*2:=by rw [<- jI,Array.size_append,List.size_toArray,jd,z3]; omega
    generalize hN:w.heap.size=N;have n1:((w.alloc (.cells ROW 104)).drew).heap[N]?=some (.cells ROW 104 (0,0)):=by
      show (w.heap.push _)[N]?=_;rw [<- hN]; simp
    have n2:∀ c,c<N->((w.alloc (.cells ROW 104)).drew).heap[c]?=w.heap[c]?:=λ c hc=>by
      show (w.heap.push _)[c]?=_;rw [Array.getElem?_push,if_neg (by omega)]
    have n3:((w.alloc (.cells ROW 104)).drew).heap.size=N+1:=by show (w.heap.push _).size=_; rw [Array.size_push,hN]
    obtain ⟨A1,A2,A3,A4,A5,A6,A7⟩:=Cn N (d9 w.heap vb voff (1*2)) (i*2) ((w.alloc (.cells ROW 104)).drew);generalize gg:((w.alloc (.cells ROW 104)).drew).setCells N (i*2) (d9 w.heap vb voff (1*2))=W1 at *
    obtain ⟨B1,B2,B3,B4,B5,B6,B7⟩:=Cn N ((d9 w.heap b off (l.length*2)).drop (i*2)) ((i+1)*2) W1.drew;obtain ⟨arr1,x1,x2⟩:=A7 ROW 104 (0,0) n1;obtain ⟨arr2,y1,y2⟩:=B7 arr1 104 (0,0) x1;have qT:∀ k,((w.alloc (.cells ROW 104)).drew).cell? ⟨N,k,none⟩=ROW[k]?:=λ k=>by simp only [World.cell?,n1]; rfl
    have cj:∀ k,k<G*2->(((w.alloc (.cells ROW 104)).drew).cell? ⟨N,k,none⟩).isSome=true:=λ k hk=>by
      rw [qT,Array.getElem?_eq_getElem (by omega)]; rfl
    have gj:∀ k,k<G*2->(W1.drew.cell? ⟨N,k,none⟩).isSome=true:=λ k hk=>by
      show (W1.cell? ⟨N,k,none⟩).isSome=true;rw [<- gg];exact EX N _ _ _ (λ j hj=>cj _ (by omega)) _ (cj k hk)
    refine fin (c:=N) (o:=0) (G:=G) (T':=104) (cX:=arr2) ?_ (.inr (by omega)) z1 z2 y1 (by rw [y2,x2,tr]; omega) ?_
    . refine Ob (B2.trans A2) (B4.trans A4) (by rw [B5]; show _<=W1.drawn+1; rw [A5]; show w.drawn<=w.drawn+1+1; omega) (B3.trans A3) (by rw [B1]; show _<=W1.heap.size; rw [A1,n3]; omega) (λ c hc hn=>?_);have cw:c≠N:=by omega
      exact (B6 c cw).trans ((A6 c cw).trans (n2 c (by omega)))
    . refine RB y1 (by rw [List.length_append,List.length_append,jd,ik,ib]; omega) (λ j hj=>?_);rw [RA,jd,ik,Nat.zero_add];by_cases k1:j<i*2
      . rw [if_pos k1,World.cell?_setCells_out N _ _ _ _ (λ _ _=>.inl (by show j<_; omega))];show W1.cell? ⟨N,j,none⟩=_;rw [<- gg,World.cell?_setCells_out N _ _ _ _ (λ _ _=>.inl (by show j<_; omega)),qT,<- jI];rw [Array.getElem?_append,if_pos (by rw [List.size_toArray,jd]; exact k1),List.getElem?_toArray]
      . rw [if_neg k1];by_cases k2:j<i*2+2
        . rw [if_pos k2,World.cell?_setCells_out N _ _ _ _ (λ _ _=>.inl (by show j<_; omega))];show W1.cell? ⟨N,j,none⟩=_;have:=World.cell?_setCells_in N (d9 w.heap vb voff (1*2)) (i*2) ((w.alloc (.cells ROW 104)).drew) (λ j hj=>cj _ (by omega)) (j - i*2) (by omega);rw [gg,show i*2+(j - i*2)=j by omega] at this;rw [this,List.getElem?_eq_getElem]
        . rw [if_neg k2];have:=World.cell?_setCells_in N ((d9 w.heap b off (l.length*2)).drop (i*2)) ((i+1)*2) W1.drew (λ j hj=>by rw [ib] at hj; exact gj _ (by omega)) (j - (i*2+2)) (by omega);rw [show (i+1)*2+(j - (i*2+2))=j by omega] at this;rw [this,List.getElem?_eq_getElem]
def LU:o7:={ ps:=[.own (.d0 true r8),.v e8,.own (.d0 true r8)],rs:=[.d0 true r8],pre:=λ x=>x.2.1=(List.length (α:=D4) x.1:Int)/\List.length (α:=D4) x.1<=1000/\List.length (α:=D4) x.2.2.1=1,fn:=λ x=>(yo x.1 x.2.1 x.2.2.1,()),out:=λ _=>() }
noncomputable def FI:Env:={ P:=Tryz.prog,tt:=tt,C5:=[],res:=[Go.ResultVar.tmp 6],rs:=[Ty.d0 true r8],ps:=[PK.own (Ty.d0 true r8),PK.v e8,PK.own (Ty.d0 true r8)],y9:=[],nt:=95 }
theorem Pe:w5 FI:=x6 p9 trivial
theorem OW:B0 FI Tryz.f100:=⟨rfl,rfl⟩
theorem VD (x0:List (Int×yY×Unit)) (x1:Int) (x2:List (Int×yY×Unit)):exec FI 1000 [.code (d8 Tryz.prog 100)] (s7 LU.ps ((x0,x1,x2,()))) =
  .f7 ((0:Int)<=x1/\x1<=(↑(List.length x0):Int)/\(↑(List.length x0):Int)<=(↑(List.length x0):Int)) (cond (decide ((↑(List.length x2):Int)=(0:Int))) (.ret ((x0,()))) (cond (decide (x1=(↑(List.length x0):Int))) (.f7 (List.length x0+List.length x2<=140737488355328/\(List.length x0+List.length x2)*Ty.wb r8<=140737488355328) (.ret ((x0++x2,())))) (.f7 (r7 IntKind.i64 ((↑(List.length x0):Int)+(↑(List.length x2):Int))) (.stuck "cap")))):=by kernel_rfl
theorem b8i:LU.Valid Tryz.prog 100:=by
  refine o7.n8 Pe rfl rfl Tryz.func100 (c:=d8 Tryz.prog 100) rfl rfl OW rfl ?_;rintro ⟨(l:List D4),(i:Int),(m:List D4),⟨⟩⟩ ⟨(p1:i=(l.length:Int)),(p2:l.length<=1000),(p3:m.length=1)⟩ -
  subst p1;refine j8 (n:=1000) Pe OW ?_;refine i7 (VD l (l.length:Int) m) ?_;have TC:Ty.wb r8=24:=rfl;simp only [j6,Tree.holds,TC,sL];refine ⟨by omega,λ _=>⟨λ h=>absurd h (by omega),λ _=>⟨⟨⟨by omega,by omega⟩,λ _=>?_⟩,λ h=>absurd trivial h⟩⟩⟩;show ((l++m,()):List D4×Unit)=(yo l (l.length:Int) m,());unfold yo;rw [Int.toNat_natCast,List.take_length,List.drop_length,List.append_nil]
def Lw:o7:={ ps:=[.own (.d0 true r8),.v e8,.own (.d0 true r8)],rs:=[.d0 true r8],pre:=λ x=>(LE.le (α:=Int) 0 x.2.1/\LE.le (α:=Int) x.2.1 (List.length (α:=D4) x.1))/\List.length (α:=D4) x.1<=1000/\List.length (α:=D4) x.2.2.1=1,fn:=λ x=>(yo x.1 x.2.1 x.2.2.1,()),out:=λ _=>() }
theorem ZZ:Lw.Valid Tryz.prog 100:=by
  refine ⟨a87.ent,?_,λ h=>by cases h⟩;rintro w S vs ⟨(l:List D4),(i:Int),(m:List D4),⟨⟩⟩ L hS dG ⟨⟨(p0:0<=i),(p1:i<=(l.length:Int))⟩,(p2:l.length<=1000),(p3:m.length=1)⟩ nH de aJ hL;by_cases h:i<(l.length:Int)
  . exact a87.run w S vs (l,i,m,()) L hS dG ⟨⟨p0,h⟩,p2,p3⟩ nH de aJ hL
  . exact b8i.run w S vs (l,i,m,()) L hS dG ⟨by show i=(l.length:Int); omega,p2,p3⟩ nH de aJ hL
theorem VV:Ty.wb r8=24:=rfl
def Gj:o7:={ ps:=[.v (.d0 false r8)],rs:=[.d0 true r8],pre:=λ x=>List.length (α:=u5) x.1<=1048576,fn:=λ x=>x,out:=λ _=>() }
noncomputable def FO:Env:={ P:=Tryz.prog,tt:=tt,C5:=[],res:=[Go.ResultVar.tmp 2],rs:=[Ty.d0 true r8],ps:=[PK.v L9],y9:=[],nt:=8 }
theorem Pk:w5 FO:=x6 p9 trivial
theorem Pb:B0 FO Tryz.f97:=⟨rfl,rfl⟩
theorem VK (x0:List (Int×yY×Unit)):exec FO 1000 [.code (d8 Tryz.prog 97)] (s7 Gj.ps ((x0,()))) =
  .both (x0=[]) (.ret (([],()))) (.f7 ((0:Nat)+List.length x0<=140737488355328/\((0:Nat)+List.length x0)*Ty.wb r8<=140737488355328) (.ret (([]++x0,())))):=by kernel_rfl
theorem b79:Gj.Valid Tryz.prog 97:=by
  refine o7.n8 Pk rfl rfl Tryz.func97 (c:=d8 Tryz.prog 97) rfl rfl Pb rfl ?_;rintro ⟨(l:List (u5)),⟨⟩⟩ hp -
  have hp:l.length<=1048576:=hp;refine j8 (n:=1000) Pk Pb ?_;refine i7 (VK l) ?_;simp only [j6,Tree.holds,VV,sL];refine ⟨λ h=>?_,by omega,λ _=>rfl⟩;show (([],()):List (u5)×Unit)=(l,());rw [show l=[] from h]
def Hz:o7:={ ps:=[.v ToT,.v r8],rs:=[ToO,.d0 true .str,e8],pre:=λ _=>True,fn:=λ x=>D6 x.1 x.2.1,out:=λ _=>() }
noncomputable def Dl:Env:={ P:=Tryz.prog,tt:=tt,C5:=[(96,Fi),(75,Ar),(59,zD),(97,Gj),(98,Fc),(100,Lw)],res:=[Go.ResultVar.cell 4 83,Go.ResultVar.tmp 5,Go.ResultVar.tmp 6],rs:=[Ty.pair e8 (Ty.pair (Ty.d0 true r8) Ty.unit),Ty.d0 true Ty.str,Ty.int IntKind.i64],ps:=[PK.v ToT,PK.v r8],y9:=[(17,[(4,none),(8,none),(11,some (Ty.d0 true Ty.str))])],nt:=116 }
theorem JJ:w5 Dl:=x6 p9 ⟨c02,Ki,EK,b79,c1B,ZZ,trivial⟩
theorem a72:B0 Dl Tryz.f83:=⟨rfl,rfl⟩
theorem Xh (aO:Int) (ab:List (Int×yY×Unit)) (bs:Int) (aF:yY):exec Dl 1000 [.code (d8 Tryz.prog 83)] (s7 Hz.ps (((aO,ab,()),(bs,aF,()),()))) =
  .f7 (True) (cond (decide (toE (aO,ab,())≠(0:Int))) (.ret ((((0:Int),[],()),[],toE (aO,ab,()),()))) (.f7 (True) (cond (!Y1 bs (0:Int) (16777214:Int)) (.ret ((((0:Int),[],()),[],(1:Int),()))) (.f7 (True) (cond (E2 aF) (.ret ((((0:Int),[],()),[],(2:Int),()))) (.f7 (List.length ab<=1048576) (.f7 ((List.length ab<=1000/\sorted ab)/\(-100000000:Int)<=bs/\bs<=(100000000:Int)) (cond (decide (bs<aO)) (.ret (((aO,ab,()),[],(0:Int),()))) (.f7 (r7 IntKind.i64 (aO+(16:Int))) (cond (decide (aO+(16:Int)<=bs)) (.ret (((aO,ab,()),[],(0:Int),()))) (cond (Y7 bs ab) (.ret (((aO,ab,()),[],(0:Int),()))) (cond (decide (aO<bs)) (.f7 (((0:Int)<=(↑(atF bs ab):Int)/\(↑(atF bs ab):Int)<=(↑(List.length ab):Int))/\List.length ab<=1000/\List.length (List.set [((0:Int),[],())] (Int.toNat (↑0:Int)) (bs,aF,()))=1) (.ret (((aO,yo ab (↑(atF bs ab):Int) (List.set [((0:Int),[],())] (Int.toNat (↑0:Int)) (bs,aF,())),()),[],(0:Int),())))) (.f7 (r7 IntKind.i64 (aO+(1:Int))) (.ctL (g8 (d8 Tryz.prog 83) 17) (St.mk [(4,AV.ptr 4 []),(8,AV.ptr 8 []),(11,AV.at_ 1000011 [])] [(4,g9.var ToO ((0:Int),[],())),(8,g9.var ToO (aO+(1:Int),ab,())),(1000011,g9.own (Ty.d0 true Ty.str) (List.set [[]] (Int.toNat (↑0:Int)) aF))]))))))))))))))):=by kernel_rfl
def Rn (iZ:Int) (fc:List (Int×yY×Unit)) (fD:Int) (bz:List (Int×yY×Unit)) (bp:List yY):St:=St.mk [(4,AV.ptr 4 []),(8,AV.ptr 8 []),(11,AV.at_ 1000011 [])] [(4,g9.var ToO (iZ,fc,())),(8,g9.var ToO (fD,bz,())),(1000011,g9.own (Ty.d0 true Ty.str) bp)]
theorem Zw (iZ:Int) (fc:List (Int×yY×Unit)) (fD:Int) (bz:List (Int×yY×Unit)) (bp:List yY):exec Dl 1000 (.code (g8 (d8 Tryz.prog 83) 17).1::.inLoop (g8 (d8 Tryz.prog 83) 17).1::(g8 (d8 Tryz.prog 83) 17).2) (Rn iZ fc fD bz bp) =
  cond (decide ((0:Int)<(↑(List.length bz):Int))) (.f7 ((0:Int)<=(0:Int)/\(0:Int)<(↑(List.length bz):Int)) (cond (decide (Prod.fst (List.getD bz (Int.toNat (0:Int)) ((0:Int),[],()))=fD)) (.f7 ((0:Int)<=(0:Int)/\(0:Int)<(↑(List.length bz):Int)) (.f7 (List.length bp+List.length (List.set [[]] (Int.toNat (↑0:Int)) (Prod.fst (Prod.snd (List.getD bz (Int.toNat (0:Int)) ((0:Int),[],())))))<=140737488355328/\(List.length bp+List.length (List.set [[]] (Int.toNat (↑0:Int)) (Prod.fst (Prod.snd (List.getD bz (Int.toNat (0:Int)) ((0:Int),[],()))))))*Ty.wb Ty.str<=140737488355328) (.f7 ((0:Int)<=(1:Int)/\(1:Int)<=(↑(List.length bz):Int)/\(↑(List.length bz):Int)<=(↑(List.length bz):Int)) (.f7 ([]++[Step.l7 1]=[]++[Step.l7 1]/\True) (.f7 (r7 IntKind.i64 (fD+(1:Int))) (.ctL (g8 (d8 Tryz.prog 83) 17) (St.mk [(4,AV.ptr 4 []),(8,AV.ptr 8 []),(11,AV.at_ 1000011 [])] [(4,g9.var ToO (iZ,fc,())),(8,g9.var ToO (fD+(1:Int),n9 (1:Int) (↑(List.length bz):Int) bz,())),(1000011,g9.own (Ty.d0 true Ty.str) (bp++List.set [[]] (Int.toNat (↑0:Int)) (Prod.fst (Prod.snd (List.getD bz (Int.toNat (0:Int)) ((0:Int),[],()))))))]))))))) (.f7 (List.length bz<=1048576) (.ret (((fD,bz,()),bp,(0:Int),())))))) (.f7 (List.length bz<=1048576) (.ret (((fD,bz,()),bp,(0:Int),())))):=by kernel_rfl
theorem UD {n:Int} {l:List u5}:atF n l<=l.length:=by
  rw [atF]; exact (List.takeWhile_sublist _).length_le
theorem Al.sorted {r:Int} {l:List u5} (h:Al r l):sorted l:=⟨b7L h.up,λ i hi=>by
  have h1:=IB h.up (DU (d:=p00) hi);have h2:=(h.b _ (DU (d:=p00) hi)).1;have:=h.rg;omega⟩
theorem b53:Hz.Valid Tryz.prog 83:=by
  refine o7.n8 JJ rfl rfl Tryz.func83 (c:=d8 Tryz.prog 83) rfl rfl a72 rfl ?_;rintro ⟨⟨(r:Int),(l:List u5),⟨⟩⟩,⟨(q:Int),(x:yY),⟨⟩⟩,⟨⟩⟩ - -
  refine j8 (n:=1000) JJ a72 ?_;refine i7 (Xh r l q x) ?_;have key:∀ {y:ToD×List yY×Int×Unit},D6 (r,l,()) (q,x,())=y->y=D6 (r,l,()) (q,x,()):=λ h=>h.symm;have hd:D6 (r,l,()) (q,x,())=if toE (r,l,())≠0 then (t00,[],toE (r,l,()),()) else if Y1 q 0 16777214=false then (t00,[],1,()) else if E2 x=true then (t00,[],2,()) else
    if q<r\/r+16<=q\/Y7 q l=true then ((r,l,()),[],0,()) else if r<q then ((r,a49 (q,x,()) l,()),[],0,()) else
    (((E0 l (r+1)).1,(E0 l (r+1)).2.1,()),x::(E0 l (r+1)).2.2,0,()):=rfl
  have hw:Ty.wb .str=16:=rfl;simp only [j6,Tree.holds,hw,sL];refine ⟨λ a=>key (by rw [hd,if_pos a]<;>rfl),λ a=>?_⟩;have aM:=Ir.1 (Decidable.not_not.1 a);have ly:=aM.rg;have hlen:=aM.len;rw [if_neg a] at hd;refine ⟨λ c=>key (by rw [hd,if_pos c]<;>rfl),λ c=>?_⟩;have hq:=wv.1 c;rw [if_neg (lnf c)] at hd;refine ⟨λ d=>key (by rw [hd,if_pos d]<;>rfl),λ d=>⟨by omega,λ _=>⟨⟨⟨by omega,aM.sorted⟩,by omega,by omega⟩,λ _=>?_⟩⟩⟩;rw [if_neg (by rw [d]; simp)] at hd;refine ⟨λ e=>key (by rw [hd,if_pos (.inl e)]<;>rfl),λ e=>⟨by omega,λ _=>⟨λ f=>key (by rw [hd,if_pos (.inr (.inl f))]<;>rfl),λ f=>⟨λ g=>key (by rw [hd,if_pos (.inr (.inr g))]<;>rfl),λ g=>?_⟩⟩⟩⟩;rw [if_neg (by rintro (h|h|h); exact e h; exact f h; rw [g] at h; cases h)] at hd;have jz:=UD (n:=q) (l:=l);refine ⟨λ k=>⟨⟨⟨by omega,by omega⟩,by omega,trivial⟩,λ _=>key (by rw [hd,if_pos k]; simp [yo,a49]; rfl)⟩,λ k=>⟨by omega,λ _=>?_⟩⟩;rw [if_neg k] at hd;refine Reach.M0 JJ a72 (λ s:Int×List u5×List yY=>Rn 0 [] s.1 s.2.1 s.2.2) (λ s=>((E0 s.2.1 s.1).1=(E0 l (r+1)).1/\(E0 s.2.1 s.1).2.1=(E0 l (r+1)).2.1/\s.2.2++(E0 s.2.1 s.1).2.2=x::(E0 l (r+1)).2.2)/\s.2.1.length<=16/\s.2.2.length+s.2.1.length<=17/\0<=s.1/\s.1+s.2.1.length<=20000000)
    (λ s=>s.2.1.length) 1000 (λ _=>⟨s6 rfl,s6 rfl⟩) ?_ (r+1,l,[x]) ⟨⟨rfl,rfl,rfl⟩,hlen,by show 1+l.length<=17; omega,by show 0<=r+1; omega,by show r+1+(l.length:Int)<=20000000; omega⟩
  rintro ⟨n,m,ts⟩ ⟨⟨k1,k2,k3⟩,k4,k5,k6,k7⟩ - ih;have k1:(E0 m n).1=(E0 l (r+1)).1:=k1;have k2:(E0 m n).2.1=(E0 l (r+1)).2.1:=k2;have k3:ts++(E0 m n).2.2=x::(E0 l (r+1)).2.2:=k3;have k4:m.length<=16:=k4;have k5:ts.length+m.length<=17:=k5;have k6:0<=n:=k6;have k7:n+(m.length:Int)<=20000000:=k7;rw [<- k1,<- k2,<- k3] at hd;refine i7 (Zw ..) ?_;rw [show ((n,m,ts):Int×List u5×List yY).1=n from rfl,show ((n,m,ts):Int×List u5×List yY).2.1=m from rfl,show ((n,m,ts):Int×List u5×List yY).2.2=ts from rfl];cases m with
  | nil =>
    simp only [j6,Tree.holds,hw,sL];refine ⟨λ c2=>absurd c2 (by simp),λ _=>⟨by omega,λ _=>key ?_⟩⟩;rw [hd,E0,List.append_nil]; rfl
  | cons p m =>
    have g0:List.getD (p::m) (Int.toNat 0) (0,[],())=p:=rfl;have jv:n9 1 ((p::m).length:Int) (p::m)=m:=by
      rw [n9,List.take_of_length_le (by simp)]; rfl
    simp only [List.length_cons] at k4 k5 k7;have jh:E0 (p::m) n=if p.1=n then ((E0 m (n+1)).1,(E0 m (n+1)).2.1,p.2.1::(E0 m (n+1)).2.2) else (n,p::m,[]):=rfl
    simp only [j6,Tree.holds,hw,g0,jv,sL];refine ⟨λ c2=>⟨by omega,λ _=>⟨λ c3=>?_,λ c3=>⟨by omega,λ _=>key ?_⟩⟩⟩,λ c2=>absurd (by omega) c2⟩
    . rw [if_pos c3] at jh;rw [jh] at k1 k2 k3;have next:=ih (n+1,m,ts++[p.2.1]) ⟨⟨k1,k2,by rw [List.append_assoc]; exact k3⟩,by show m.length<=16; omega,by show (ts++[p.2.1]).length+m.length<=17; rw [List.length_append,List.length_singleton]; omega,by show 0<=n+1; omega,by show n+1+(m.length:Int)<=20000000; omega⟩ (by show m.length<(p::m).length; simp)
      have mR:n9 1 ((m.length+1:Nat):Int) (p::m)=m:=jv;rw [mR];exact ⟨by omega,λ _=>⟨⟨by omega,by omega⟩,λ _=>⟨by omega,λ _=>⟨by omega,λ _=>next⟩⟩⟩⟩
    . rw [if_neg c3] at jh;rw [hd,jh,List.append_nil]; rfl
attribute [local irreducible] Go.Ex.exec
abbrev FrD:=Int×List yY×Unit
abbrev n7:=Bool×List D4×FrD×ToD×ToD×Unit
abbrev f8:=vr×List n7×List yY×List yY×Unit
def j7:n7:=(false,[],(0,[],()),(0,[],()),(0,[],()),())
def yW:o7:={ ps:=[.v e8,.v e8,.v e8],rs:=[.bool],pre:=λ _=>True,fn:=λ x=>(H5 x.1 x.2.1 x.2.2.1,()),out:=λ _=>() }
noncomputable def Fl:Env:={ P:=Tryz.prog,tt:=tt,C5:=[],res:=[Go.ResultVar.tmp 6],rs:=[Ty.bool],ps:=[PK.v e8,PK.v e8,PK.v e8],y9:=[],nt:=15 }
theorem Ni:w5 Fl:=x6 p9 trivial
theorem Nt:B0 Fl Tryz.f40:=⟨rfl,rfl⟩
theorem UM (x0:Int) (x1:Int) (x2:Int):exec Fl 1000 [.code (d8 Tryz.prog 40)] (s7 yW.ps ((x0,x1,x2,()))) =
  cond (decide (x1<=x0)) (.ret ((decide (x0<=x2),()))) (.ret ((false,()))):=by kernel_rfl
theorem ED:yW.Valid Tryz.prog 40:=by
  refine o7.n8 Ni rfl rfl Tryz.func40 (c:=d8 Tryz.prog 40) rfl rfl Nt rfl ?_;rintro ⟨(n:Int),(a:Int),(b:Int),⟨⟩⟩ - -
  refine j8 (n:=1000) Ni Nt ?_;refine i7 (UM n a b) ?_;simp only [j6,Tree.holds,sL];refine ⟨λ c=>?_,λ c=>?_⟩
  . show ((decide _,()):Bool×Unit)=(H5 n a b,()); rw [H5,decide_eq_true c,Bool.true_and]
  . show ((false,()):Bool×Unit)=(H5 n a b,()); rw [H5,decide_eq_false c,Bool.false_and]
def tz (m:Int):Int:=(((List.range 8).find? (λ i=>decide (m / 2^i % 2=1))).getD 8:Nat)
def ctz:o7:={ ps:=[.v U8],rs:=[e8],pre:=λ _=>True,fn:=λ x=>(tz x.1,()),out:=λ _=>() }
noncomputable def Etz:Env:={ P:=Tryz.prog,tt:=tt,C5:=[],res:=[Go.ResultVar.tmp 2],rs:=[Ty.int IntKind.i64],ps:=[PK.v U8],y9:=[],nt:=6 }
theorem LY:w5 Etz:=x6 p9 trivial
theorem LZ:B0 Etz Tryz.f78:=⟨rfl,rfl⟩
theorem TM (x0:Int):exec Etz 1000 [.code (d8 Tryz.prog 78)] (s7 ctz.ps ((x0,()))) =
  .f7 ((0:Int)<=x0/\x0<(↑(List.length (Array.toList (ByteArray.data (ByteArray.mk (List.toArray (List.append (List.append ([8,0,1,0,2,0,1,0,3,0,1,0,2,0,1,0,4,0,1,0,2,0,1,0,3,0,1,0,2,0,1,0,5,0,1,0,2,0,1,0,3,0,1,0,2,0,1,0,4,0,1,0,2,0,1,0,3,0,1,0,2,0,1,0]:yY) ([6,0,1,0,2,0,1,0,3,0,1,0,2,0,1,0,4,0,1,0,2,0,1,0,3,0,1,0,2,0,1,0,5,0,1,0,2,0,1,0,3,0,1,0,2,0,1,0,4,0,1,0,2,0,1,0,3,0,1,0,2,0,1,0]:yY)) (List.append ([7,0,1,0,2,0,1,0,3,0,1,0,2,0,1,0,4,0,1,0,2,0,1,0,3,0,1,0,2,0,1,0,5,0,1,0,2,0,1,0,3,0,1,0,2,0,1,0,4,0,1,0,2,0,1,0,3,0,1,0,2,0,1,0]:yY) ([6,0,1,0,2,0,1,0,3,0,1,0,2,0,1,0,4,0,1,0,2,0,1,0,3,0,1,0,2,0,1,0,5,0,1,0,2,0,1,0,3,0,1,0,2,0,1,0,4,0,1,0,2,0,1,0,3,0,1,0,2,0,1,0]:yY)))))))):Int)) (.ret ((IntKind.wrap IntKind.i64 (↑(UInt8.toNat (List.getD (Array.toList (ByteArray.data (ByteArray.mk (List.toArray (List.append (List.append ([8,0,1,0,2,0,1,0,3,0,1,0,2,0,1,0,4,0,1,0,2,0,1,0,3,0,1,0,2,0,1,0,5,0,1,0,2,0,1,0,3,0,1,0,2,0,1,0,4,0,1,0,2,0,1,0,3,0,1,0,2,0,1,0]:yY) ([6,0,1,0,2,0,1,0,3,0,1,0,2,0,1,0,4,0,1,0,2,0,1,0,3,0,1,0,2,0,1,0,5,0,1,0,2,0,1,0,3,0,1,0,2,0,1,0,4,0,1,0,2,0,1,0,3,0,1,0,2,0,1,0]:yY)) (List.append ([7,0,1,0,2,0,1,0,3,0,1,0,2,0,1,0,4,0,1,0,2,0,1,0,3,0,1,0,2,0,1,0,5,0,1,0,2,0,1,0,3,0,1,0,2,0,1,0,4,0,1,0,2,0,1,0,3,0,1,0,2,0,1,0]:yY) ([6,0,1,0,2,0,1,0,3,0,1,0,2,0,1,0,4,0,1,0,2,0,1,0,3,0,1,0,2,0,1,0,5,0,1,0,2,0,1,0,3,0,1,0,2,0,1,0,4,0,1,0,2,0,1,0,3,0,1,0,2,0,1,0]:yY))))))) (Int.toNat x0) (0:UInt8))):Int),()))):=by kernel_rfl
theorem YY:ctz.Valid Tryz.prog 78:=by
  refine o7.n8 LY rfl rfl Tryz.func78 (c:=d8 Tryz.prog 78) rfl rfl LZ rfl ?_;rintro ⟨(x0:Int),⟨⟩⟩ - ⟨h0,-⟩;refine j8 (n:=1000) LY LZ ?_;refine i7 (TM x0) ?_;have g0:0<=x0/\x0<=255:=h0;obtain ⟨n,rfl⟩:∃ n:Fin 256,x0=((n.val:Nat):Int):=⟨⟨x0.toNat,by omega⟩,by simp; omega⟩;refine ⟨?_,λ _=>?_⟩
  . clear h0 g0; revert n; decide +kernel
  . show ((_,()):Int×Unit)=(tz n,());clear h0 g0; revert n; decide +kernel
def zH (v:vr):Int×Int×Unit:=if R5 v≠0 then (0,R5 v,()) else (tz v.2.1,0,())
def Dp:o7:={ ps:=[.v View],rs:=[e8,e8],pre:=λ _=>True,fn:=λ x=>zH x.1,out:=λ _=>() }
noncomputable def GQ:Env:={ P:=Tryz.prog,tt:=tt,C5:=[(70,Bl),(78,ctz)],res:=[Go.ResultVar.tmp 2,Go.ResultVar.tmp 3],rs:=[Ty.int IntKind.i64,Ty.int IntKind.i64],ps:=[PK.v View],y9:=[],nt:=13 }
theorem QR:w5 GQ:=x6 p9 ⟨Ts,YY,trivial⟩
theorem QA:B0 GQ Tryz.f61:=⟨rfl,rfl⟩
theorem Wj (aO:Int) (ab:Int):exec GQ 1000 [.code (d8 Tryz.prog 61)] (s7 Dp.ps (((aO,ab,()),()))) =
  .f7 (True) (cond (decide (R5 (aO,ab,())≠(0:Int))) (.ret (((0:Int),R5 (aO,ab,()),()))) (.f7 (True) (.ret ((tz ab,(0:Int),()))))):=by kernel_rfl
theorem b6b:Dp.Valid Tryz.prog 61:=by
  refine o7.n8 QR rfl rfl Tryz.func61 (c:=d8 Tryz.prog 61) rfl rfl QA rfl ?_;rintro ⟨⟨(x0:Int),(x1:Int),⟨⟩⟩,⟨⟩⟩ - -
  refine j8 (n:=1000) QR QA ?_;refine i7 (Wj x0 x1) ?_;simp only [j6,Tree.holds,sL];have key:∀ r:Int×Int×Unit,zH (x0,x1,())=r->((r:DL [Ty.int .i64,Ty.int .i64])=Dp.fn ((x0,x1,()),())):=by rintro r rfl; rfl
  refine ⟨λ a=>key _ ?_,λ a=>key _ ?_⟩
  . rw [zH,if_pos a]; rfl
  . rw [zH,if_neg a]; rfl
def s5 (w:f8) (p:Int):Bool:=H5 p 0 ((w.2.1.length:Int) - 1) && decide (T1 .u8 (w.1.2.1 / (2:Int)^min p.toNat IntKind.u8.bits) 1=1) && !(w.2.1.getD p.toNat j7).1
def ym:o7:={ ps:=[.rd K8,.v e8],rs:=[.bool],pre:=λ x=>List.length (α:=n7) (x.1:f8).2.1<=6,fn:=λ x=>(s5 x.1 x.2.1,()),out:=λ _=>() }
noncomputable def FB:Env:={ P:=Tryz.prog,tt:=tt,C5:=[(40,yW)],res:=[Go.ResultVar.tmp 4],rs:=[Ty.bool],ps:=[PK.rd K8,PK.v e8],y9:=[],nt:=35 }
theorem Ol:w5 FB:=x6 p9 ⟨ED,trivial⟩
theorem OO:B0 FB Tryz.f47:=⟨rfl,rfl⟩
theorem Vu (ai:Int) (af:Int) (ab:List n7) (ae:List yY) (aa:List yY) (x1:Int):exec FB 1000 [.code (d8 Tryz.prog 47)] (s7 ym.ps ((((ai,af,()),ab,ae,aa,()),x1,()))) =
  .f7 (r7 IntKind.i64 ((↑(List.length ab):Int) - (1:Int))) (.f7 (True) (cond (H5 x1 (0:Int) ((↑(List.length ab):Int) - (1:Int))) (.f7 ((0:Int)<=x1) (cond (decide (T1 IntKind.u8 (af / (2:Int)^min (Int.toNat x1) (IntKind.bits IntKind.u8)) (1:Int)=(1:Int))) (.f7 ((0:Int)<=x1/\x1<(↑(List.length ab):Int)) (.ret ((!Prod.fst (List.getD ab (Int.toNat x1) (false,[],((0:Int),[],()),((0:Int),[],()),((0:Int),[],()),())),())))) (.ret ((false,()))))) (.ret ((false,()))))):=by kernel_rfl
theorem BV:ym.Valid Tryz.prog 47:=by
  refine o7.n8 Ol rfl rfl Tryz.func47 (c:=d8 Tryz.prog 47) rfl rfl OO rfl ?_;rintro ⟨⟨⟨(v0:Int),(v1:Int),⟨⟩⟩,(al:List n7),(od:List yY),(wy:List yY),⟨⟩⟩,(p:Int),⟨⟩⟩ (hp:al.length<=6) -
  refine j8 (n:=1000) Ol OO ?_;refine i7 (Vu v0 v1 al od wy p) ?_;simp only [j6,Tree.holds,sL];have key:∀ r:Bool,s5 ((v0,v1,()),al,od,wy,()) p=r->(((r,()):Bool×Unit)=(s5 ((v0,v1,()),al,od,wy,()) p,())):=by rintro r rfl; rfl
  refine ⟨⟨by omega,by omega⟩,λ _=>⟨λ a=>⟨(T8.1 a).1,λ _=>⟨λ b=>⟨⟨(T8.1 a).1,by have:=(T8.1 a).2; show p<(al.length:Int); omega⟩,λ _=>key _ ?_⟩,λ b=>key _ ?_⟩⟩,λ a=>key _ ?_⟩⟩
  . show (H5 p 0 ((al.length:Int) - 1) && _ && _)=_;rw [a,Bool.true_and];exact congrArg (· && _) (decide_eq_true b)
  . show (H5 p 0 ((al.length:Int) - 1) && decide _ && _)=_;rw [a,Bool.true_and,decide_eq_false b]; rfl
  . show (H5 p 0 ((al.length:Int) - 1) && _ && _)=_;rw [a]; rfl
def known (w:f8) (p:Int):Int:=if H5 p 0 ((w.2.1.length:Int) - 1)=true then 0 else 1
def yy:o7:={ ps:=[.rd K8,.v e8],rs:=[e8],pre:=λ x=>List.length (α:=n7) (x.1:f8).2.1<=6,fn:=λ x=>(known x.1 x.2.1,()),out:=λ _=>() }
noncomputable def HQ:Env:={ P:=Tryz.prog,tt:=tt,C5:=[(40,yW)],res:=[Go.ResultVar.tmp 4],rs:=[Ty.int IntKind.i64],ps:=[PK.rd K8,PK.v e8],y9:=[],nt:=14 }
theorem RE:w5 HQ:=x6 p9 ⟨ED,trivial⟩
theorem Rr:B0 HQ Tryz.f49:=⟨rfl,rfl⟩
theorem XK (ai:Int) (af:Int) (ab:List n7) (ae:List yY) (aa:List yY) (x1:Int):exec HQ 1000 [.code (d8 Tryz.prog 49)] (s7 yy.ps ((((ai,af,()),ab,ae,aa,()),x1,()))) =
  .f7 (r7 IntKind.i64 ((↑(List.length ab):Int) - (1:Int))) (.f7 (True) (cond (!H5 x1 (0:Int) ((↑(List.length ab):Int) - (1:Int))) (.ret (((1:Int),()))) (.ret (((0:Int),()))))):=by kernel_rfl
theorem Cd:yy.Valid Tryz.prog 49:=by
  refine o7.n8 RE rfl rfl Tryz.func49 (c:=d8 Tryz.prog 49) rfl rfl Rr rfl ?_;rintro ⟨⟨⟨(v0:Int),(v1:Int),⟨⟩⟩,(al:List n7),(od:List yY),(wy:List yY),⟨⟩⟩,(p:Int),⟨⟩⟩ (hp:al.length<=6) -
  refine j8 (n:=1000) RE Rr ?_;refine i7 (XK v0 v1 al od wy p) ?_;simp only [j6,Tree.holds,sL];have key:∀ r:Int,known ((v0,v1,()),al,od,wy,()) p=r->(((r,()):Int×Unit)=(known ((v0,v1,()),al,od,wy,()) p,())):=by rintro r rfl; rfl
  refine ⟨⟨by omega,by omega⟩,λ _=>⟨λ a=>key _ ?_,λ a=>key _ ?_⟩⟩
  . exact if_neg (by simpa using a)
  . exact if_pos (by simpa using a)
def J9 (w:f8) (p:Int):Int:=if known w p≠0 then known w p else if s5 w p=true then 0 else 11
def Dg:o7:={ ps:=[.rd K8,.v e8],rs:=[e8],pre:=λ x=>List.length (α:=n7) (x.1:f8).2.1<=6,fn:=λ x=>(J9 x.1 x.2.1,()),out:=λ _=>() }
noncomputable def GY:Env:={ P:=Tryz.prog,tt:=tt,C5:=[(49,yy),(47,ym)],res:=[Go.ResultVar.tmp 4],rs:=[Ty.int IntKind.i64],ps:=[PK.rd K8,PK.v e8],y9:=[],nt:=16 }
theorem QY:w5 GY:=x6 p9 ⟨Cd,BV,trivial⟩
theorem QH:B0 GY Tryz.f41:=⟨rfl,rfl⟩
theorem XF (ai:Int) (af:Int) (ab:List n7) (ae:List yY) (aa:List yY) (x1:Int):exec GY 1000 [.code (d8 Tryz.prog 41)] (s7 Dg.ps ((((ai,af,()),ab,ae,aa,()),x1,()))) =
  .f7 (List.length ab<=6) (cond (decide (known ((ai,af,()),ab,ae,aa,()) x1≠(0:Int))) (.ret ((known ((ai,af,()),ab,ae,aa,()) x1,()))) (.f7 (List.length ab<=6) (cond (!s5 ((ai,af,()),ab,ae,aa,()) x1) (.ret (((11:Int),()))) (.ret (((0:Int),())))))):=by kernel_rfl
theorem SP:Dg.Valid Tryz.prog 41:=by
  refine o7.n8 QY rfl rfl Tryz.func41 (c:=d8 Tryz.prog 41) rfl rfl QH rfl ?_;rintro ⟨⟨⟨(v0:Int),(v1:Int),⟨⟩⟩,(al:List n7),(od:List yY),(wy:List yY),⟨⟩⟩,(p:Int),⟨⟩⟩ (hp:al.length<=6) -
  refine j8 (n:=1000) QY QH ?_;refine i7 (XF v0 v1 al od wy p) ?_;simp only [j6,Tree.holds,sL];have key:∀ r:Int,J9 ((v0,v1,()),al,od,wy,()) p=r->(((r,()):Int×Unit)=(J9 ((v0,v1,()),al,od,wy,()) p,())):=by rintro r rfl; rfl
  refine ⟨hp,λ _=>⟨λ a=>key _ ?_,λ a=>⟨hp,λ _=>⟨λ b=>key _ ?_,λ b=>key _ ?_⟩⟩⟩⟩
  . exact if_pos a
  . rw [J9,if_neg (by simpa using a),if_neg (by simpa using b)]
  . rw [J9,if_neg (by simpa using a),if_pos (by simpa using b)]
def J8 (w:f8):Int:=(zH w.1).1
def yX:o7:={ ps:=[.rd K8],rs:=[e8],pre:=λ _=>True,fn:=λ x=>(J8 x.1,()),out:=λ _=>() }
noncomputable def FF:Env:={ P:=Tryz.prog,tt:=tt,C5:=[(61,Dp)],res:=[Go.ResultVar.tmp 2],rs:=[Ty.int IntKind.i64],ps:=[PK.rd K8],y9:=[],nt:=14 }
theorem Ou:w5 FF:=x6 p9 ⟨b6b,trivial⟩
theorem OT:B0 FF Tryz.f44:=⟨rfl,rfl⟩
theorem Vy (ai:Int) (af:Int) (ab:List n7) (ae:List yY) (aa:List yY):exec FF 1000 [.code (d8 Tryz.prog 44)] (s7 yX.ps ((((ai,af,()),ab,ae,aa,()),()))) =
  .f7 (True) (.ret ((Prod.fst (zH (ai,af,())),()))):=by kernel_rfl
theorem EE:yX.Valid Tryz.prog 44:=by
  refine o7.n8 Ou rfl rfl Tryz.func44 (c:=d8 Tryz.prog 44) rfl rfl OT rfl ?_;rintro ⟨⟨⟨(v0:Int),(v1:Int),⟨⟩⟩,(al:List n7),(od:List yY),(wy:List yY),⟨⟩⟩,⟨⟩⟩ - -
  refine j8 (n:=1000) Ou OT ?_;refine i7 (Vy v0 v1 al od wy) ?_;exact ⟨trivial,λ _=>rfl⟩
def J5 (w:f8) (k f t s:Int) (x:yY):f8 :=
  let r:=T3 (k,f,t,w.1.1,s,[0,0,0,0,0,0],x,())
  if r.2.1=0/\(w.2.2.2.1.length:Int)<60 then (w.1,w.2.1,w.2.2.1,w.2.2.2.1++[r.1],()) else w
theorem Es {w:f8} {k f t s:Int} {x:yY} (h:(T3 (k,f,t,w.1.1,s,[0,0,0,0,0,0],x,())).2.1=0) (h2:(w.2.2.2.1.length:Int)<60) :
    J5 w k f t s x=(w.1,w.2.1,w.2.2.1,w.2.2.2.1++[(T3 (k,f,t,w.1.1,s,[0,0,0,0,0,0],x,())).1],()):=by
  unfold J5; exact if_pos ⟨h,h2⟩
theorem Cb {w:f8} {k f t s:Int} {x:yY} (h:¬ ((T3 (k,f,t,w.1.1,s,[0,0,0,0,0,0],x,())).2.1=0/\(w.2.2.2.1.length:Int)<60)) :
    J5 w k f t s x=w:=by
  unfold J5; exact if_neg h
def zp:o7:={ ps:=[.rw r9,.v e8,.v e8,.v e8,.v e8,.v .str],rs:=[],pre:=λ _=>True,fn:=λ _=>(),out:=λ x=>(J5 x.1 x.2.1 x.2.2.1 x.2.2.2.1 x.2.2.2.2.1 x.2.2.2.2.2.1,()) }
noncomputable def GX:Env:={ P:=Tryz.prog,tt:=tt,C5:=[(60,Gi)],res:=[],rs:=[],ps:=[PK.rw r9,PK.v e8,PK.v e8,PK.v e8,PK.v e8,PK.v Ty.str],y9:=[],nt:=49 }
theorem QX:w5 GX:=x6 p9 ⟨b8a,trivial⟩
theorem QG:B0 GX Tryz.f43:=⟨rfl,rfl⟩
theorem XC (ai:Int) (af:Int) (ab:List n7) (ae:List yY) (aa:List yY) (x1:Int) (x2:Int) (x3:Int) (x4:Int) (x5:yY):exec GX 1000 [.code (d8 Tryz.prog 43)] (s7 zp.ps ((((ai,af,()),ab,ae,aa,()),x1,x2,x3,x4,x5,()))) =
  .f7 (True) (cond (decide (Prod.fst (Prod.snd (T3 (x1,x2,x3,ai,x4,[(0:Int),(0:Int),(0:Int),(0:Int),(0:Int),(0:Int)],x5,())))=(0:Int))) (cond (decide ((↑(List.length aa):Int)<(60:Int))) (.f7 (True/\True/\[]++[Step.l7 3]=[]++[Step.l7 3]/\List.length aa+List.length (List.set [[]] (Int.toNat (↑0:Int)) (Prod.fst (T3 (x1,x2,x3,ai,x4,[(0:Int),(0:Int),(0:Int),(0:Int),(0:Int),(0:Int)],x5,()))))<=140737488355328/\(List.length aa+List.length (List.set [[]] (Int.toNat (↑0:Int)) (Prod.fst (T3 (x1,x2,x3,ai,x4,[(0:Int),(0:Int),(0:Int),(0:Int),(0:Int),(0:Int)],x5,())))))*Ty.wb Ty.str<=140737488355328) (.ret ((((ai,af,()),ab,ae,aa++List.set [[]] (Int.toNat (↑0:Int)) (Prod.fst (T3 (x1,x2,x3,ai,x4,[(0:Int),(0:Int),(0:Int),(0:Int),(0:Int),(0:Int)],x5,()))),()),())))) (.ret ((((ai,af,()),ab,ae,aa,()),())))) (.ret ((((ai,af,()),ab,ae,aa,()),())))):=by kernel_rfl
attribute [local irreducible] T3 J5 in
theorem EN:zp.Valid Tryz.prog 43:=by
  refine o7.n8 QX rfl rfl Tryz.func43 (c:=d8 Tryz.prog 43) rfl rfl QG rfl ?_;rintro ⟨⟨⟨(v0:Int),(v1:Int),⟨⟩⟩,(al:List n7),(od:List yY),(wy:List yY),⟨⟩⟩,(k:Int),(f:Int),(t:Int),(s:Int),(x:yY),⟨⟩⟩ - -
  refine j8 (n:=1000) QX QG ?_;refine i7 (XC v0 v1 al od wy k f t s x) ?_;simp only [j6,Tree.holds,sL];have key:∀ r:f8,J5 ((v0,v1,()),al,od,wy,()) k f t s x=r->(((r,()):f8×Unit)=(J5 ((v0,v1,()),al,od,wy,()) k f t s x,())):=by rintro r rfl; rfl
  refine ⟨λ a=>⟨λ b=>⟨?_,λ _=>key _ ?_⟩,λ b=>key _ ?_⟩,λ a=>key _ ?_⟩
  . have b':wy.length<60:=by exact_mod_cast b
    refine ⟨?_,?_⟩
    . show wy.length+1<=140737488355328; omega
    . show (wy.length+1)*16<=140737488355328; omega
  . exact Es a b
  . exact Cb (λ h=>b h.2)
  . exact Cb (λ h=>a h.1)
def vu (w:f8) (p:Int):f8×Int :=
  if known w p≠0 then (w,known w p) else ((w.1,w.2.1.set p.toNat (true,(w.2.1.getD p.toNat j7).2),w.2.2),0)
def FZ:o7:={ ps:=[.rw r9,.v e8],rs:=[e8],pre:=λ x=>List.length (α:=n7) (x.1:f8).2.1<=6,fn:=λ x=>((vu x.1 x.2.1).2,()),out:=λ x=>((vu x.1 x.2.1).1,()) }
noncomputable def GU:Env:={ P:=Tryz.prog,tt:=tt,C5:=[(49,yy)],res:=[Go.ResultVar.tmp 4],rs:=[Ty.int IntKind.i64],ps:=[PK.rw r9,PK.v e8],y9:=[],nt:=19 }
theorem QU:w5 GU:=x6 p9 ⟨Cd,trivial⟩
theorem QD:B0 GU Tryz.f37:=⟨rfl,rfl⟩
theorem Xz (ai:Int) (af:Int) (ab:List n7) (ae:List yY) (aa:List yY) (x1:Int):exec GU 1000 [.code (d8 Tryz.prog 37)] (s7 FZ.ps ((((ai,af,()),ab,ae,aa,()),x1,()))) =
  .f7 (List.length ab<=6) (cond (decide (known ((ai,af,()),ab,ae,aa,()) x1≠(0:Int))) (.ret ((known ((ai,af,()),ab,ae,aa,()) x1,((ai,af,()),ab,ae,aa,()),()))) (.f7 ((0:Int)<=x1/\x1<(↑(List.length ab):Int)) (.ret (((0:Int),((ai,af,()),List.set ab (Int.toNat x1) (true,Prod.snd (List.getD ab (Int.toNat x1) (false,[],((0:Int),[],()),((0:Int),[],()),((0:Int),[],()),()))),ae,aa,()),()))))):=by kernel_rfl
theorem b8n:FZ.Valid Tryz.prog 37:=by
  refine o7.n8 QU rfl rfl Tryz.func37 (c:=d8 Tryz.prog 37) rfl rfl QD rfl ?_;rintro ⟨⟨⟨(v0:Int),(v1:Int),⟨⟩⟩,(al:List n7),(od:List yY),(wy:List yY),⟨⟩⟩,(p:Int),⟨⟩⟩ (hp:al.length<=6) -
  refine j8 (n:=1000) QU QD ?_;refine i7 (Xz v0 v1 al od wy p) ?_;simp only [j6,Tree.holds,sL];have key:∀ r:f8×Int,vu ((v0,v1,()),al,od,wy,()) p=r->(((r.2,r.1,()):Int×f8×Unit)=((vu ((v0,v1,()),al,od,wy,()) p).2,(vu ((v0,v1,()),al,od,wy,()) p).1,())):=by rintro r rfl; rfl
  have cZ:¬ known ((v0,v1,()),al,od,wy,()) p≠0->0<=p/\p<(al.length:Int):=by
    intro a;unfold known at a;split at a
    . rename_i hb;have:=T8.1 hb;simp only at this; omega
    . exact absurd (by decide) a
  refine ⟨hp,λ _=>⟨λ a=>key (_,_) ?_,λ a=>⟨cZ a,λ _=>key (_,_) ?_⟩⟩⟩
  . rw [vu,if_pos a]; rfl
  . rw [vu,if_neg a]; rfl
def ttW:List (TypeId×TI):=(78,TI.mk P7 32)::(83,TI.mk ToT 32)::tt
theorem MA:ttW.all (wY Tryz.prog)=true:=by kernel_rfl
def Lx:o7:={ ps:=[.v P7,.v .str],rs:=[P7,e8],new:=true,pre:=Gf.pre,fn:=λ x=>K3 x.1 x.2.1,out:=λ _=>() }
theorem c1c:Lx.Valid Tryz.prog 42:=b8e.share (rs':=[P7,e8]) rfl rfl rfl
def Mn:o7:={ ps:=[.v P7,.v e8],rs:=[P7,e8],new:=true,pre:=HB.pre,fn:=λ x=>Q8 x.1 x.2.1,out:=λ _=>() }
theorem b59:Mn.Valid Tryz.prog 86:=b4t.share (rs':=[P7,e8]) rfl rfl rfl
def GJ:o7:={ ps:=[.v ToT,.v r8],rs:=[ToT,.d0 true .str,e8],new:=true,pre:=Hz.pre,fn:=λ x=>D6 x.1 x.2.1,out:=λ _=>() }
theorem SO:GJ.Valid Tryz.prog 83:=b53.share (rs':=[ToT,.d0 true .str,e8]) rfl rfl rfl
end Go.Proofs.YtijlnmgondibnaaGreatDoor
