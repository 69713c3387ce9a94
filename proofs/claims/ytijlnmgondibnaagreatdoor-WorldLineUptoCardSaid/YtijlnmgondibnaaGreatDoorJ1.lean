import Derived.Test.YtijlnmgondibnaaGreatDoorProg
import Derived.Test.YtijlnmgondibnaaGreatDoorExW
import Derived.Test.YtijlnmgondibnaaGreatDoorRows
import Derived.Lib.LaidU8
import Derived.LaidMore
import Derived.LaidSub
import Derived.Shelf.Vars
import Derived.JoinedCond
import Derived.WalkKit
import Derived.Lib.Walk
import Derived.Shelf.RegionOpenPlain
import Derived.Lib.SliceRun
import Derived.Lib.Overlaps
import Derived.Lib.AppendZerosOnto
import Derived.Laws.Externs
import Derived.Laws.IdiomCopy
import Derived.Laws.NewBlocks
set_option linter.unusedVariables false
set_option linter.unusedSimpArgs false
set_option linter.unusedSectionVars false
namespace Go.Proofs.YtijlnmgondibnaaGreatDoor
open Go.Ex
set_option maxRecDepth 100000
abbrev d9:Ty:=.int .i64
abbrev U8:Ty:=.int .u8
abbrev Is:Ty:=.d0 true d9
abbrev X1:Ty:=.arr 6 d9
abbrev c81:Ty:=.arr 10 d9
abbrev View:Ty:=.pair d9 (.pair U8 .unit)
abbrev p9:Ty:=.pair d9 (.pair .str .unit)
abbrev ToT:Ty:=.pair d9 (.pair (.d0 false p9) .unit)
abbrev ToO:Ty:=.pair d9 (.pair (.d0 true p9) .unit)
abbrev P0:Ty:=.pair d9 (.pair (.d0 false .str) .unit)
abbrev Lp:Ty:=.pair d9 (.pair (.d0 true .str) .unit)
abbrev yW:Ty:=.pair d9 (.pair d9 (.pair d9 (.pair d9 (.pair d9 (.pair X1 (.pair .str .unit))))))
abbrev wL:Ty:=.pair .bool (.pair (.d0 true p9) (.pair P0 (.pair ToT (.pair ToT .unit))))
abbrev s5:Ty:=.pair View (.pair (.d0 true wL) (.pair (.d0 true .str) (.pair (.d0 true .str) .unit)))
abbrev TN:Ty:=.pair .bool (.pair (.d0 false p9) (.pair P0 (.pair ToT (.pair ToT .unit))))
abbrev F3:Ty:=.pair View (.pair (.d0 false TN) (.pair (.d0 false .str) (.pair (.d0 false .str) .unit)))
abbrev vr:Ty:=.pair d9 (.pair d9 (.pair d9 (.pair .str .unit)))
abbrev K6:Ty:=.d0 false p9
abbrev X4:Ty:=.pair .bool (.pair (.y7 p9) (.pair P0 (.pair ToT (.pair ToT .unit))))
abbrev Y5:Ty:=.pair View (.pair (.d0 true X4) (.pair (.d0 true .str) (.pair (.d0 true .str) .unit)))
def tt:List (TypeId×TI):=[(2,TI.mk (Ty.int IntKind.i64) 8),(3,TI.mk (Ty.int IntKind.i64) 8),(4,TI.mk Ty.bool 1),(5,TI.mk (Ty.int IntKind.u8) 1),(6,TI.mk (Ty.int IntKind.u8) 1),(7,TI.mk (Ty.pair (Ty.int IntKind.i64) (Ty.pair (Ty.int IntKind.i64) (Ty.pair Ty.bool (Ty.pair (Ty.int IntKind.u8) Ty.unit)))) 24),(8,TI.mk (Ty.pair (Ty.int IntKind.i64) (Ty.pair (Ty.int IntKind.i64) (Ty.pair Ty.bool (Ty.pair (Ty.int IntKind.u8) Ty.unit)))) 24),(9,TI.mk Ty.str 16),(10,TI.mk Ty.str 16),(11,TI.mk Ty.str 16),(12,TI.mk (Ty.int IntKind.u64) 8),(13,TI.mk (Ty.pair Ty.str (Ty.pair (Ty.int IntKind.u64) Ty.unit)) 24),(14,TI.mk (Ty.pair Ty.str (Ty.pair (Ty.int IntKind.u64) Ty.unit)) 24),(21,TI.mk (Ty.int IntKind.i32) 4),(22,TI.mk (Ty.d0 true Ty.str) 24),(26,TI.mk (Ty.int IntKind.i64) 8),(33,TI.mk (Ty.d0 true (Ty.pair (Ty.int IntKind.i64) (Ty.pair Ty.str Ty.unit))) 24),(39,TI.mk (Ty.pair (Ty.int IntKind.i64) (Ty.pair Ty.str Ty.unit)) 24),(40,TI.mk (Ty.pair (Ty.int IntKind.i64) (Ty.pair Ty.str Ty.unit)) 24),(43,TI.mk (Ty.d0 true (Ty.pair (Ty.int IntKind.i64) (Ty.pair (Ty.int IntKind.i64) (Ty.pair (Ty.int IntKind.i64) (Ty.pair Ty.str Ty.unit))))) 24),(44,TI.mk (Ty.d0 true (Ty.d0 true Ty.str)) 24),(45,TI.mk (Ty.d0 true (Ty.int IntKind.i64)) 24),(53,TI.mk (Ty.arr 6 (Ty.d0 true Ty.str)) 144),(55,TI.mk (Ty.map true (Ty.int IntKind.i64) (Ty.int IntKind.i64)) 8),(56,TI.mk (Ty.pair (Ty.int IntKind.i64) (Ty.pair (Ty.int IntKind.u8) Ty.unit)) 16),(57,TI.mk (Ty.pair (Ty.int IntKind.i64) (Ty.pair (Ty.int IntKind.u8) Ty.unit)) 16),(59,TI.mk (Ty.arr 10 (Ty.int IntKind.i64)) 80),(60,TI.mk (Ty.arr 10 (Ty.int IntKind.i64)) 80),(68,TI.mk (Ty.d0 true (Ty.d0 true (Ty.pair (Ty.int IntKind.i64) (Ty.pair Ty.str Ty.unit)))) 24),(69,TI.mk (Ty.pair (Ty.int IntKind.i64) (Ty.pair (Ty.int IntKind.i64) (Ty.pair (Ty.int IntKind.i64) (Ty.pair Ty.str Ty.unit)))) 40),(70,TI.mk (Ty.pair (Ty.int IntKind.i64) (Ty.pair (Ty.int IntKind.i64) (Ty.pair (Ty.int IntKind.i64) (Ty.pair Ty.str Ty.unit)))) 40),(74,TI.mk (Ty.d0 true (Ty.pair Ty.bool (Ty.pair (Ty.d0 true (Ty.pair (Ty.int IntKind.i64) (Ty.pair Ty.str Ty.unit))) (Ty.pair (Ty.pair (Ty.int IntKind.i64) (Ty.pair (Ty.d0 true Ty.str) Ty.unit)) (Ty.pair (Ty.pair (Ty.int IntKind.i64) (Ty.pair (Ty.d0 true (Ty.pair (Ty.int IntKind.i64) (Ty.pair Ty.str Ty.unit))) Ty.unit)) (Ty.pair (Ty.pair (Ty.int IntKind.i64) (Ty.pair (Ty.d0 true (Ty.pair (Ty.int IntKind.i64) (Ty.pair Ty.str Ty.unit))) Ty.unit)) Ty.unit)))))) 24),(75,TI.mk (Ty.pair (Ty.pair (Ty.int IntKind.i64) (Ty.pair (Ty.int IntKind.u8) Ty.unit)) (Ty.pair (Ty.d0 true (Ty.pair Ty.bool (Ty.pair (Ty.d0 true (Ty.pair (Ty.int IntKind.i64) (Ty.pair Ty.str Ty.unit))) (Ty.pair (Ty.pair (Ty.int IntKind.i64) (Ty.pair (Ty.d0 true Ty.str) Ty.unit)) (Ty.pair (Ty.pair (Ty.int IntKind.i64) (Ty.pair (Ty.d0 true (Ty.pair (Ty.int IntKind.i64) (Ty.pair Ty.str Ty.unit))) Ty.unit)) (Ty.pair (Ty.pair (Ty.int IntKind.i64) (Ty.pair (Ty.d0 true (Ty.pair (Ty.int IntKind.i64) (Ty.pair Ty.str Ty.unit))) Ty.unit)) Ty.unit)))))) (Ty.pair (Ty.d0 true Ty.str) (Ty.pair (Ty.d0 true Ty.str) Ty.unit)))) 88),(76,TI.mk (Ty.pair (Ty.pair (Ty.int IntKind.i64) (Ty.pair (Ty.int IntKind.u8) Ty.unit)) (Ty.pair (Ty.d0 true (Ty.pair Ty.bool (Ty.pair (Ty.d0 true (Ty.pair (Ty.int IntKind.i64) (Ty.pair Ty.str Ty.unit))) (Ty.pair (Ty.pair (Ty.int IntKind.i64) (Ty.pair (Ty.d0 true Ty.str) Ty.unit)) (Ty.pair (Ty.pair (Ty.int IntKind.i64) (Ty.pair (Ty.d0 true (Ty.pair (Ty.int IntKind.i64) (Ty.pair Ty.str Ty.unit))) Ty.unit)) (Ty.pair (Ty.pair (Ty.int IntKind.i64) (Ty.pair (Ty.d0 true (Ty.pair (Ty.int IntKind.i64) (Ty.pair Ty.str Ty.unit))) Ty.unit)) Ty.unit)))))) (Ty.pair (Ty.d0 true Ty.str) (Ty.pair (Ty.d0 true Ty.str) Ty.unit)))) 88),(77,TI.mk (Ty.pair (Ty.int IntKind.i64) (Ty.pair (Ty.d0 true Ty.str) Ty.unit)) 32),(78,TI.mk (Ty.pair (Ty.int IntKind.i64) (Ty.pair (Ty.d0 true Ty.str) Ty.unit)) 32),(81,TI.mk (Ty.d0 true (Ty.pair (Ty.int IntKind.i64) (Ty.pair Ty.str Ty.unit))) 24),(82,TI.mk (Ty.pair (Ty.int IntKind.i64) (Ty.pair (Ty.d0 true (Ty.pair (Ty.int IntKind.i64) (Ty.pair Ty.str Ty.unit))) Ty.unit)) 32),(83,TI.mk (Ty.pair (Ty.int IntKind.i64) (Ty.pair (Ty.d0 true (Ty.pair (Ty.int IntKind.i64) (Ty.pair Ty.str Ty.unit))) Ty.unit)) 32),(84,TI.mk (Ty.pair Ty.bool (Ty.pair (Ty.d0 true (Ty.pair (Ty.int IntKind.i64) (Ty.pair Ty.str Ty.unit))) (Ty.pair (Ty.pair (Ty.int IntKind.i64) (Ty.pair (Ty.d0 true Ty.str) Ty.unit)) (Ty.pair (Ty.pair (Ty.int IntKind.i64) (Ty.pair (Ty.d0 true (Ty.pair (Ty.int IntKind.i64) (Ty.pair Ty.str Ty.unit))) Ty.unit)) (Ty.pair (Ty.pair (Ty.int IntKind.i64) (Ty.pair (Ty.d0 true (Ty.pair (Ty.int IntKind.i64) (Ty.pair Ty.str Ty.unit))) Ty.unit)) Ty.unit))))) 128),(85,TI.mk (Ty.pair Ty.bool (Ty.pair (Ty.d0 true (Ty.pair (Ty.int IntKind.i64) (Ty.pair Ty.str Ty.unit))) (Ty.pair (Ty.pair (Ty.int IntKind.i64) (Ty.pair (Ty.d0 true Ty.str) Ty.unit)) (Ty.pair (Ty.pair (Ty.int IntKind.i64) (Ty.pair (Ty.d0 true (Ty.pair (Ty.int IntKind.i64) (Ty.pair Ty.str Ty.unit))) Ty.unit)) (Ty.pair (Ty.pair (Ty.int IntKind.i64) (Ty.pair (Ty.d0 true (Ty.pair (Ty.int IntKind.i64) (Ty.pair Ty.str Ty.unit))) Ty.unit)) Ty.unit))))) 128),(88,TI.mk (Ty.arr 6 (Ty.int IntKind.i64)) 48),(89,TI.mk (Ty.arr 6 (Ty.int IntKind.i64)) 48),(90,TI.mk (Ty.pair (Ty.int IntKind.i64) (Ty.pair (Ty.int IntKind.i64) (Ty.pair (Ty.int IntKind.i64) (Ty.pair (Ty.int IntKind.i64) (Ty.pair (Ty.int IntKind.i64) (Ty.pair (Ty.arr 6 (Ty.int IntKind.i64)) (Ty.pair Ty.str Ty.unit))))))) 104),(91,TI.mk (Ty.pair (Ty.int IntKind.i64) (Ty.pair (Ty.int IntKind.i64) (Ty.pair (Ty.int IntKind.i64) (Ty.pair (Ty.int IntKind.i64) (Ty.pair (Ty.int IntKind.i64) (Ty.pair (Ty.arr 6 (Ty.int IntKind.i64)) (Ty.pair Ty.str Ty.unit))))))) 104),(103,TI.mk (Ty.pair (Ty.int IntKind.i64) (Ty.pair Ty.str Ty.unit)) 24),(104,TI.mk (Ty.pair (Ty.int IntKind.i64) (Ty.pair Ty.str Ty.unit)) 24),(115,TI.mk (Ty.d0 true (Ty.int IntKind.u8)) 24),(117,TI.mk (Ty.int IntKind.u32) 4),(119,TI.mk (Ty.int IntKind.u64) 8),(125,TI.mk (Ty.pair (Ty.int IntKind.i64) (Ty.pair (Ty.int IntKind.i64) (Ty.pair (Ty.int IntKind.i64) Ty.unit))) 24),(126,TI.mk (Ty.pair (Ty.int IntKind.i64) (Ty.pair (Ty.int IntKind.i64) (Ty.pair (Ty.int IntKind.i64) Ty.unit))) 24),(158,TI.mk (Ty.arr 24 (Ty.int IntKind.u8)) 24),(159,TI.mk (Ty.int IntKind.u64) 8),(169,TI.mk (Ty.int IntKind.i64) 8),(176,TI.mk (Ty.arr 20 (Ty.int IntKind.u64)) 160),(177,TI.mk (Ty.arr 65 (Ty.int IntKind.u8)) 65),(181,TI.mk (Ty.arr 256 Ty.bool) 256),(182,TI.mk (Ty.arr 256 Ty.bool) 256),(206,TI.mk (Ty.pair Ty.str Ty.unit) 16),(207,TI.mk (Ty.pair Ty.str Ty.unit) 16),(208,TI.mk (Ty.arr 32 (Ty.int IntKind.u8)) 32),(209,TI.mk (Ty.arr 64 (Ty.int IntKind.u8)) 64),(211,TI.mk (Ty.arr 256 (Ty.int IntKind.u8)) 256),(212,TI.mk (Ty.pair (Ty.int IntKind.u8) (Ty.pair (Ty.int IntKind.u8) Ty.unit)) 2),(213,TI.mk (Ty.pair (Ty.int IntKind.u8) (Ty.pair (Ty.int IntKind.u8) Ty.unit)) 2),(214,TI.mk (Ty.arr 16 (Ty.pair (Ty.int IntKind.u8) (Ty.pair (Ty.int IntKind.u8) Ty.unit))) 32),(222,TI.mk (Ty.int IntKind.u8) 1),(223,TI.mk (Ty.int IntKind.u8) 1),(225,TI.mk (Ty.int IntKind.i32) 4),(226,TI.mk (Ty.int IntKind.i32) 4),(25,{ ty:=Ty.box true none s5,by_:=8 }),(94,{ ty:=Ty.fn 79,by_:=8 })]
theorem p7:tt.all (xa Tryz.prog)=true:=by kernel_rfl
theorem own:ownKnob Tryz.prog.godebug=none:=by kernel_rfl
theorem laid:laidOutB Tryz.prog=true:=by kernel_rfl
abbrev _root_.Go.Ex.Tree.ctL {ts:List Ty} (q:Code×List Item) (s:St):Tree ts:=.cut q.1 q.2 s
end Go.Proofs.YtijlnmgondibnaaGreatDoor
namespace Go.Proofs.YtijlnmgondibnaaGreatDoor
open Go.Ex Go.ChangeShapes Go.WideShapes Go.ChangeAt Go.RowKit
set_option maxRecDepth 100000
theorem YR {X:Type} {enc:TypeId×Value->X} {C:Checked} {os:Os} {f:FuncId} {fn:Func} {s:OpenSpec} {k:(H:Type)->List (DataW H)->Bool} (hk:s.cond=some k) {F:Stop.Interp} {conds:List PathCond} {apart fresh handsOn again:Bool} {us:List Ty} {tb:TypeId} {a:Assume} {Y:World->Array Value->Prop}
    (hX:∀ (w w':World) (args:Array Value),w.heap=w'.heap->Y w args->Y w' args)
    (own:ownKnob C.prog.godebug=none) (started:os.Started) (noInit:C.prog.inits.idxOf? f=none) (jA:C.prog.funcs[f]?=some fn)
    (witness:∃ (w:World) (tape:Tape) (i:Input),w.os=os/\(w.forCall tape i).Shaped C.prog/\i.vars=[]/\Input.okWide C.prog (w.forCall tape i) .any w.heap.size f i /\
      ((s.pre enc C.prog fn conds apart (w.forCall tape i).memory i.args/\Y (w.forCall tape i).memory i.args)/\sizedMet enc C.prog fn s apart (w.forCall tape i).memory i.args)/\a.holds C.prog (lone (Frame.enter C.prog f i.args .normal) [] (w.forCall tape i)))
    (sB:∀ ds:List (DataW X),k X ds=true->T3 ds<=1048576)
    (hl:laidOutB C.prog=true) (df:yx C.prog fn.params.toList us=true) (fG:s.vars=[]) (hs:∀ ds:List (DataW X),ds.length=fn.params.toList.length->s.fn F X ds={ results:=[.lit (.bool true)],args:=ds })
    (eJ:fn.resultTypes=#[tb]) (nH:C.prog.underlying tb=some .bool) (hv:(Mh us).Valid C.prog f) (dY:∀ W args,W.ShapedOpen C.prog->Y W args->uX C.prog W (λ b=>b<W.heap.size)) :
    ReturnsInHanded a C os f .any (λ w args=>(s.pre enc C.prog fn conds apart w args/\Y w args)/\sizedMet enc C.prog fn s apart w args) ((s.at F).post enc C.prog fn apart fresh handsOn again):=by
  refine returnsInHanded_of_calls own started noInit witness ?_;intro w tape i _ cj _ aL aV pz;obtain ⟨_,_,_,fn',iF,_,_,_,_,dD⟩:=aL;have e:fn'=fn:=Option.some.inj (iF.symm.trans jA);subst e;obtain ⟨⟨lC,hx⟩,hz⟩:=aV;obtain ⟨ds,gs,before,hw,hc,mJ⟩:=(OpenSpec.pre_some hk conds apart _ _).1 lC;have gK:=DataW.Whole.of_heap (w':=w.forCall tape i) (by rfl) hw;have hg:gs=[]:=by
    obtain ⟨p,q,hA,hV,_⟩:=hw;rw [fG] at hV;exact (trodVars_none hV).1
  subst hg;rw [List.append_nil] at mJ;refine (YQ (s:=s.at F) (apart:=apart) (fresh:=fresh) (handsOn:=handsOn) (again:=again) hl df fG hs eJ nH hv (dY _ _ cj (hX _ _ _ (by rfl) hx)) (λ x hx=>Nat.le_trans hx (sB ds mJ)) dD gK).mono λ e W' ⟨v,he,hp⟩=>?_;subst he;exact ChangeSpec.post_blind hp
theorem Ml {P:Program} {W:World} {n:String} {g:Nat} {cs:Array Value} (hg:P.globalNamed n=some g) (h:W.var? P n=some cs):g<W.heap.size:=by
  unfold World.var? at h;rw [hg,Option.bind_some] at h;by_cases bf:g<W.heap.size
  . exact bf
  . rw [Array.getElem?_eq_none (by omega)] at h;cases h
theorem Xh {P:Program} {W:World} {n:String} {g:Nat} {v:Value} (hg:P.globalNamed n=some g) (h:W.cell? ⟨g,0,none⟩=some v):∃ cs,W.var? P n=some cs/\cs[0]?=some v:=by
  unfold World.var?;rw [hg,Option.bind_some];unfold World.cell? at h;split at h
  . rename_i cs T fz hh;exact ⟨cs,by rw [hh],h⟩
  . cases h
theorem VO {l:List (String×DataW Unit)} {W:World} (cj:W.ShapedOpen Tryz.prog) (hl:laidMetH Tryz.prog l W) (hf:(l.filter λ x=>x.2.handleName?.isSome)=[]) (hm:("internal/strconv.uint64pow10",Rows.laid_internal_strconv_uint64pow10)∈l) :
    uX Tryz.prog W (λ b=>b<W.heap.size):=by
  unfold laidMetH at hl;rw [hf] at hl;obtain ⟨g,t,cs,fuel,p,h1,h2,h3,h4⟩:=Lib.laidMet.reads hl hm;intro x hx g' jZ;simp only [Hw,List.mem_cons,List.mem_nil_iff,or_false] at hx;rcases hx with rfl|rfl
  . refine ⟨Ml jZ h3,cs,h3,?_⟩;obtain rfl:=Option.some.inj ((show Tryz.prog.globalNamed "internal/strconv.uint64pow10"=some 0 by kernel_rfl).symm.trans h1)
    obtain rfl:=Option.some.inj ((show (Tryz.prog.globals[0]?).map (·.type)=some 176 by kernel_rfl).symm.trans h2);have:=Lib.cells_of_tab (n:=20) (e:=159) (k:=.u64) (zs:=(List.range 20).map λ i=>((10^i:Nat):Int)) (by kernel_rfl) (by kernel_rfl) (by kernel_rfl) (by kernel_rfl) h4;rw [<- this]
  . obtain rfl:=Option.some.inj ((show Tryz.prog.globalNamed "internal/bytealg.MaxLen"=some 1 by kernel_rfl).symm.trans jZ)
    obtain ⟨m,hm⟩:=cell_of_shapedOpen_int (g:=1) (t:=3) (zero:=#[.int .i64 0]) (k:=.i64) cj (Nat.le_of_ble_eq_true (by kernel_rfl)) (by kernel_rfl) rfl (by kernel_rfl) (by kernel_rfl) (by kernel_rfl);obtain ⟨cs,k1,k2⟩:=Xh (show Tryz.prog.globalNamed "internal/bytealg.MaxLen"=some 1 by kernel_rfl) hm
    exact ⟨Ml (show Tryz.prog.globalNamed "internal/bytealg.MaxLen"=some 1 by kernel_rfl) k1,cs,k1,m,k2⟩
end Go.Proofs.YtijlnmgondibnaaGreatDoor
namespace Go.Proofs.YtijlnmgondibnaaGreatDoor
open Go.Ex
set_option maxRecDepth 100000
theorem G0 {n:Int}:r7 .i64 n↔-9223372036854775808<=n/\n<=9223372036854775807:=Iff.rfl
theorem sL:(∀p,(True/\p)=p)/\(∀p:Prop,(True->p)=p)/\(∀(p:Prop)[Decidable p],(decide p=true)=p)/\(∀(p:Prop)[Decidable p],(decide p=false)=¬p)/\(∀b:Bool,((!b)=true)=(b=false))/\(∀b:Bool,((!b)=false)=(b=true))/\(∀n:Nat,Int.toNat (n:Int)=n)/\(∀n,r7 .i64 n=(-9223372036854775808<=n/\n<=9223372036854775807))/\(∀(α:Type)(l:List α)(i:Nat)(a:α),(l.set i a).length=l.length)/\(∀(α:Type)(a:α)(l:List α),(a::l).length=l.length+1)/\(∀α:Type,([]:List α).length=0):=
  ⟨λ _=>true_and _,λ _=>true_implies _,λ _ _=>decide_eq_true_eq,λ _ _=>propext decide_eq_false_iff_not,λ _=>Bool.not_eq_true' _,λ _=>Bool.not_eq_false' _,λ _=>rfl,λ _=>propext G0,λ _ _ _ _=>List.length_set,λ _ _ _=>rfl,λ _=>rfl⟩
theorem Ub:Ty.wb d9=8:=rfl
theorem Gz:Ty.wb U8=1:=rfl
theorem yes:((true,()):Bool×Unit)=(true,()):=rfl
theorem Jl {α:Type} {l:List α} {i:Nat} (h:i<l.length) (d:α):l.drop i=l.getD i d::l.drop (i+1):=by
  rw [List.drop_eq_getElem_cons h,List.getD_eq_getElem?_getD,List.getElem?_eq_getElem h]; rfl
theorem DM {α:Type} {l:List α} {i:Nat} {d:α} (h:i<l.length):l.getD i d∈l:=by
  rw [List.getD_eq_getElem?_getD,List.getElem?_eq_getElem h]; exact List.getElem_mem h
theorem WM {α:Type} {l:List α} {x d:α} (h:x∈l):∃ i,i<l.length/\l.getD i d=x:=by
  obtain ⟨i,hi,e⟩:=List.getElem_of_mem h;exact ⟨i,hi,by rw [List.getD_eq_getElem?_getD,List.getElem?_eq_getElem hi,e]; rfl⟩
theorem Y9 {α:Type} {l:List α} {i j:Nat} {x d:α} (h:i<l.length):(l.set i x).getD j d=if j=i then x else l.getD j d:=by
  rw [List.getD_eq_getElem?_getD,List.getD_eq_getElem?_getD,List.getElem?_set];by_cases e:i=j
  . subst e; simp [h]
  . rw [if_neg e,if_neg (λ h=>e h.symm)]
theorem eq_of_getD {α:Type} {l m:List α} {d:α} (hl:l.length=m.length) (h:∀ i,i<l.length->l.getD i d=m.getD i d):l=m:=by
  refine List.ext_getElem hl (λ i h1 h2=>?_);have:=h i h1
  rwa [List.getD_eq_getElem?_getD,List.getD_eq_getElem?_getD,List.getElem?_eq_getElem h1,List.getElem?_eq_getElem h2] at this
theorem b3V {α:Type} {n i:Nat} (f:Nat->α) (x:α) (hi:i<n):((List.range n).map f).set i x=(List.range n).map (λ j=>if j=i then x else f j):=by
  refine List.ext_getElem (by simp) (λ j h1 h2=>?_);rw [List.getElem_set];simp only [List.getElem_map,List.getElem_range];by_cases e:i=j
  . rw [if_pos e,if_pos e.symm]
  . rw [if_neg e,if_neg (λ h=>e h.symm)]
def Z8 {α:Type} (p:α->Bool):List α->Nat->Int
  | [],_=>-1
  | x::l,i=>if p x=true then (i:Int) else Z8 p l (i+1)
def idxOf {α:Type} (p:α->Bool) (l:List α):Int:=Z8 p l 0
theorem Jq {α:Type} {p:α->Bool}:∀ {l:List α} {i:Nat},0<=Z8 p l i↔∃ x∈l,p x=true
  | [],i=>by simp [Z8]
  | x::l,i=>by
    rw [Z8]
    split
    . rename_i h; exact ⟨λ _=>⟨x,by simp,h⟩,λ _=>by omega⟩
    . rename_i h;rw [Jq];constructor
      . rintro ⟨y,h1,h2⟩; exact ⟨y,by simp [h1],h2⟩
      . rintro ⟨y,h1,h2⟩;rcases List.mem_cons.1 h1 with rfl|h1
        . exact absurd h2 h
        . exact ⟨y,h1,h2⟩
theorem Ic {α:Type} {p:α->Bool} {l:List α}:decide (0<=idxOf p l)=l.any p:=by
  cases e:l.any p with
  | true =>
    obtain ⟨x,h1,h2⟩:=List.any_eq_true.1 e;exact decide_eq_true (Jq.2 ⟨x,h1,h2⟩)
  | false =>
    refine decide_eq_false (λ h=>?_);obtain ⟨x,h1,h2⟩:=Jq.1 h;rw [List.any_eq_true.2 ⟨x,h1,h2⟩] at e;cases e
end Go.Proofs.YtijlnmgondibnaaGreatDoor
namespace Go.Proofs.YtijlnmgondibnaaGreatDoor
def step (r:Nat):Nat:=if r % 2=1 then (r / 2) ^^^ 2197175160 else r / 2
theorem Vo {r:Nat} (h:r<4294967296):step r<4294967296:=by
  unfold step
  split
  . exact Nat.xor_lt_two_pow (n:=32) (by omega) (by decide)
  . omega
def steps:Nat->Nat->Nat
  | 0,r=>r
  | k+1,r=>steps k (step r)
theorem IB:∀ (k:Nat) {r:Nat},r<4294967296->steps k r<4294967296
  | 0,_,h=>h
  | k+1,_,h=>IB k (Vo h)
theorem QU:∀ (a b r:Nat),steps (a+b) r=steps b (steps a r)
  | 0,b,r=>by rw [Nat.zero_add]; rfl
  | a+1,b,r=>by rw [show a+1+b=(a+b)+1 by omega]; simp only [steps]; exact QU a b _
def byt (r b:Nat):Nat:=steps 8 (r ^^^ b)
def reg (r:Nat) (s:yY):Nat:=s.foldl (λ r b=>byt r b.toNat) r
def vi (s:yY):Nat:=reg 4294967295 s ^^^ 4294967295
theorem Vj (r:Nat) (s t:yY):reg r (s++t)=reg (reg r s) t:=by simp [reg]
theorem US {r:Nat} (h:r<4294967296) (b:UInt8):byt r b.toNat<4294967296:=IB 8 (Nat.xor_lt_two_pow (n:=32) h (by have:=b.toNat_lt; omega))
theorem Mf:∀ {s:yY} {r:Nat},r<4294967296->reg r s<4294967296
  | [],_,h=>h
  | b::s,r,h=>show reg (byt r b.toNat) s<_ from Mf (US h b)
def le4 (x:Nat):yY:=[UInt8.ofNat x,UInt8.ofNat (x / 2^8),UInt8.ofNat (x / 2^16),UInt8.ofNat (x / 2^24)]
end Go.Proofs.YtijlnmgondibnaaGreatDoor
namespace Go.Proofs.YtijlnmgondibnaaGreatDoor
open Go.Ex
set_option maxRecDepth 100000
def inF (n a b:Int):Bool:=decide (a<=n) && decide (n<=b)
theorem xk {n a b:Int}:inF n a b=true↔a<=n/\n<=b:=by simp [inF]
theorem HW {α:Type} {l:List α} {i j:Int} (h0:0<=i) (h1:i<=j) (h2:j<=(l.length:Int)):n7 j (l.length:Int) l=l.drop j.toNat:=by
  rw [n7]; exact List.take_of_length_le (by rw [List.length_drop]; omega)
theorem NN {α:Type} {l:List α} {i j:Int} (h0:0<=i) (h1:i<=j) (h2:j<=(l.length:Int)):((n7 j (l.length:Int) l).length:Int)=(l.length:Int) - j/\(List.take i.toNat l++n7 j (l.length:Int) l++List.drop (i.toNat+(n7 j (l.length:Int) l).length) l).length=l.length:=by
  rw [HW h0 h1 h2];simp only [List.length_append,List.length_take,List.length_drop];omega
theorem VJ {α:Type} {l:List α} {d:List α} {i j:Int} (h0:0<=i) (h1:i<=j) (h2:j<=(l.length:Int)) {r:Nat} :
    n7 (0:Int) (i+(↑(List.length (n7 j (↑(List.length l):Int) l)):Int)) (List.take (Int.toNat ((0:Int)+(i+(↑(List.length (n7 j (↑(List.length l):Int) l)):Int) - (0:Int)))) (List.take (Int.toNat i) l++n7 j (↑(List.length l):Int) l++List.drop (Int.toNat i+List.length (n7 j (↑(List.length l):Int) l)) l)++d++List.drop r (List.take (Int.toNat i) l++n7 j (↑(List.length l):Int) l++List.drop (Int.toNat i+List.length (n7 j (↑(List.length l):Int) l)) l))=List.take i.toNat l++List.drop j.toNat l:=by
  obtain ⟨e1,e2⟩:=NN h0 h1 h2 (l:=l);rw [HW h0 h1 h2] at e1 e2 ⊢;generalize hX:List.take i.toNat l++List.drop j.toNat l++List.drop (i.toNat+(List.drop j.toNat l).length) l=X at e2 ⊢;have em:(0+(i+((List.drop j.toNat l).length:Int) - 0)).toNat=(List.take i.toNat l++List.drop j.toNat l).length:=by
    simp only [List.length_append,List.length_take]; omega
  have en:(i+((List.drop j.toNat l).length:Int) - 0).toNat=(List.take i.toNat l++List.drop j.toNat l).length:=by
    simp only [List.length_append,List.length_take]; omega
  rw [n7,em,en,Int.toNat_zero,List.drop_zero,List.append_assoc,List.take_append_of_le_length (by
    rw [List.length_take,e2];simp only [List.length_append,List.length_take,List.length_drop]; omega),List.take_take,Nat.min_self,<- hX,List.take_left]
def rest (a n:Int):Int:=if n<=0 then 0 else Int.tmod (Int.tmod a n+n) n
def Gn:o7:={ ps:=[.v d9,.v d9],rs:=[d9],pre:=λ x=>LE.le (α:=Int) x.2.1 1000000000,fn:=λ x=>(rest x.1 x.2.1,()),out:=λ _=>() }
noncomputable def Fv:Env:={ P:=Tryz.prog,tt:=tt,C5:=[],res:=[Go.ResultVar.tmp 4],rs:=[Ty.int IntKind.i64],ps:=[PK.v d9,PK.v d9],y8:=[],nt:=14 }
theorem NV:w5 Fv:=w9 p7 trivial
theorem OY:B8 Fv Tryz.f39:=⟨rfl,rfl⟩
theorem Wa (x0:Int) (x1:Int):exec Fv 1000 [.code (d8 Tryz.prog 39)] (s7 Gn.ps ((x0,x1,()))) =
  cond (decide (x1<=(0:Int))) (.ret (((0:Int),()))) (.f7 ((0:Int)<x1) (.f7 (r7 IntKind.i64 (Int.tmod x0 x1+x1)) (.f7 ((0:Int)<x1) (.ret ((Int.tmod (Int.tmod x0 x1+x1) x1,())))))):=by kernel_rfl
theorem b7H:Gn.Valid Tryz.prog 39:=by
  refine o7.n8 NV rfl rfl Tryz.func39 (c:=d8 Tryz.prog 39) rfl rfl OY rfl ?_;rintro ⟨(x0:Int),(x1:Int),⟨⟩⟩ hp -
  refine j6 (n:=1000) NV OY ?_;refine i6 (Wa x0 x1) ?_;have hp:x1<=1000000000:=hp;simp only [j5,Tree.holds,sL];refine ⟨λ a=>?_,λ a=>?_⟩
  . show ((0,()):Int×Unit)=(rest x0 x1,());rw [rest,if_pos a]
  . have h0:0<x1:=by omega
    have h1:=Int.tmod_lt_of_pos x0 h0;have h2:-x1<Int.tmod x0 x1:=by
      have:=Int.tmod_lt_of_pos (-x0) h0;rw [Int.neg_tmod] at this;omega
    refine ⟨h0,λ _=>⟨by omega,λ _=>⟨h0,λ _=>?_⟩⟩⟩;show ((_,()):Int×Unit)=(rest x0 x1,());rw [rest,if_neg a]
theorem ND {a n:Int} (h:0<n):0<=rest a n/\rest a n<n:=by
  have h1:=Int.tmod_lt_of_pos (-a) h;rw [Int.neg_tmod] at h1;rw [rest,if_neg (by omega)];exact ⟨Int.tmod_nonneg _ (by omega),Int.tmod_lt_of_pos _ h⟩
theorem VG {α:Type} {l:List α} {i:Nat}:n7 0 (i:Int) l=l.take i:=by
  rw [n7,show ((i:Int) - 0).toNat=i by omega]; rfl
end Go.Proofs.YtijlnmgondibnaaGreatDoor
namespace Go.Proofs.YtijlnmgondibnaaGreatDoor
open Go.Ex
instance {k:IntKind} {n:Int}:Decidable (r7 k n):=inferInstanceAs (Decidable (_/\_))
def bit (x:Int) (i:Nat):Bool:=x.toNat.testBit i
section
variable {k:IntKind} {x y:Int}
theorem AQ (hk:k.signed=false):r7 k x↔0<=x/\x<2^k.bits:=by
  cases k<;>simp [IntKind.signed] at hk<;>simp [r7,IntKind.min,IntKind.max,IntKind.signed,IntKind.bits]<;>omega
theorem CQ (hk:k.signed=false) (b:BitVec k.bits):k.wrap (b.toNat:Int)=(b.toNat:Int):=by
  refine S4 ((AQ hk).2 ⟨Int.natCast_nonneg _,?_⟩);have:=b.isLt
  exact_mod_cast this
theorem xX (hk:k.signed=false) (hx:r7 k x) (i:Nat):(BitVec.ofInt k.bits x).getLsbD i=bit x i:=by
  obtain ⟨h0,h1⟩:=(AQ hk).1 hx;obtain ⟨n,rfl⟩:=Int.eq_ofNat_of_zero_le h0;have hn:n<2^k.bits:=by exact_mod_cast h1
  rw [BitVec.ofInt_natCast,BitVec.getLsbD_ofNat];simp only [bit,Int.toNat_natCast];by_cases hi:i<k.bits
  . simp [hi]
  . have:n.testBit i=false:=Nat.testBit_lt_two_pow (Nat.lt_of_lt_of_le hn (Nat.pow_le_pow_right (by omega) (by omega)));simp [this]
theorem NH (hk:k.signed=false) (hx:r7 k x) {i:Nat} (hi:k.bits<=i):bit x i=false:=by
  obtain ⟨h0,h1⟩:=(AQ hk).1 hx;obtain ⟨n,rfl⟩:=Int.eq_ofNat_of_zero_le h0;have hn:n<2^k.bits:=by exact_mod_cast h1
  exact Nat.testBit_lt_two_pow (Nat.lt_of_lt_of_le hn (Nat.pow_le_pow_right (by omega) hi))
theorem NG (hk:k.signed=false) (hx:r7 k x) (hy:r7 k y) (i:Nat):bit (R0 k x y) i=(bit x i && bit y i):=by
  rw [R0,CQ hk,bit,Int.toNat_natCast,BitVec.testBit_toNat,BitVec.getLsbD_and,xX hk hx,xX hk hy]
theorem LQ (hk:k.signed=false) (hx:r7 k x) (hy:r7 k y) (i:Nat):bit (bOr k x y) i=(bit x i || bit y i):=by
  rw [bOr,CQ hk,bit,Int.toNat_natCast,BitVec.testBit_toNat,BitVec.getLsbD_or,xX hk hx,xX hk hy]
theorem VA (hk:k.signed=false) (hx:r7 k x) (hy:r7 k y) (i:Nat):bit (vu k x y) i=(bit x i ^^ bit y i):=by
  rw [vu,CQ hk,bit,Int.toNat_natCast,BitVec.testBit_toNat,BitVec.getLsbD_xor,xX hk hx,xX hk hy]
theorem RP (hk:k.signed=false) (hx:r7 k x) (hy:r7 k y) (i:Nat):bit (Q5 k x y) i=(bit x i && !bit y i):=by
  rw [Q5,CQ hk,bit,Int.toNat_natCast,BitVec.testBit_toNat,BitVec.getLsbD_and,BitVec.getLsbD_not,xX hk hx,xX hk hy];by_cases hi:i<k.bits
  . simp [hi]
  . rw [NH hk hx (by omega)]; simp
theorem Md:r7 k (R0 k x y):=S8 _ _
theorem GF:r7 k (bOr k x y):=S8 _ _
theorem Ud:r7 k (vu k x y):=S8 _ _
theorem zS:r7 k (Q5 k x y):=S8 _ _
theorem Ja (hx:0<=x) (hy:0<=y) (h:∀ i,bit x i=bit y i):x=y:=by
  have:x.toNat=y.toNat:=Nat.eq_of_testBit_eq h;omega
theorem YI (hx:0<=x):x=0↔∀ i,bit x i=false:=by
  constructor
  . rintro rfl i; simp [bit]
  . intro h; exact Ja hx (by omega) (λ i=>by rw [h i]; simp [bit])
end
theorem u8s:IntKind.u8.signed=false:=rfl
theorem u8_in {x:Int}:r7 .u8 x↔0<=x/\x<=255:=Iff.rfl
def Lt (n:Nat):Nat:=((List.range 8).map λ i=>(n.testBit i).toNat).sum
def vv (m:Int):Int:=(Lt m.toNat:Int)
theorem Vb (m:Int):vv m=((bit m 0).toNat+(bit m 1).toNat+(bit m 2).toNat+(bit m 3).toNat+(bit m 4).toNat+(bit m 5).toNat+(bit m 6).toNat+(bit m 7).toNat:Nat):=by
  simp only [vv,Lt,List.range,List.range.loop,List.map_cons,List.map_nil,List.sum_cons,List.sum_nil,bit];omega
theorem toNat_le (b:Bool):b.toNat<=1:=by cases b<;>decide
theorem Nu (m:Int):0<=vv m/\vv m<=8:=by
  rw [Vb];have:=toNat_le (bit m 0); have:=toNat_le (bit m 1); have:=toNat_le (bit m 2); have:=toNat_le (bit m 3);have:=toNat_le (bit m 4); have:=toNat_le (bit m 5); have:=toNat_le (bit m 6); have:=toNat_le (bit m 7);omega
end Go.Proofs.YtijlnmgondibnaaGreatDoor
namespace Go.Proofs.YtijlnmgondibnaaGreatDoor
open Go.Ex
set_option maxRecDepth 100000
theorem zH {n:Int}:r7 .u32 n↔0<=n/\n<=4294967295:=Iff.rfl
theorem Xc {k:IntKind} (hk:k.signed=false) {a b:Nat} (ha:r7 k a) (hb:r7 k b):vu k (a:Int) (b:Int)=((a ^^^ b:Nat):Int) :=
  Ja ((AQ hk).1 Ud).1 (Int.natCast_nonneg _) (λ i=>by rw [VA hk ha hb]; simp [bit,Nat.testBit_xor])
theorem XD {k:IntKind} (hk:k.signed=false) {a b:Nat} (ha:r7 k a) (hb:r7 k b):R0 k (a:Int) (b:Int)=((a &&& b:Nat):Int) :=
  Ja ((AQ hk).1 Md).1 (Int.natCast_nonneg _) (λ i=>by rw [NG hk ha hb]; simp [bit,Nat.testBit_and])
theorem GA {a b:Nat} (ha:a<4294967296) (hb:b<4294967296):vu .u32 (a:Int) (b:Int)=((a ^^^ b:Nat):Int):=Xc rfl (zH.2 ⟨by omega,by omega⟩) (zH.2 ⟨by omega,by omega⟩)
theorem TT {a:Nat} (ha:a<4294967296):R0 .u32 (a:Int) 1=((a % 2:Nat):Int):=by
  have:=XD (k:=.u32) rfl (a:=a) (b:=1) (zH.2 ⟨by omega,by omega⟩) (zH.2 ⟨by omega,by omega⟩);rw [Nat.and_one_is_mod] at this;exact this
def Cy:o7:={ ps:=[.v .str],rs:=[.int .u32],pre:=λ _=>True,fn:=λ x=>(((vi x.1:Nat):Int),()),out:=λ _=>() }
noncomputable def Ah:Env:={ P:=Tryz.prog,tt:=tt,C5:=[],res:=[Go.ResultVar.tmp 2],rs:=[Ty.int IntKind.u32],ps:=[PK.v Ty.str],y8:=[(3,[(0,none),(3,none),(7,none),(8,none)]),(7,[(0,none),(3,none),(7,none),(8,none),(17,none)])],nt:=31 }
theorem Dr:w5 Ah:=w9 p7 trivial
theorem Dt:B8 Ah Tryz.f63:=⟨rfl,rfl⟩
theorem Tp (x0:yY):exec Ah 1000 [.code (d8 Tryz.prog 63)] (s7 Cy.ps ((x0,()))) =
  .ctL (f8 (d8 Tryz.prog 63) 3) (St.mk [(0,AV.val Ty.str x0),(3,AV.val (Ty.int IntKind.u32) (4294967295:Int)),(7,AV.val d9 (↑(List.length x0):Int)),(8,AV.val d9 (0:Int))] []):=by kernel_rfl
def Mv (v0:yY) (v3:Int) (v7:Int) (v8:Int):St:=St.mk [(0,AV.val Ty.str v0),(3,AV.val (Ty.int IntKind.u32) v3),(7,AV.val d9 v7),(8,AV.val d9 v8)] []
theorem Ue (v0:yY) (v3:Int) (v7:Int) (v8:Int):exec Ah 1000 (.code (f8 (d8 Tryz.prog 63) 3).1::.inLoop (f8 (d8 Tryz.prog 63) 3).1::(f8 (d8 Tryz.prog 63) 3).2) (Mv v0 v3 v7 v8) =
  cond (decide (v8<v7)) (.f7 ((0:Int)<=v8/\v8<(↑(List.length v0):Int)) (.ctL (f8 (d8 Tryz.prog 63) 7) (St.mk [(0,AV.val Ty.str v0),(3,AV.val (Ty.int IntKind.u32) (vu IntKind.u32 v3 (IntKind.wrap IntKind.u32 (↑(UInt8.toNat (List.getD v0 (Int.toNat v8) (0:UInt8))):Int)))),(7,AV.val d9 v7),(8,AV.val d9 v8),(17,AV.val d9 (0:Int))] []))) (.ret ((vu IntKind.u32 (if IntKind.signed IntKind.u32=true then (-1:Int) else IntKind.max IntKind.u32) v3,()))):=by kernel_rfl
def Mw (v0:yY) (v3:Int) (v7:Int) (v8:Int) (vg:Int):St:=St.mk [(0,AV.val Ty.str v0),(3,AV.val (Ty.int IntKind.u32) v3),(7,AV.val d9 v7),(8,AV.val d9 v8),(17,AV.val d9 vg)] []
theorem Uf (v0:yY) (v3:Int) (v7:Int) (v8:Int) (vg:Int):exec Ah 1000 (.code (f8 (d8 Tryz.prog 63) 7).1::.inLoop (f8 (d8 Tryz.prog 63) 7).1::(f8 (d8 Tryz.prog 63) 7).2) (Mw v0 v3 v7 v8 vg) =
  cond (decide (vg<(8:Int))) (.f7 ((0:Int)<=(1:Int)) (cond (decide (R0 IntKind.u32 v3 (1:Int)=(1:Int))) (.f7 (r7 IntKind.i64 (vg+(1:Int))) (.ctL (f8 (d8 Tryz.prog 63) 7) (St.mk [(0,AV.val Ty.str v0),(3,AV.val (Ty.int IntKind.u32) (vu IntKind.u32 (v3 / (2:Int)^min (Int.toNat (1:Int)) (IntKind.bits IntKind.u32)) (2197175160:Int))),(7,AV.val d9 v7),(8,AV.val d9 v8),(17,AV.val d9 (vg+(1:Int)))] []))) (.f7 (r7 IntKind.i64 (vg+(1:Int))) (.ctL (f8 (d8 Tryz.prog 63) 7) (St.mk [(0,AV.val Ty.str v0),(3,AV.val (Ty.int IntKind.u32) (v3 / (2:Int)^min (Int.toNat (1:Int)) (IntKind.bits IntKind.u32))),(7,AV.val d9 v7),(8,AV.val d9 v8),(17,AV.val d9 (vg+(1:Int)))] []))))) (.f7 (r7 IntKind.i64 (v8+(1:Int))) (.ctL (f8 (d8 Tryz.prog 63) 3) (St.mk [(0,AV.val Ty.str v0),(3,AV.val (Ty.int IntKind.u32) v3),(7,AV.val d9 v7),(8,AV.val d9 (v8+(1:Int)))] []))):=by kernel_rfl
theorem b9K (k r:Nat):steps (k+1) r=step (steps k r):=by rw [QU k 1]; rfl
theorem WU {s:yY} {i:Nat} (h:i<s.length) (r:Nat):reg r (s.take (i+1))=steps 8 (reg r (s.take i) ^^^ (s.getD i 0).toNat):=by
  rw [List.take_add_one,List.getElem?_eq_getElem h,Vj,List.getD_eq_getElem?_getD,List.getElem?_eq_getElem h];rfl
theorem RI:Cy.Valid Tryz.prog 63:=by
  refine o7.n8 Dr rfl rfl Tryz.func63 (c:=d8 Tryz.prog 63) rfl rfl Dt rfl ?_;rintro ⟨(s:yY),⟨⟩⟩ - ⟨hl,-⟩;have hl:s.length<=9223372036854775807:=hl;refine j6 (n:=1000) Dr Dt ?_;refine i6 (Tp s) ?_;refine Reach.J8 Dr Dt (λ i:Nat=>Mv s ((reg 4294967295 (s.take i):Nat):Int) (s.length:Int) (i:Int)) (λ i=>i<=s.length)
    (λ i=>s.length - i) 1000 (λ i=>⟨r8 rfl,r8 rfl⟩) ?_ 0 (by omega)
  rintro i hi - ih;refine i6 (Ue ..) ?_;simp only [j5,Tree.holds,sL];have hr:=Mf (s:=s.take i) (r:=4294967295) (by decide);have hb:(s.getD i 0).toNat<256:=UInt8.toNat_lt _;refine ⟨λ a=>⟨⟨by omega,by omega⟩,λ _=>?_⟩,λ a=>?_⟩
  . have tX:reg 4294967295 (s.take i) ^^^ (s.getD i 0).toNat<4294967296:=Nat.xor_lt_two_pow (n:=32) hr (by omega);rw [show IntKind.wrap IntKind.u32 ((s.getD i 0).toNat:Int)=((s.getD i 0).toNat:Int) from S4 (zH.2 ⟨by omega,by omega⟩),GA hr (by omega)];refine Reach.J8 Dr Dt (λ j:Nat=>Mw s ((steps j (reg 4294967295 (s.take i) ^^^ (s.getD i 0).toNat):Nat):Int) (s.length:Int) (i:Int) (j:Int)) (λ j=>j<=8)
      (λ j=>8 - j) 1000 (λ i=>⟨r8 rfl,r8 rfl⟩) ?_ 0 (by omega)
    rintro j hj - ih2;refine i6 (Uf ..) ?_;have hs:=IB j tX;have hn:=b9K j (reg 4294967295 (s.take i) ^^^ (s.getD i 0).toNat);have he:steps 8 (reg 4294967295 (s.take i) ^^^ (s.getD i 0).toNat)=reg 4294967295 (s.take (i+1))\/¬ i<s.length:=by
      by_cases h:i<s.length
      . exact .inl (WU h _).symm
      . exact .inr h
    generalize hR:steps j (reg 4294967295 (s.take i) ^^^ (s.getD i 0).toNat)=r at *
    have hd:((r:Nat):Int) / 2^min (Int.toNat 1) (IntKind.bits IntKind.u32)=((r / 2:Nat):Int):=by
      show ((r:Nat):Int) / 2^1=_;omega
    rw [hd,TT hs,show (2197175160:Int)=((2197175160:Nat):Int) from rfl,GA (by omega) (by decide)];simp only [j5,Tree.holds,decide_eq_true_eq,decide_eq_false_iff_not];have hk:r7 .i64 ((j:Int)+1):=G0.2 ⟨by omega,by omega⟩;refine ⟨λ b=>⟨by decide,λ _=>⟨λ c=>⟨hk,λ _=>?_⟩,λ c=>⟨hk,λ _=>?_⟩⟩⟩,λ b=>⟨G0.2 ⟨by omega,by omega⟩,λ _=>?_⟩⟩
    . have h9:=ih2 (j+1) (by omega) (by omega);rw [hn,step,if_pos (by omega)] at h9;exact h9
    . have h9:=ih2 (j+1) (by omega) (by omega);rw [hn,step,if_neg (by omega)] at h9;exact h9
    . have sI:j=8:=by omega
      subst sI;rw [hR] at he;have h9:=ih (i+1) (by omega) (by omega);rw [<- he.resolve_right (λ h=>h (by omega))] at h9;exact h9
  . have hi:i=s.length:=by omega
    subst hi;rw [List.take_length] at hr ⊢;show (vu .u32 4294967295 ((reg 4294967295 s:Nat):Int),())=(((vi s:Nat):Int),());rw [show (4294967295:Int)=((4294967295:Nat):Int) from rfl,GA (by decide) hr,vi,Nat.xor_comm]
end Go.Proofs.YtijlnmgondibnaaGreatDoor
namespace Go.Proofs.YtijlnmgondibnaaGreatDoor
open Go.Ex
section
variable {α:Type} {p:α->Bool} {d:α}
theorem Pu:∀ {l:List α} {j:Nat},Z8 p l j≠-1->∃ k:Nat,Z8 p l j=((j+k:Nat):Int)/\k<l.length/\p (l.getD k d)=true/\∀ i,i<k->p (l.getD i d)=false
  | [],_,h=>absurd rfl h
  | y::l,j,h=>by
    by_cases hy:p y=true
    . exact ⟨0,by rw [Z8,if_pos hy]; rfl,by simp,hy,λ i hi=>by omega⟩
    . rw [Z8,if_neg hy] at h ⊢;obtain ⟨k,h1,h2,h3,h4⟩:=Pu h;refine ⟨k+1,by rw [h1]; congr 1; omega,by simp; omega,h3,λ i hi=>?_⟩;cases i with
      | zero=>simpa using hy
      | succ i=>exact h4 i (by omega)
structure Y7 (p:α->Bool) (l m:List α) (i j:Nat):Prop where
  tk:m.take i=(l.take j).filter (λ x=>!p x)
  dr:m.drop j=l.drop j
  len:m.length=l.length
  lt:i<j
  le:j<=l.length
theorem Di {l:List α} {i:Nat} (h:i<l.length) (d:α):l.take (i+1)=l.take i++[l.getD i d]:=by
  rw [List.getD_eq_getElem?_getD,List.getElem?_eq_getElem h]; simp
theorem c0p:∀ {l:List α},(∀ x∈l,p x=false)->l.filter (λ x=>!p x)=l:=λ h=>List.filter_eq_self.2 (λ x hx=>by rw [h x hx]; rfl)
theorem Y7.start (d:α) {l:List α} (h:idxOf p l≠-1):∃ k:Nat,idxOf p l=(k:Int)/\k<l.length/\Y7 p l l k (k+1):=by
  obtain ⟨k,h1,h2,h3,h4⟩:=Pu (d:=d) h;refine ⟨k,by rw [idxOf,h1]; congr 1; omega,h2,⟨?_,rfl,rfl,by omega,by omega⟩⟩;rw [Di h2 d,List.filter_append,c0p]
  . simp only [List.filter_cons,List.filter_nil,h3]; simp
  . intro x hx;obtain ⟨i,hi,rfl⟩:=WM (d:=d) hx;rw [List.length_take] at hi;have:=h4 i (by omega);rw [List.getD_eq_getElem?_getD,List.getElem?_take,if_pos (by omega),<- List.getD_eq_getElem?_getD];exact this
theorem Y7.at_ {l m:List α} {i j:Nat} (h:Y7 p l m i j) (d:α):m.getD j d=l.getD j d:=by
  have:=congrArg (λ q:List α=>q.getD 0 d) h.dr;simpa [List.getD_eq_getElem?_getD,List.getElem?_drop] using this
theorem Y7.LJ {l m:List α} {i j:Nat} (h:Y7 p l m i j):m.drop (j+1)=l.drop (j+1):=by
  rw [<- List.drop_drop,<- List.drop_drop,h.dr]
theorem Y7.wZ {l m:List α} {i j:Nat} (h:Y7 p l m i j) (hj:j<l.length) (hp:p (m.getD j d)=false):Y7 p l (m.set i (m.getD j d)) (i+1) (j+1):=by
  have hl:=h.len;have bf:=h.lt;refine ⟨?_,?_,by rw [List.length_set,hl],by omega,by omega⟩
  . rw [Di hj d,List.filter_append,<- h.tk,Di (by rw [List.length_set]; omega) d];rw [h.at_ d] at hp ⊢;congr 1
    . rw [List.take_set_of_le (Nat.le_refl i)]
    . rw [Y9 (by omega),if_pos rfl]; generalize l.getD j d=x at hp ⊢; simp [hp]
  . rw [List.drop_set_of_lt (by omega)]; exact h.LJ
theorem Y7.skip {l m:List α} {i j:Nat} (h:Y7 p l m i j) (hj:j<l.length) (hp:p (m.getD j d)=true):Y7 p l m i (j+1):=by
  refine ⟨?_,h.LJ,h.len,by have:=h.lt; omega,by omega⟩;rw [Di hj d,List.filter_append,<- h.tk];rw [h.at_ d] at hp;generalize l.getD j d=x at hp ⊢;simp [hp]
theorem Y7.fin {l m A B:List α} {i j:Nat} (h:Y7 p l m i j) (hj:j=l.length):n7 0 (i:Int) (m.take i++A++B)=l.filter (λ x=>!p x):=by
  have h1:=h.tk;rw [hj,List.take_of_length_le (Nat.le_refl _)] at h1;have hi:(m.take i).length=i:=by rw [List.length_take]; have:=h.len; have:=h.lt; omega
  rw [n7,show ((i:Int) - 0).toNat=i by omega,Int.toNat_zero,List.drop_zero,List.append_assoc,List.take_append_of_le_length (by omega),List.take_of_length_le (by omega),h1]
end
end Go.Proofs.YtijlnmgondibnaaGreatDoor
namespace Go.Proofs.YtijlnmgondibnaaGreatDoor
open Go.Ex
set_option maxRecDepth 100000
theorem Es {α:Type} {l:List α} {i:Nat} (h:i<l.length) (d:α):l.take (i+1)=l.take i++[l.getD i d]:=by
  rw [List.take_succ_eq_append_getElem h,List.getD_eq_getElem?_getD,List.getElem?_eq_getElem h]; rfl
abbrev y9:=Int×Int×Int×Int×Int×List Int×yY×Unit
def I2 (n a b:Int):Bool:=decide (a<=n) && decide (n<=b)
theorem U4 {n a b:Int}:I2 n a b=true↔a<=n/\n<=b:=by simp [I2]
def Cu:o7:={ ps:=[.v d9,.v d9,.v d9],rs:=[.bool],pre:=λ _=>True,fn:=λ x=>(I2 x.1 x.2.1 x.2.2.1,()),out:=λ _=>() }
noncomputable def ET:Env:={ P:=Tryz.prog,tt:=tt,C5:=[],res:=[Go.ResultVar.tmp 6],rs:=[Ty.bool],ps:=[PK.v d9,PK.v d9,PK.v d9],y8:=[],nt:=15 }
theorem MA:w5 ET:=w9 p7 trivial
theorem MJ:B8 ET Tryz.f80:=⟨rfl,rfl⟩
theorem Tt (x0:Int) (x1:Int) (x2:Int):exec ET 1000 [.code (d8 Tryz.prog 80)] (s7 Cu.ps ((x0,x1,x2,()))) =
  cond (decide (x1<=x0)) (.ret ((decide (x0<=x2),()))) (.ret ((false,()))):=by kernel_rfl
theorem RA:Cu.Valid Tryz.prog 80:=by
  refine o7.n8 MA rfl rfl Tryz.func80 (c:=d8 Tryz.prog 80) rfl rfl MJ rfl ?_;rintro ⟨(n:Int),(a:Int),(b:Int),⟨⟩⟩ - -
  refine j6 (n:=1000) MA MJ ?_;refine i6 (Tt n a b) ?_;simp only [j5,Tree.holds,sL];refine ⟨λ c=>?_,λ c=>?_⟩
  . show ((decide _,()):Bool×Unit)=(I2 n a b,()); rw [I2,decide_eq_true c,Bool.true_and]
  . show ((false,()):Bool×Unit)=(I2 n a b,()); rw [I2,decide_eq_false c,Bool.false_and]
def Cw:o7:={ ps:=[.v d9],rs:=[.bool],pre:=λ _=>True,fn:=λ x=>(I2 x.1 0 16777215,()),out:=λ _=>() }
noncomputable def EW:Env:={ P:=Tryz.prog,tt:=tt,C5:=[(80,Cu)],res:=[Go.ResultVar.tmp 2],rs:=[Ty.bool],ps:=[PK.v d9],y8:=[],nt:=5 }
theorem MD:w5 EW:=w9 p7 ⟨RA,trivial⟩
theorem MM:B8 EW Tryz.f79:=⟨rfl,rfl⟩
theorem Tw (x0:Int):exec EW 1000 [.code (d8 Tryz.prog 79)] (s7 Cw.ps ((x0,()))) =
  .f7 (True) (.ret ((I2 x0 (0:Int) (16777215:Int),()))):=by kernel_rfl
theorem RE:Cw.Valid Tryz.prog 79:=by
  refine o7.n8 MD rfl rfl Tryz.func79 (c:=d8 Tryz.prog 79) rfl rfl MM rfl ?_;rintro ⟨(n:Int),⟨⟩⟩ - -
  refine j6 (n:=1000) MD MM ?_;refine i6 (Tw n) ?_;exact ⟨trivial,λ _=>rfl⟩
def S7 (n:Int):Bool:=!I2 n 0 16777215
def HQ:o7:={ ps:=[.v d9,.rd (.fn 79)],rs:=[.bool],pre:=λ x=>Eq (α:=Bool) x.2.1 true,fn:=λ x=>(S7 x.1,()),out:=λ _=>() }
noncomputable def HA:Env:={ P:=Tryz.prog,tt:=tt,C5:=[(79,Cw)],res:=[Go.ResultVar.tmp 3],rs:=[Ty.bool],ps:=[PK.v d9,PK.rd (Ty.fn 79)],y8:=[],nt:=8 }
theorem Rd:w5 HA:=w9 p7 ⟨RE,trivial⟩
theorem Ri:B8 HA Tryz.f82:=⟨rfl,rfl⟩
theorem Ye (x0:Int) (x1:Bool):exec HA 1000 [.code (d8 Tryz.prog 82)] (s7 HQ.ps ((x0,x1,()))) =
  .f7 (x1=true/\True) (.ret ((!I2 x0 (0:Int) (16777215:Int),()))):=by kernel_rfl
theorem b38:HQ.Valid Tryz.prog 82:=by
  refine o7.n8 Rd rfl rfl Tryz.func82 (c:=d8 Tryz.prog 82) rfl rfl Ri rfl ?_;rintro ⟨(n:Int),(b:Bool),⟨⟩⟩ (hp:b=true) -
  refine j6 (n:=1000) Rd Ri ?_;refine i6 (Ye n b) ?_;exact ⟨⟨hp,trivial⟩,λ _=>rfl⟩
def Gc:o7:={ ps:=[.v (.d0 false d9),.C1 82 [.fn 79]],rs:=[d9],pre:=λ x=>Eq (α:=Bool) x.2.1.1 true,fn:=λ x=>(idxOf (S7) x.1,()),out:=λ _=>() }
noncomputable def CL:Env:={ P:=Tryz.prog,tt:=tt,C5:=[(82,HQ)],res:=[Go.ResultVar.tmp 4],rs:=[Ty.int IntKind.i64],ps:=[PK.v (Ty.d0 false d9),PK.C1 82 [Ty.fn 79]],y8:=[(2,[(0,none),(1,none),(7,none),(8,none)])],nt:=19 }
theorem II:w5 CL:=w9 p7 ⟨b38,trivial⟩
theorem IT:B8 CL Tryz.f95:=⟨rfl,rfl⟩
theorem Ut (x0:List Int) (x1c0:Bool):exec CL 1000 [.code (d8 Tryz.prog 95)] (s7 Gc.ps ((x0,(x1c0,()),()))) =
  .ctL (f8 (d8 Tryz.prog 95) 2) (St.mk [(0,AV.val (Ty.d0 false d9) x0),(1,AV.C1 82 (AV.cons (AV.K2 (Ty.fn 79) x1c0) AV.nil)),(7,AV.val d9 (↑(List.length x0):Int)),(8,AV.val d9 (0:Int))] []):=by kernel_rfl
def OE (v0:List Int) (Ag:Bool) (v7:Int) (v8:Int):St:=St.mk [(0,AV.val (Ty.d0 false d9) v0),(1,AV.C1 82 (AV.cons (AV.K2 (Ty.fn 79) Ag) AV.nil)),(7,AV.val d9 v7),(8,AV.val d9 v8)] []
theorem Wu (v0:List Int) (Ag:Bool) (v7:Int) (v8:Int):exec CL 1000 (.code (f8 (d8 Tryz.prog 95) 2).1::.inLoop (f8 (d8 Tryz.prog 95) 2).1::(f8 (d8 Tryz.prog 95) 2).2) (OE v0 Ag v7 v8) =
  cond (decide (v8<v7)) (.f7 ((0:Int)<=v8/\v8<(↑(List.length v0):Int)) (.f7 (Ag=true) (cond (S7 (List.getD v0 (Int.toNat v8) (0:Int))) (.ret ((v8,()))) (.f7 (r7 IntKind.i64 (v8+(1:Int))) (.ctL (f8 (d8 Tryz.prog 95) 2) (St.mk [(0,AV.val (Ty.d0 false d9) v0),(1,AV.C1 82 (AV.cons (AV.K2 (Ty.fn 79) Ag) AV.nil)),(7,AV.val d9 v7),(8,AV.val d9 (v8+(1:Int)))] [])))))) (.ret (((-1:Int),()))):=by kernel_rfl
theorem b7V:Gc.Valid Tryz.prog 95:=by
  refine o7.n8 II rfl rfl Tryz.func95 (c:=d8 Tryz.prog 95) rfl rfl IT rfl ?_;rintro ⟨(l:List (Int)),⟨(b:Bool),⟨⟩⟩,⟨⟩⟩ hp ⟨⟨hl,-⟩,-⟩;have hl:l.length<=9223372036854775807:=hl;have hp:b=true:=hp;refine j6 (n:=1000) II IT ?_;refine i6 (Ut l b) ?_;refine Reach.J8 II IT (λ i:Nat=>OE l b (l.length:Int) (i:Int)) (λ i=>i<=l.length/\idxOf (S7) l=Z8 (S7) (l.drop i) i)
    (λ i=>l.length - i) 1000 (λ _=>⟨r8 rfl,r8 rfl⟩) ?_ 0 ⟨by omega,rfl⟩
  rintro i ⟨k1,k2⟩ - ih;refine i6 (Wu ..) ?_;simp only [j5,Tree.holds,sL];refine ⟨λ h=>?_,λ h=>?_⟩
  . rw [Jl (show i<l.length by omega) 0,Z8] at k2;refine ⟨by omega,λ _=>⟨hp,λ _=>⟨λ c=>?_,λ c=>⟨by omega,λ _=>ih (i+1) ⟨by omega,?_⟩ (by omega)⟩⟩⟩⟩
    . show (((i:Int),()):Int×Unit)=(idxOf (S7) l,());rw [k2,if_pos (show (S7) (l.getD i 0)=true from c)]
    . rw [k2,if_neg (show ¬ (S7) (l.getD i 0)=true from λ h9=>Bool.noConfusion (Eq.trans (Eq.symm h9) c))]
  . rw [List.drop_eq_nil_of_le (by omega)] at k2;show (((-1:Int),()):Int×Unit)=(idxOf (S7) l,());rw [k2]; rfl
def Hm:o7:={ ps:=[.v (.d0 false d9),.C1 82 [.fn 79]],rs:=[.bool],pre:=λ x=>Eq (α:=Bool) x.2.1.1 true,fn:=λ x=>(List.any (α:=Int) x.1 (S7),()),out:=λ _=>() }
noncomputable def GY:Env:={ P:=Tryz.prog,tt:=tt,C5:=[(95,Gc)],res:=[Go.ResultVar.tmp 4],rs:=[Ty.bool],ps:=[PK.v (Ty.d0 false d9),PK.C1 82 [Ty.fn 79]],y8:=[],nt:=9 }
theorem Qa:w5 GY:=w9 p7 ⟨b7V,trivial⟩
theorem Pz:B8 GY Tryz.f81:=⟨rfl,rfl⟩
theorem WC (x0:List Int) (x1c0:Bool):exec GY 1000 [.code (d8 Tryz.prog 81)] (s7 Hm.ps ((x0,(x1c0,()),()))) =
  .f7 (x1c0=true) (.ret ((decide ((0:Int)<=idxOf S7 x0),()))):=by kernel_rfl
theorem b5H:Hm.Valid Tryz.prog 81:=by
  refine o7.n8 Qa rfl rfl Tryz.func81 (c:=d8 Tryz.prog 81) rfl rfl Pz rfl ?_;rintro ⟨(l:List (Int)),⟨(b:Bool),⟨⟩⟩,⟨⟩⟩ hp -
  refine j6 (n:=1000) Qa Pz ?_;refine i6 (WC l b) ?_;refine ⟨hp,λ _=>?_⟩;show ((decide (0<=idxOf (S7) l),()):Bool×Unit)=(l.any (S7),());rw [Ic]
def vY (n:y9):Bool:=I2 n.1 0 255 && I2 n.2.1 0 5 && I2 n.2.2.1 0 5 && I2 n.2.2.2.1 0 16777215 && I2 n.2.2.2.2.1 0 16777215
def H6 (n:y9):Int :=
  if vY n=false then 1 else if n.2.2.2.2.2.1.any S7=true then 1 else if 200<n.2.2.2.2.2.2.1.length then 2 else 0
def Dw:o7:={ ps:=[.v yW],rs:=[d9],pre:=λ _=>True,fn:=λ x=>(H6 x.1,()),out:=λ _=>() }
noncomputable def HD:Env:={ P:=Tryz.prog,tt:=tt,C5:=[(80,Cu),(79,Cw),(81,Hm)],res:=[Go.ResultVar.tmp 2],rs:=[Ty.int IntKind.i64],ps:=[PK.v (Ty.pair d9 (Ty.pair d9 (Ty.pair d9 (Ty.pair d9 (Ty.pair d9 (Ty.pair X1 (Ty.pair Ty.str Ty.unit)))))))],y8:=[],nt:=45 }
theorem Rf:w5 HD:=w9 p7 ⟨RA,RE,b5H,trivial⟩
theorem Rk:B8 HD Tryz.f65:=⟨rfl,rfl⟩
theorem Yh (aO:Int) (ab:Int) (ae:Int) (aa:Int) (bc:Int) (aU:List Int) (bg:yY):exec HD 1000 [.code (d8 Tryz.prog 65)] (s7 Dw.ps (((aO,ab,ae,aa,bc,aU,bg,()),()))) =
  .f7 (True) (cond (!I2 aO (0:Int) (255:Int)) (.ret (((1:Int),()))) (.f7 (True) (cond (!I2 ab (0:Int) (5:Int)) (.ret (((1:Int),()))) (.f7 (True) (cond (!I2 ae (0:Int) (5:Int)) (.ret (((1:Int),()))) (.f7 (true=true/\True) (cond (!I2 aa (0:Int) (16777215:Int)) (.ret (((1:Int),()))) (.f7 (true=true/\True) (cond (!I2 bc (0:Int) (16777215:Int)) (.ret (((1:Int),()))) (.f7 ((0:Int)<=(0:Int)/\(0:Int)<=(↑6:Int)/\(↑6:Int)<=(↑6:Int)) (.f7 (true=true) (cond (List.any (n7 (0:Int) (↑6:Int) aU) S7) (.ret (((1:Int),()))) (cond (decide ((200:Int)<(↑(List.length bg):Int))) (.ret (((2:Int),()))) (.ret (((0:Int),())))))))))))))))):=by kernel_rfl
theorem NL {α:Type} {l:List α} {n:Nat} (h:l.length=n):n7 0 (n:Int) l=l:=by subst h; simp [n7]
theorem SV:Dw.Valid Tryz.prog 65:=by
  refine o7.n8 Rf rfl rfl Tryz.func65 (c:=d8 Tryz.prog 65) rfl rfl Rk rfl ?_;rintro ⟨⟨(a:Int),(b:Int),(c:Int),(d:Int),(e:Int),(v:List Int),(t:yY),⟨⟩⟩,⟨⟩⟩ - ⟨⟨-,-,-,-,-,⟨hv,-⟩,-⟩,-⟩;have hv:v.length=6:=hv;refine j6 (n:=1000) Rf Rk ?_;refine i6 (Yh a b c d e v t) ?_;have hc:n7 0 6 v=v:=NL hv;have bad:vY (a,b,c,d,e,v,t,())=false->(((1:Int),()):Int×Unit)=(H6 (a,b,c,d,e,v,t,()),()):=λ h=>by rw [H6,if_pos h]
  simp only [j5,Tree.holds,hc,sL];refine ⟨λ h=>bad (by simp [vY,h]),λ h1=>⟨λ h=>bad (by simp [vY,h]),λ h2=>⟨λ h=>bad (by simp [vY,h]),λ h3=>⟨λ h=>bad (by simp [vY,h]),λ h4=>⟨λ h=>bad (by simp [vY,h]),λ h5=>⟨by omega,λ _=>⟨λ h=>?_,λ h6=>⟨λ h=>?_,λ h=>?_⟩⟩⟩⟩⟩⟩⟩⟩
  all_goals have hw:vY (a,b,c,d,e,v,t,())≠false:=by simp [vY,h1,h2,h3,h4,h5]
  . show (((1:Int),()):Int×Unit)=(H6 (a,b,c,d,e,v,t,()),());rw [H6,if_neg hw,if_pos h]
  . show (((2:Int),()):Int×Unit)=(H6 (a,b,c,d,e,v,t,()),());rw [H6,if_neg hw,if_neg (λ h9=>Bool.noConfusion (Eq.trans (Eq.symm h9) h6)),if_pos (by show 200<t.length; omega)]
  . show (((0:Int),()):Int×Unit)=(H6 (a,b,c,d,e,v,t,()),());rw [H6,if_neg hw,if_neg (λ h9=>Bool.noConfusion (Eq.trans (Eq.symm h9) h6)),if_neg (by show ¬ 200<t.length; omega)]
structure Hp (n:y9):Prop where
  kind:0<=n.1/\n.1<=255
  from_:0<=n.2.1/\n.2.1<=5
  to:0<=n.2.2.1/\n.2.2.1<=5
  view:0<=n.2.2.2.1/\n.2.2.2.1<=16777215
  seq:0<=n.2.2.2.2.1/\n.2.2.2.2.1<=16777215
  at_:∀ x∈n.2.2.2.2.2.1,0<=x/\x<=16777215
  text:n.2.2.2.2.2.2.1.length<=200
theorem JQ {n:y9} (h:H6 n=0):Hp n:=by
  unfold H6 at h;split at h
  . cases h
  split at h
  . cases h
  split at h
  . cases h
  . rename_i h1 h2 h3;have h1:vY n=true:=by cases e:vY n with|true=>rfl|false=>exact absurd e h1
    simp only [vY,Bool.and_eq_true,U4] at h1;obtain ⟨⟨⟨⟨a,b⟩,c⟩,d⟩,e⟩:=h1;refine ⟨a,b,c,d,e,λ x hx=>?_,by omega⟩;have h2:n.2.2.2.2.2.1.any S7=false:=by cases e:n.2.2.2.2.2.1.any S7 with|false=>rfl|true=>exact absurd e h2
    have:=List.any_eq_false.1 h2 x hx;rw [S7,Bool.not_eq_true,Bool.not_eq_false'] at this;exact U4.1 this
def T7 (n:Int):List Int:=[IntKind.wrap .u8 n,IntKind.wrap .u8 (n / 256),IntKind.wrap .u8 (n / 65536)]
def Dk:o7:={ ps:=[.v d9],rs:=[.d0 true (.int .u8)],pre:=λ _=>True,fn:=λ x=>(T7 x.1,()),out:=λ _=>() }
noncomputable def GI:Env:={ P:=Tryz.prog,tt:=tt,C5:=[],res:=[Go.ResultVar.tmp 2],rs:=[Ty.d0 true U8],ps:=[PK.v d9],y8:=[],nt:=12 }
theorem Qp:w5 GI:=w9 p7 trivial
theorem PO:B8 GI Tryz.f77:=⟨rfl,rfl⟩
theorem Xv (x0:Int):exec GI 1000 [.code (d8 Tryz.prog 77)] (s7 Dk.ps ((x0,()))) =
  .f7 ((0:Int)<=(8:Int)) (.f7 ((0:Int)<=(16:Int)) (.ret ((List.set (List.set (List.set [(0:Int),(0:Int),(0:Int)] (Int.toNat (↑0:Int)) (IntKind.wrap IntKind.u8 x0)) (Int.toNat (↑1:Int)) (IntKind.wrap IntKind.u8 (x0 / (2:Int)^min (Int.toNat (8:Int)) (IntKind.bits IntKind.i64)))) (Int.toNat (↑2:Int)) (IntKind.wrap IntKind.u8 (x0 / (2:Int)^min (Int.toNat (16:Int)) (IntKind.bits IntKind.i64))),())))):=by kernel_rfl
theorem SB:Dk.Valid Tryz.prog 77:=by
  refine o7.n8 Qp rfl rfl Tryz.func77 (c:=d8 Tryz.prog 77) rfl rfl PO rfl ?_;rintro ⟨(n:Int),⟨⟩⟩ - -
  refine j6 (n:=1000) Qp PO ?_;refine i6 (Xv n) ?_;exact ⟨Int.le.intro 8 rfl,λ _=>⟨Int.le.intro 16 rfl,λ _=>rfl⟩⟩
def vU (x:Nat):List Int:=(le4 x).map (λ b=>(b.toNat:Int))
theorem DU (x:Nat):(UInt8.ofNat x).toNat=x % 256:=by simp
theorem VS (x:Nat):vU x=[(x:Int) % 256,(x:Int) / 256 % 256,(x:Int) / 65536 % 256,(x:Int) / 16777216 % 256]:=by
  simp only [vU,le4,List.map_cons,List.map_nil,DU];simp only [List.cons.injEq,and_true];refine ⟨by omega,by omega,by omega,by omega⟩
theorem YC (n:Int):T7 n=[n % 256,n / 256 % 256,n / 65536 % 256]:=rfl
def CR:o7:={ ps:=[.v (.int .u32)],rs:=[.d0 true (.int .u8)],pre:=λ _=>True,fn:=λ x=>(vU (Int.toNat x.1),()),out:=λ _=>() }
noncomputable def FD:Env:={ P:=Tryz.prog,tt:=tt,C5:=[(77,Dk)],res:=[Go.ResultVar.tmp 2],rs:=[Ty.d0 true U8],ps:=[PK.v (Ty.int IntKind.u32)],y8:=[],nt:=11 }
theorem Ou:w5 FD:=w9 p7 ⟨SB,trivial⟩
theorem NX:B8 FD Tryz.f62:=⟨rfl,rfl⟩
theorem Uk (x0:Int):exec FD 1000 [.code (d8 Tryz.prog 62)] (s7 CR.ps ((x0,()))) =
  .f7 (True) (.f7 ((0:Int)<=(24:Int)) (.f7 (List.length (T7 (IntKind.wrap IntKind.i64 x0))+List.length (List.set [(0:Int)] (Int.toNat (↑0:Int)) (IntKind.wrap IntKind.u8 (x0 / (2:Int)^min (Int.toNat (24:Int)) (IntKind.bits IntKind.u32))))<=140737488355328/\(List.length (T7 (IntKind.wrap IntKind.i64 x0))+List.length (List.set [(0:Int)] (Int.toNat (↑0:Int)) (IntKind.wrap IntKind.u8 (x0 / (2:Int)^min (Int.toNat (24:Int)) (IntKind.bits IntKind.u32)))))*Ty.wb U8<=140737488355328) (.ret ((T7 (IntKind.wrap IntKind.i64 x0)++List.set [(0:Int)] (Int.toNat (↑0:Int)) (IntKind.wrap IntKind.u8 (x0 / (2:Int)^min (Int.toNat (24:Int)) (IntKind.bits IntKind.u32))),()))))):=by kernel_rfl
theorem Sa:CR.Valid Tryz.prog 62:=by
  refine o7.n8 Ou rfl rfl Tryz.func62 (c:=d8 Tryz.prog 62) rfl rfl NX rfl ?_;rintro ⟨(n:Int),⟨⟩⟩ - ⟨hr,-⟩;have hr:0<=n/\n<=4294967295:=zH.1 hr;refine j6 (n:=1000) Ou NX ?_;refine i6 (Uk n) ?_;have hw:IntKind.wrap .i64 n=n:=S4 (G0.2 ⟨by omega,by omega⟩);simp only [j5,Tree.holds,hw,Gz,YC,sL];refine ⟨by omega,λ _=>⟨by omega,λ _=>?_⟩⟩;obtain ⟨x,rfl⟩:=Int.eq_ofNat_of_zero_le hr.1;show (([(x:Int) % 256,(x:Int) / 256 % 256,(x:Int) / 65536 % 256,(x:Int) / 16777216 % 256],()):List Int×Unit)=(vU (Int.toNat (x:Int)),());rw [Int.toNat_natCast,VS]
def wO (l:List Int):yY:=l.map (λ n=>UInt8.ofNat n.toNat)
theorem JG (t:yY):wO (t.map (λ b=>(b.toNat:Int)))=t:=by
  rw [wO,List.map_map];have:((λ n:Int=>UInt8.ofNat n.toNat) ∘ λ b:UInt8=>(b.toNat:Int))=id:=by
    funext b
    simp
  rw [this,List.map_id]
theorem Eb (l m:List Int):wO (l++m)=wO l++wO m:=List.map_append
def AG (n:y9):List Int:=[IntKind.wrap .u8 n.1,IntKind.wrap .u8 n.2.1,IntKind.wrap .u8 n.2.2.1]
def X9 (n:y9):List Int:=n.2.2.2.1::n.2.2.2.2.1::n.2.2.2.2.2.1
def yr (n:y9):List Int:=AG n++(X9 n).flatMap T7++n.2.2.2.2.2.2.1.map (λ b=>(b.toNat:Int))
def vK (n:y9):yY:=wO (yr n)
def Z6 (n:y9):yY:=vK n++le4 (vi (vK n))
def T4 (n:y9):yY×Int×Unit:=if H6 n≠0 then ([],H6 n,()) else (Z6 n,0,())
def Gk:o7:={ ps:=[.v yW],rs:=[.str,d9],pre:=λ _=>True,fn:=λ x=>T4 x.1,out:=λ _=>() }
noncomputable def Au:Env:={ P:=Tryz.prog,tt:=tt,C5:=[(65,Dw),(77,Dk),(62,CR),(63,Cy)],res:=[Go.ResultVar.tmp 2,Go.ResultVar.tmp 3],rs:=[Ty.str,Ty.int IntKind.i64],ps:=[PK.v (Ty.pair d9 (Ty.pair d9 (Ty.pair d9 (Ty.pair d9 (Ty.pair d9 (Ty.pair X1 (Ty.pair Ty.str Ty.unit)))))))],y8:=[(6,[(1,none),(5,some (Ty.d0 true U8)),(30,some Is),(31,none),(32,none)])],nt:=52 }
theorem IL:w5 Au:=w9 p7 ⟨SV,SB,Sa,RI,trivial⟩
theorem IV:B8 Au Tryz.f60:=⟨rfl,rfl⟩
theorem VW (aO:Int) (ab:Int) (ae:Int) (aa:Int) (bc:Int) (aU:List Int) (bg:yY):exec Au 1000 [.code (d8 Tryz.prog 60)] (s7 Gk.ps (((aO,ab,ae,aa,bc,aU,bg,()),()))) =
  .f7 (True) (cond (decide (H6 (aO,ab,ae,aa,bc,aU,bg,())≠(0:Int))) (.ret ((Array.toList (ByteArray.data (ByteArray.mk #[])),H6 (aO,ab,ae,aa,bc,aU,bg,()),()))) (.f7 ((0:Int)<=(0:Int)/\(0:Int)<=(↑6:Int)/\(↑6:Int)<=(↑6:Int)) (.f7 (List.length (List.set (List.set [(0:Int),(0:Int)] (Int.toNat (↑0:Int)) aa) (Int.toNat (↑1:Int)) bc)+List.length (n7 (0:Int) (↑6:Int) aU)<=140737488355328/\(List.length (List.set (List.set [(0:Int),(0:Int)] (Int.toNat (↑0:Int)) aa) (Int.toNat (↑1:Int)) bc)+List.length (n7 (0:Int) (↑6:Int) aU))*Ty.wb d9<=140737488355328) (.ctL (f8 (d8 Tryz.prog 60) 6) (St.mk [(1,AV.ptr 1 []),(5,AV.at_ 1000005 []),(30,AV.at_ 1000030 []),(31,AV.val d9 (↑(List.length (List.set (List.set [(0:Int),(0:Int)] (Int.toNat (↑0:Int)) aa) (Int.toNat (↑1:Int)) bc++n7 (0:Int) (↑6:Int) aU)):Int)),(32,AV.val d9 (0:Int))] [(1,g8.var (Ty.pair d9 (Ty.pair d9 (Ty.pair d9 (Ty.pair d9 (Ty.pair d9 (Ty.pair X1 (Ty.pair Ty.str Ty.unit))))))) (aO,ab,ae,aa,bc,aU,bg,())),(1000005,g8.own (Ty.d0 true U8) (List.set (List.set (List.set [(0:Int),(0:Int),(0:Int)] (Int.toNat (↑0:Int)) (IntKind.wrap IntKind.u8 aO)) (Int.toNat (↑1:Int)) (IntKind.wrap IntKind.u8 ab)) (Int.toNat (↑2:Int)) (IntKind.wrap IntKind.u8 ae))),(1000030,g8.own Is (List.set (List.set [(0:Int),(0:Int)] (Int.toNat (↑0:Int)) aa) (Int.toNat (↑1:Int)) bc++n7 (0:Int) (↑6:Int) aU))]))))):=by kernel_rfl
def IM (v31:Int) (wa:Int) (eF:Int) (cZ:Int) (dU:Int) (cY:Int) (cy:Int) (bY:List Int) (aJ:yY) (cK:List Int) (eg:List Int):St:=St.mk [(1,AV.ptr 1 []),(5,AV.at_ 1000005 []),(30,AV.at_ 1000030 []),(31,AV.val d9 v31),(32,AV.val d9 wa)] [(1,g8.var (Ty.pair d9 (Ty.pair d9 (Ty.pair d9 (Ty.pair d9 (Ty.pair d9 (Ty.pair X1 (Ty.pair Ty.str Ty.unit))))))) (eF,cZ,dU,cY,cy,bY,aJ,())),(1000005,g8.own (Ty.d0 true U8) cK),(1000030,g8.own Is eg)]
theorem Wz (v31:Int) (wa:Int) (eF:Int) (cZ:Int) (dU:Int) (cY:Int) (cy:Int) (bY:List Int) (aJ:yY) (cK:List Int) (eg:List Int):exec Au 1000 (.code (f8 (d8 Tryz.prog 60) 6).1::.inLoop (f8 (d8 Tryz.prog 60) 6).1::(f8 (d8 Tryz.prog 60) 6).2) (IM v31 wa eF cZ dU cY cy bY aJ cK eg) =
  cond (decide (wa<v31)) (.f7 ((0:Int)<=wa/\wa<(↑(List.length eg):Int)) (.f7 (True) (.f7 (List.length cK+List.length (T7 (List.getD eg (Int.toNat wa) (0:Int)))<=140737488355328/\(List.length cK+List.length (T7 (List.getD eg (Int.toNat wa) (0:Int))))*Ty.wb U8<=140737488355328) (.f7 (r7 IntKind.i64 (wa+(1:Int))) (.ctL (f8 (d8 Tryz.prog 60) 6) (St.mk [(1,AV.ptr 1 []),(5,AV.at_ 1000005 []),(30,AV.at_ 1000030 []),(31,AV.val d9 v31),(32,AV.val d9 (wa+(1:Int)))] [(1,g8.var (Ty.pair d9 (Ty.pair d9 (Ty.pair d9 (Ty.pair d9 (Ty.pair d9 (Ty.pair X1 (Ty.pair Ty.str Ty.unit))))))) (eF,cZ,dU,cY,cy,bY,aJ,())),(1000005,g8.own (Ty.d0 true U8) (cK++T7 (List.getD eg (Int.toNat wa) (0:Int)))),(1000030,g8.own Is eg)])))))) (.f7 (List.length cK+List.length (List.map (λ b=>(↑(UInt8.toNat b):Int)) aJ)<=140737488355328/\(List.length cK+List.length (List.map (λ b=>(↑(UInt8.toNat b):Int)) aJ))*Ty.wb U8<=140737488355328) (.f7 (True) (.f7 (True) (.f7 (List.length (cK++List.map (λ b=>(↑(UInt8.toNat b):Int)) aJ)+List.length (vU (Int.toNat (↑(vi (List.map (λ n=>UInt8.ofNat (Int.toNat n)) (cK++List.map (λ b=>(↑(UInt8.toNat b):Int)) aJ))):Int)))<=140737488355328/\(List.length (cK++List.map (λ b=>(↑(UInt8.toNat b):Int)) aJ)+List.length (vU (Int.toNat (↑(vi (List.map (λ n=>UInt8.ofNat (Int.toNat n)) (cK++List.map (λ b=>(↑(UInt8.toNat b):Int)) aJ))):Int))))*Ty.wb U8<=140737488355328) (.ret ((List.map (λ n=>UInt8.ofNat (Int.toNat n)) (cK++List.map (λ b=>(↑(UInt8.toNat b):Int)) aJ++vU (Int.toNat (↑(vi (List.map (λ n=>UInt8.ofNat (Int.toNat n)) (cK++List.map (λ b=>(↑(UInt8.toNat b):Int)) aJ))):Int))),(0:Int),()))))))):=by kernel_rfl
theorem Qs (l:List Int):(l.flatMap T7).length=3*l.length:=by
  induction l with
  | nil=>rfl
  | cons x l ih=>rw [List.flatMap_cons,List.length_append,ih,T7]; simp; omega
theorem b7K:Gk.Valid Tryz.prog 60:=by
  refine o7.n8 IL rfl rfl Tryz.func60 (c:=d8 Tryz.prog 60) rfl rfl IV rfl ?_;rintro ⟨⟨(a:Int),(b:Int),(c:Int),(d:Int),(e:Int),(v:List Int),(t:yY),⟨⟩⟩,⟨⟩⟩ - ⟨⟨-,-,-,-,-,⟨hv,-⟩,-⟩,-⟩;have hv:v.length=6:=hv;obtain ⟨n,hn⟩:∃ n:y9,n=(a,b,c,d,e,v,t,()):=⟨_,rfl⟩;refine j6 (n:=1000) IL IV ?_;refine i6 (VW a b c d e v t) ?_;have hc:n7 0 6 v=v:=NL hv;have h0:List.set (List.set [(0:Int),0] (Int.toNat ((0:Nat):Int)) d) (Int.toNat ((1:Nat):Int)) e++v=X9 n:=by rw [hn]; rfl
  have uG:∀ m:List Int,List.set (List.set [(0:Int),0] (Int.toNat 0) d) (Int.toNat 1) e++m=d::e::m:=λ m=>rfl;rw [<- hn];have e6:n7 0 6 v=v:=hc;simp only [j5,Tree.holds,hc,Gz,Ub,sL];refine ⟨λ h=>?_,λ h=>⟨by omega,λ _=>⟨by omega,λ _=>?_⟩⟩⟩
  . show (([],H6 n,()):yY×Int×Unit)=T4 n;rw [T4,if_pos h]
  have aL:=JQ (n:=n) (by omega);have ht:t.length<=200:=by have:=aL.text; rw [hn] at this; exact this
  have mw:(X9 n).length=8:=by rw [hn]; show (d::e::v).length=8; simp [hv]
  suffices go:Go.Ex.Reach Au Tryz.f60 (T4 n) () (.code (f8 (d8 Tryz.prog 60) 6).1::.inLoop (f8 (d8 Tryz.prog 60) 6).1::(f8 (d8 Tryz.prog 60) 6).2) (IM ((X9 n).length:Int) ((0:Nat):Int) a b c d e v t (AG n++((X9 n).take 0).flatMap T7) (X9 n)) by
    subst hn;exact go
  refine Reach.J8 IL IV (λ i:Nat=>IM ((X9 n).length:Int) (i:Int) a b c d e v t (AG n++((X9 n).take i).flatMap T7) (X9 n)) (λ i=>i<=(X9 n).length)
    (λ i=>(X9 n).length - i) 1000 (λ _=>⟨r8 rfl,r8 rfl⟩) ?_ 0 (Nat.zero_le _)
  . rintro i k1 - ih;have k1:i<=(X9 n).length:=k1;refine i6 (Wz ..) ?_;have hl:(AG n++((X9 n).take i).flatMap T7).length=3+3*i:=by
      rw [List.length_append,Qs,List.length_take];show 3+_=_;omega
    have sw:∀ x,(T7 x).length=3:=λ _=>rfl;simp only [j5,Tree.holds,Gz,hl,sw,sL];refine ⟨λ c1=>⟨by omega,λ _=>⟨by omega,λ _=>⟨by omega,λ _=>?_⟩⟩⟩,λ c1=>?_⟩
    . have:=ih (i+1) (by show i+1<=(X9 n).length; omega) (by omega);rw [Es (show i<(X9 n).length by omega) 0,List.flatMap_append,<- List.append_assoc] at this;simp only [List.flatMap_cons,List.flatMap_nil,List.append_nil] at this;exact this
    . rw [List.take_of_length_le (by omega)] at hl ⊢;have hb:AG n++(X9 n).flatMap T7++List.map (λ b:UInt8=>(b.toNat:Int)) t=yr n:=by rw [yr,hn]
      have bR:(yr n).length=27+t.length:=by rw [<- hb,List.length_append,hl,List.length_map]; omega
      have h4:∀ x,(vU x).length=4:=λ _=>rfl;rw [hb];simp only [j5,Tree.holds,bR,h4,List.length_map,sL];refine ⟨by omega,λ _=>⟨by omega,λ _=>?_⟩⟩;show ((wO (yr n++vU (vi (wO (yr n)))),0,()):yY×Int×Unit)=T4 n;rw [T4,if_neg h,Eb,Z6,vU,JG];rfl
def vI (s:yY) (i:Nat):Int:=((s.getD i 0).toNat:Int)
def uU (s:yY) (k:Nat):Int:=vI s (3+3*k)+vI s (4+3*k)*256+vI s (5+3*k)*65536
def Gi:o7:={ ps:=[.v d9,.rd .str],rs:=[d9],pre:=λ x=>LE.le (α:=Int) 0 x.1/\LT.lt (α:=Int) (5+3*(show Int from x.1)) (List.length x.2.1),fn:=λ x=>(uU x.2.1 (Int.toNat x.1),()),out:=λ _=>() }
noncomputable def FP:Env:={ P:=Tryz.prog,tt:=tt,C5:=[],res:=[Go.ResultVar.tmp 3],rs:=[Ty.int IntKind.i64],ps:=[PK.v d9,PK.rd Ty.str],y8:=[],nt:=26 }
theorem NS:w5 FP:=w9 p7 trivial
theorem Ol:B8 FP Tryz.f64:=⟨rfl,rfl⟩
theorem Uy (x0:Int) (x1:yY):exec FP 1000 [.code (d8 Tryz.prog 64)] (s7 Gi.ps ((x0,x1,()))) =
  .f7 (r7 IntKind.i64 ((3:Int)*x0)) (.f7 (r7 IntKind.i64 ((3:Int)+(3:Int)*x0)) (.f7 ((0:Int)<=(3:Int)+(3:Int)*x0/\(3:Int)+(3:Int)*x0<(↑(List.length x1):Int)) (.f7 (r7 IntKind.i64 ((3:Int)+(3:Int)*x0+(1:Int))) (.f7 ((0:Int)<=(3:Int)+(3:Int)*x0+(1:Int)/\(3:Int)+(3:Int)*x0+(1:Int)<(↑(List.length x1):Int)) (.f7 ((0:Int)<=(8:Int)) (.f7 (r7 IntKind.i64 ((3:Int)+(3:Int)*x0+(2:Int))) (.f7 ((0:Int)<=(3:Int)+(3:Int)*x0+(2:Int)/\(3:Int)+(3:Int)*x0+(2:Int)<(↑(List.length x1):Int)) (.f7 ((0:Int)<=(16:Int)) (.ret ((bOr IntKind.i64 (bOr IntKind.i64 (IntKind.wrap IntKind.i64 (↑(UInt8.toNat (List.getD x1 (Int.toNat ((3:Int)+(3:Int)*x0)) (0:UInt8))):Int)) (IntKind.wrap IntKind.i64 (IntKind.wrap IntKind.i64 (↑(UInt8.toNat (List.getD x1 (Int.toNat ((3:Int)+(3:Int)*x0+(1:Int))) (0:UInt8))):Int)*(2:Int)^min (Int.toNat (8:Int)) (IntKind.bits IntKind.i64)))) (IntKind.wrap IntKind.i64 (IntKind.wrap IntKind.i64 (↑(UInt8.toNat (List.getD x1 (Int.toNat ((3:Int)+(3:Int)*x0+(2:Int))) (0:UInt8))):Int)*(2:Int)^min (Int.toNat (16:Int)) (IntKind.bits IntKind.i64))),()))))))))))):=by kernel_rfl
theorem Lj {x y:Nat} (hx:x<9223372036854775808) (hy:y<9223372036854775808):bOr .i64 (x:Int) (y:Int)=((x ||| y:Nat):Int):=by
  unfold bOr;have e1:(BitVec.ofInt (IntKind.bits .i64) (x:Int) ||| BitVec.ofInt (IntKind.bits .i64) (y:Int)).toNat=x ||| y:=by
    show (BitVec.ofInt 64 (x:Int) ||| BitVec.ofInt 64 (y:Int)).toNat=x ||| y
    rw [BitVec.toNat_or,BitVec.toNat_ofInt,BitVec.toNat_ofInt];congr 1<;>omega
  rw [e1];have:=Nat.or_lt_two_pow (n:=63) hx hy;exact S4 (G0.2 ⟨by omega,by omega⟩)
theorem Mu {x y k:Nat} (hx:x<2^k):x ||| (y*2^k)=x+y*2^k:=by
  rw [Nat.or_comm,<- Nat.shiftLeft_eq,<- Nat.shiftLeft_add_eq_or_of_lt hx,Nat.add_comm]
theorem b7N:Gi.Valid Tryz.prog 64:=by
  refine o7.n8 NS rfl rfl Tryz.func64 (c:=d8 Tryz.prog 64) rfl rfl Ol rfl ?_;rintro ⟨(k:Int),(s:yY),⟨⟩⟩ ⟨h0,h1⟩ ⟨-,hs,-⟩;have h0:0<=k:=h0;have h1:5+3*k<(s.length:Int):=h1;have hs:s.length<=9223372036854775807:=hs;obtain ⟨m,rfl⟩:=Int.eq_ofNat_of_zero_le h0;refine j6 (n:=1000) NS Ol ?_;refine i6 (Uy (m:Int) s) ?_;simp only [j5,Tree.holds,sL];refine ⟨by omega,λ _=>⟨by omega,λ _=>⟨by omega,λ _=>⟨by omega,λ _=>⟨by omega,λ _=>⟨Int.le.intro 8 rfl,λ _=>⟨by omega,λ _=>⟨by omega,λ _=>⟨Int.le.intro 16 rfl,λ _=>?_⟩⟩⟩⟩⟩⟩⟩⟩⟩;have e1:Int.toNat (3+3*(m:Int))=3+3*m:=by omega
  have e2:Int.toNat (3+3*(m:Int)+1)=4+3*m:=by omega
  have e3:Int.toNat (3+3*(m:Int)+2)=5+3*m:=by omega
  rw [e1,e2,e3];show ((_,()):Int×Unit)=(uU s (Int.toNat (m:Int)),());rw [Int.toNat_natCast];have a1:=(s.getD (3+3*m) 0).toNat_lt;have a2:=(s.getD (4+3*m) 0).toNat_lt;have a3:=(s.getD (5+3*m) 0).toNat_lt;unfold uU vI;generalize (s.getD (3+3*m) 0).toNat=x at *
  generalize (s.getD (4+3*m) 0).toNat=y at *
  generalize (s.getD (5+3*m) 0).toNat=z at *
  have w:∀ q:Nat,q<16777216->IntKind.wrap .i64 (q:Int)=(q:Int):=λ q hq=>S4 (G0.2 ⟨by omega,by omega⟩);have p8:(2:Int)^min (Int.toNat 8) (IntKind.bits .i64)=256:=rfl;have Ti:(2:Int)^min (Int.toNat 16) (IntKind.bits .i64)=65536:=rfl;rw [w x (by omega),w y (by omega),w z (by omega),p8,Ti,show (y:Int)*256=((y*2^8:Nat):Int) by omega,show (z:Int)*65536=((z*2^16:Nat):Int) by omega,w _ (by omega),w _ (by omega),Lj (by omega) (by omega),Mu (k:=8) (by omega),Lj (by omega) (by omega),Mu (k:=16) (by omega)];congr 1
def Y8:y9:=(0,0,0,0,0,[0,0,0,0,0,0],[],())
def parse (s:yY):y9:=(vI s 0,vI s 1,vI s 2,uU s 0,uU s 1,[uU s 2,uU s 3,uU s 4,uU s 5,uU s 6,uU s 7],s.drop 27,())
def w7 (s:yY):y9×Int×Unit :=
  if 231<s.length then (Y8,2,()) else if s.length<31 then (Y8,3,()) else if le4 (vi (s.take (s.length - 4)))≠s.drop (s.length - 4) then (Y8,5,())
  else if H6 (parse (s.take (s.length - 4)))≠0 then (Y8,H6 (parse (s.take (s.length - 4))),()) else (parse (s.take (s.length - 4)),0,())
def Gm:o7:={ ps:=[.v .str],rs:=[yW,d9],pre:=λ _=>True,fn:=λ x=>w7 x.1,out:=λ _=>() }
noncomputable def CN:Env:={ P:=Tryz.prog,tt:=tt,C5:=[(63,Cy),(62,CR),(64,Gi),(65,Dw)],res:=[Go.ResultVar.cell 2 91,Go.ResultVar.tmp 3],rs:=[Ty.pair d9 (Ty.pair d9 (Ty.pair d9 (Ty.pair d9 (Ty.pair d9 (Ty.pair X1 (Ty.pair Ty.str Ty.unit)))))),Ty.int IntKind.i64],ps:=[PK.v Ty.str],y8:=[(11,[(2,none),(6,none),(7,none),(54,none)])],nt:=72 }
theorem IN:w5 CN:=w9 p7 ⟨RI,Sa,b7N,SV,trivial⟩
theorem IW:B8 CN Tryz.f46:=⟨rfl,rfl⟩
theorem VZ (x0:yY):exec CN 1000 [.code (d8 Tryz.prog 46)] (s7 Gm.ps ((x0,()))) =
  cond (decide ((231:Int)<(↑(List.length x0):Int))) (.ret ((((0:Int),(0:Int),(0:Int),(0:Int),(0:Int),[(0:Int),(0:Int),(0:Int),(0:Int),(0:Int),(0:Int)],[],()),(2:Int),()))) (cond (decide ((↑(List.length x0):Int)<(31:Int))) (.ret ((((0:Int),(0:Int),(0:Int),(0:Int),(0:Int),[(0:Int),(0:Int),(0:Int),(0:Int),(0:Int),(0:Int)],[],()),(3:Int),()))) (.f7 (r7 IntKind.i64 ((↑(List.length x0):Int) - (4:Int))) (.f7 ((0:Int)<=(0:Int)/\(0:Int)<=(↑(List.length x0):Int) - (4:Int)/\(↑(List.length x0):Int) - (4:Int)<=(↑(List.length x0):Int)) (.f7 (r7 IntKind.i64 ((↑(List.length x0):Int) - (4:Int))) (.f7 ((0:Int)<=(↑(List.length x0):Int) - (4:Int)/\(↑(List.length x0):Int) - (4:Int)<=(↑(List.length x0):Int)/\(↑(List.length x0):Int)<=(↑(List.length x0):Int)) (.f7 (True) (.f7 (True) (cond (decide (List.map (λ n=>UInt8.ofNat (Int.toNat n)) (vU (Int.toNat (↑(vi (n7 (0:Int) ((↑(List.length x0):Int) - (4:Int)) x0)):Int)))≠n7 ((↑(List.length x0):Int) - (4:Int)) (↑(List.length x0):Int) x0)) (.ret ((((0:Int),(0:Int),(0:Int),(0:Int),(0:Int),[(0:Int),(0:Int),(0:Int),(0:Int),(0:Int),(0:Int)],[],()),(5:Int),()))) (.f7 ((0:Int)<=(0:Int)/\(0:Int)<(↑(List.length (n7 (0:Int) ((↑(List.length x0):Int) - (4:Int)) x0)):Int)) (.f7 ((0:Int)<=(1:Int)/\(1:Int)<(↑(List.length (n7 (0:Int) ((↑(List.length x0):Int) - (4:Int)) x0)):Int)) (.f7 ((0:Int)<=(2:Int)/\(2:Int)<(↑(List.length (n7 (0:Int) ((↑(List.length x0):Int) - (4:Int)) x0)):Int)) (.f7 ((0:Int)<=(0:Int)/\(5:Int)+(3:Int)*(0:Int)<(↑(List.length (n7 (0:Int) ((↑(List.length x0):Int) - (4:Int)) x0)):Int)) (.f7 ((0:Int)<=(1:Int)/\(5:Int)+(3:Int)*(1:Int)<(↑(List.length (n7 (0:Int) ((↑(List.length x0):Int) - (4:Int)) x0)):Int)) (.f7 ((0:Int)<=(27:Int)/\(27:Int)<=(↑(List.length (n7 (0:Int) ((↑(List.length x0):Int) - (4:Int)) x0)):Int)/\(↑(List.length (n7 (0:Int) ((↑(List.length x0):Int) - (4:Int)) x0)):Int)<=(↑(List.length (n7 (0:Int) ((↑(List.length x0):Int) - (4:Int)) x0)):Int)) (.ctL (f8 (d8 Tryz.prog 46) 11) (St.mk [(2,AV.ptr 2 []),(6,AV.C1 64 (AV.cons (AV.ptr 4 []) AV.nil)),(7,AV.ptr 7 []),(54,AV.val d9 (0:Int))] [(2,g8.var (Ty.pair d9 (Ty.pair d9 (Ty.pair d9 (Ty.pair d9 (Ty.pair d9 (Ty.pair X1 (Ty.pair Ty.str Ty.unit))))))) ((0:Int),(0:Int),(0:Int),(0:Int),(0:Int),[(0:Int),(0:Int),(0:Int),(0:Int),(0:Int),(0:Int)],[],())),(4,g8.var Ty.str (n7 (0:Int) ((↑(List.length x0):Int) - (4:Int)) x0)),(7,g8.var (Ty.pair d9 (Ty.pair d9 (Ty.pair d9 (Ty.pair d9 (Ty.pair d9 (Ty.pair X1 (Ty.pair Ty.str Ty.unit))))))) (IntKind.wrap IntKind.i64 (↑(UInt8.toNat (List.getD (n7 (0:Int) ((↑(List.length x0):Int) - (4:Int)) x0) (Int.toNat (0:Int)) (0:UInt8))):Int),IntKind.wrap IntKind.i64 (↑(UInt8.toNat (List.getD (n7 (0:Int) ((↑(List.length x0):Int) - (4:Int)) x0) (Int.toNat (1:Int)) (0:UInt8))):Int),IntKind.wrap IntKind.i64 (↑(UInt8.toNat (List.getD (n7 (0:Int) ((↑(List.length x0):Int) - (4:Int)) x0) (Int.toNat (2:Int)) (0:UInt8))):Int),uU (n7 (0:Int) ((↑(List.length x0):Int) - (4:Int)) x0) (Int.toNat (0:Int)),uU (n7 (0:Int) ((↑(List.length x0):Int) - (4:Int)) x0) (Int.toNat (1:Int)),[(0:Int),(0:Int),(0:Int),(0:Int),(0:Int),(0:Int)],n7 (27:Int) (↑(List.length (n7 (0:Int) ((↑(List.length x0):Int) - (4:Int)) x0)):Int) (n7 (0:Int) ((↑(List.length x0):Int) - (4:Int)) x0),()))])))))))))))))))):=by kernel_rfl
def Qo (vH:Int) (dS:Int) (cP:Int) (dR:Int) (cX:Int) (cx:Int) (bX:List Int) (bP:yY) (o4:yY) (cO:Int) (bt:Int) (cB:Int) (bT:Int) (bC:Int) (br:List Int) (bh:yY):St:=St.mk [(2,AV.ptr 2 []),(6,AV.C1 64 (AV.cons (AV.ptr 4 []) AV.nil)),(7,AV.ptr 7 []),(54,AV.val d9 vH)] [(2,g8.var (Ty.pair d9 (Ty.pair d9 (Ty.pair d9 (Ty.pair d9 (Ty.pair d9 (Ty.pair X1 (Ty.pair Ty.str Ty.unit))))))) (dS,cP,dR,cX,cx,bX,bP,())),(4,g8.var Ty.str o4),(7,g8.var (Ty.pair d9 (Ty.pair d9 (Ty.pair d9 (Ty.pair d9 (Ty.pair d9 (Ty.pair X1 (Ty.pair Ty.str Ty.unit))))))) (cO,bt,cB,bT,bC,br,bh,()))]
theorem Yf (vH:Int) (dS:Int) (cP:Int) (dR:Int) (cX:Int) (cx:Int) (bX:List Int) (bP:yY) (o4:yY) (cO:Int) (bt:Int) (cB:Int) (bT:Int) (bC:Int) (br:List Int) (bh:yY):exec CN 1000 (.code (f8 (d8 Tryz.prog 46) 11).1::.inLoop (f8 (d8 Tryz.prog 46) 11).1::(f8 (d8 Tryz.prog 46) 11).2) (Qo vH dS cP dR cX cx bX bP o4 cO bt cB bT bC br bh) =
  cond (decide (vH<(6:Int))) (.f7 (r7 IntKind.i64 ((2:Int)+vH)) (.f7 ((0:Int)<=(2:Int)+vH/\(5:Int)+(3:Int)*((2:Int)+vH)<(↑(List.length o4):Int)) (.f7 ((0:Int)<=vH/\vH<(↑6:Int)) (.f7 (r7 IntKind.i64 (vH+(1:Int))) (.ctL (f8 (d8 Tryz.prog 46) 11) (St.mk [(2,AV.ptr 2 []),(6,AV.C1 64 (AV.cons (AV.ptr 4 []) AV.nil)),(7,AV.ptr 7 []),(54,AV.val d9 (vH+(1:Int)))] [(2,g8.var (Ty.pair d9 (Ty.pair d9 (Ty.pair d9 (Ty.pair d9 (Ty.pair d9 (Ty.pair X1 (Ty.pair Ty.str Ty.unit))))))) (dS,cP,dR,cX,cx,bX,bP,())),(4,g8.var Ty.str o4),(7,g8.var (Ty.pair d9 (Ty.pair d9 (Ty.pair d9 (Ty.pair d9 (Ty.pair d9 (Ty.pair X1 (Ty.pair Ty.str Ty.unit))))))) (cO,bt,cB,bT,bC,List.set br (Int.toNat vH) (uU o4 (Int.toNat ((2:Int)+vH))),bh,()))])))))) (.f7 (True) (cond (decide (H6 (cO,bt,cB,bT,bC,br,bh,())≠(0:Int))) (.ret ((((0:Int),(0:Int),(0:Int),(0:Int),(0:Int),[(0:Int),(0:Int),(0:Int),(0:Int),(0:Int),(0:Int)],[],()),H6 (cO,bt,cB,bT,bC,br,bh,()),()))) (.ret (((cO,bt,cB,bT,bC,br,bh,()),(0:Int),()))))):=by kernel_rfl
def atL (s:yY) (i:Nat):List Int:=(List.range 6).map (λ j=>if j<i then uU s (2+j) else 0)
theorem b7I:Gm.Valid Tryz.prog 46:=by
  refine o7.n8 IN rfl rfl Tryz.func46 (c:=d8 Tryz.prog 46) rfl rfl IW rfl ?_;rintro ⟨(s:yY),⟨⟩⟩ - -
  refine j6 (n:=1000) IN IW ?_;refine i6 (VZ s) ?_;simp only [j5,Tree.holds,sL];refine ⟨λ h=>?_,λ h1=>⟨λ h=>?_,λ h2=>⟨by omega,λ _=>⟨by omega,λ _=>⟨by omega,λ _=>⟨by omega,λ _=>?_⟩⟩⟩⟩⟩⟩
  . show ((Y8,2,()):y9×Int×Unit)=w7 s;rw [w7,if_pos (by omega)]
  . show ((Y8,3,()):y9×Int×Unit)=w7 s;rw [w7,if_neg (by omega),if_pos (by omega)]
  obtain ⟨n,hn⟩:∃ n:Nat,(s.length:Int) - 4=n:=⟨s.length - 4,by omega⟩;have sn:s.length - 4=n:=by omega
  have b1:n7 0 ((s.length:Int) - 4) s=s.take n:=by rw [hn,n7]; simp
  have b2:n7 ((s.length:Int) - 4) (s.length:Int) s=s.drop n:=by rw [hn,n7,Int.toNat_natCast,List.take_of_length_le (by rw [List.length_drop]; omega)]
  have bR:(s.take n).length=n:=by rw [List.length_take]; omega
  have b3:n7 27 (n:Int) (s.take n)=(s.take n).drop 27:=by rw [n7,List.take_of_length_le (by rw [List.length_drop,bR]; show n - 27<=((n:Int) - 27).toNat; omega)]; rfl
  have b4:List.map (λ n:Int=>UInt8.ofNat n.toNat) (vU (vi (s.take n)))=le4 (vi (s.take n)):=JG _;have hR:w7 s=if le4 (vi (s.take n))≠s.drop n then (Y8,5,()) else if H6 (parse (s.take n))≠0 then (Y8,H6 (parse (s.take n)),()) else (parse (s.take n),0,()):=by
    rw [w7,if_neg (by omega),if_neg (by omega),sn]
  generalize gP:s.take n=body at *
  have w:∀ q:UInt8,IntKind.wrap .i64 (q.toNat:Int)=(q.toNat:Int):=λ q=>by have:=q.toNat_lt; exact S4 (G0.2 ⟨by omega,by omega⟩)
  simp only [j5,Tree.holds,b1,b2,b4,bR,b3,w,sL];refine ⟨λ h=>?_,λ h=>⟨by omega,λ _=>⟨by omega,λ _=>⟨by omega,λ _=>⟨by omega,λ _=>⟨by omega,λ _=>⟨by omega,λ _=>?_⟩⟩⟩⟩⟩⟩⟩
  . show ((Y8,5,()):y9×Int×Unit)=w7 s;rw [hR,if_pos h]
  rw [if_neg h] at hR;refine Reach.J8 IN IW (λ i:Nat=>Qo (i:Int) 0 0 0 0 0 [0,0,0,0,0,0] [] body (vI body 0) (vI body 1) (vI body 2) (uU body 0) (uU body 1) (atL body i) (body.drop 27)) (λ i=>i<=6)
    (λ i=>6 - i) 1000 (λ _=>⟨r8 rfl,r8 rfl⟩) ?_ 0 (Nat.zero_le _)
  rintro i k1 - ih;have k1:i<=6:=k1;refine i6 (Yf ..) ?_;simp only [j5,Tree.holds,bR,sL];refine ⟨λ c=>⟨by omega,λ _=>⟨by omega,λ _=>⟨by omega,λ _=>⟨by omega,λ _=>?_⟩⟩⟩⟩,λ c=>?_⟩
  . have hi:i<6:=by omega
    have:=ih (i+1) (by show i+1<=6; omega) (by omega);have e2:Int.toNat (2+(i:Int))=2+i:=by omega
    have:(atL body i).set i (uU body (2+i))=atL body (i+1):=by
      rw [atL,b3V _ _ hi,atL];refine List.map_congr_left (λ j hj=>?_);by_cases e:j=i
      . rw [if_pos e,if_pos (by omega),e]
      . rw [if_neg e];by_cases e2:j<i
        . rw [if_pos e2,if_pos (by omega)]
        . rw [if_neg e2,if_neg (by omega)]
    rw [e2,this]
    assumption
  . obtain rfl:i=6:=by omega
    have hp:(vI body 0,vI body 1,vI body 2,uU body 0,uU body 1,atL body 6,body.drop 27,())=parse body:=rfl;rw [hp];refine ⟨λ h=>?_,λ h=>?_⟩
    . show ((Y8,H6 (parse body),()):y9×Int×Unit)=w7 s;rw [hR,if_pos h]
    . show ((parse body,0,()):y9×Int×Unit)=w7 s;rw [hR,if_neg h]
abbrev vA:=Int×Int×Unit
def outside (m:Int):Bool:=decide (64<=m)
def half (p o:Int):Bool:=decide (vv o<2*vv (R0 .u8 p o))
def R3 (v:vA):Int:=if v.1<0\/16777215<v.1\/v.2.1=0\/64<=v.2.1 then 1 else 0
def Q7 (v:vA) (g c:Int):vA×Int×Unit :=
  if R3 v≠0 then ((0,0,()),R3 v,()) else if outside (bOr .u8 g c)=true then ((0,0,()),1,()) else if R0 .u8 g c≠0 then ((0,0,()),1,())
  else if v.1=16777215 then ((0,0,()),8,()) else if (!half (Q5 .u8 v.2.1 g) v.2.1)=true then ((0,0,()),11,()) else ((v.1+1,bOr .u8 (Q5 .u8 v.2.1 g) c,()),0,())
def DH:o7:={ ps:=[.v U8],rs:=[.bool],pre:=λ _=>True,fn:=λ x=>(outside x.1,()),out:=λ _=>() }
def Be:o7:={ ps:=[.v View],rs:=[d9],pre:=λ _=>True,fn:=λ x=>(R3 x.1,()),out:=λ _=>() }
def Gj:o7:={ ps:=[.v U8],rs:=[d9],pre:=λ _=>True,fn:=λ x=>(vv x.1,()),out:=λ _=>() }
def FZ:o7:={ ps:=[.v U8,.v U8],rs:=[.bool],pre:=λ _=>True,fn:=λ x=>(half x.1 x.2.1,()),out:=λ _=>() }
def AX:o7:={ ps:=[.v View,.v U8,.v U8],rs:=[View,d9],pre:=λ _=>True,fn:=λ x=>Q7 x.1 x.2.1 x.2.2.1,out:=λ _=>() }
noncomputable def IK:Env:={ P:=Tryz.prog,tt:=tt,C5:=[],res:=[Go.ResultVar.tmp 2],rs:=[Ty.bool],ps:=[PK.v U8],y8:=[],nt:=6 }
theorem Ss:w5 IK:=w9 p7 trivial
theorem a87:B8 IK Tryz.f71:=⟨rfl,rfl⟩
theorem Zk (x0:Int):exec IK 1000 [.code (d8 Tryz.prog 71)] (s7 DH.ps ((x0,()))) =
  .f7 ((0:Int)<=(6:Int)) (.ret ((decide (x0 / (2:Int)^min (Int.toNat (6:Int)) (IntKind.bits IntKind.u8)≠(0:Int)),()))):=by kernel_rfl
theorem Td:DH.Valid Tryz.prog 71:=by
  refine o7.n8 Ss rfl rfl Tryz.func71 (c:=d8 Tryz.prog 71) rfl rfl a87 rfl ?_;rintro ⟨(x0:Int),⟨⟩⟩ - ⟨h0,-⟩;refine j6 (n:=1000) Ss a87 ?_;refine i6 (Zk x0) ?_;refine ⟨by decide,λ _=>?_⟩;have h:0<=x0/\x0<=255:=h0;show (decide (x0 / 2^6≠0),())=(outside x0,());unfold outside;congr 1;exact decide_eq_decide.2 (by omega)
noncomputable def HC:Env:={ P:=Tryz.prog,tt:=tt,C5:=[(71,DH)],res:=[Go.ResultVar.tmp 2],rs:=[Ty.int IntKind.i64],ps:=[PK.v View],y8:=[],nt:=21 }
theorem Re:w5 HC:=w9 p7 ⟨Td,trivial⟩
theorem Rj:B8 HC Tryz.f70:=⟨rfl,rfl⟩
theorem Yg (aO:Int) (ab:Int):exec HC 1000 [.code (d8 Tryz.prog 70)] (s7 Be.ps (((aO,ab,()),()))) =
  cond (decide (aO<(0:Int))) (.ret (((1:Int),()))) (cond (decide ((16777215:Int)<aO)) (.ret (((1:Int),()))) (cond (decide (ab=(0:Int))) (.ret (((1:Int),()))) (.f7 (True) (cond (outside ab) (.ret (((1:Int),()))) (.ret (((0:Int),()))))))):=by kernel_rfl
theorem SU:Be.Valid Tryz.prog 70:=by
  refine o7.n8 Re rfl rfl Tryz.func70 (c:=d8 Tryz.prog 70) rfl rfl Rj rfl ?_;rintro ⟨⟨(x0:Int),(x1:Int),⟨⟩⟩,⟨⟩⟩ - ⟨⟨h0,h1,-⟩,-⟩;refine j6 (n:=1000) Re Rj ?_;refine i6 (Yg x0 x1) ?_;have g0:-9223372036854775808<=x0/\x0<=9223372036854775807:=h0;have g1:0<=x1/\x1<=255:=h1;simp only [j5,Tree.holds,decide_eq_true_eq,decide_eq_false_iff_not];have key:∀ r:Int,r=R3 (x0,x1,())->((r,()):DL [Ty.int .i64])=Be.fn ((x0,x1,()),()):=by rintro r rfl; rfl
  refine ⟨λ a=>key _ ?_,λ a=>⟨λ b=>key _ ?_,λ b=>⟨λ c=>key _ ?_,λ c=>⟨trivial,λ _=>⟨λ d=>key _ ?_,λ d=>key _ ?_⟩⟩⟩⟩⟩
  all_goals simp only [R3,outside,decide_eq_true_eq,decide_eq_false_iff_not] at *
  all_goals (first|rw [if_pos (by omega)]|rw [if_neg (by omega)])
noncomputable def Ft:Env:={ P:=Tryz.prog,tt:=tt,C5:=[],res:=[Go.ResultVar.tmp 2],rs:=[Ty.int IntKind.i64],ps:=[PK.v U8],y8:=[],nt:=6 }
theorem NT:w5 Ft:=w9 p7 trivial
theorem On:B8 Ft Tryz.f88:=⟨rfl,rfl⟩
theorem VV (x0:Int):exec Ft 1000 [.code (d8 Tryz.prog 88)] (s7 Gj.ps ((x0,()))) =
  .f7 ((0:Int)<=x0/\x0<(↑(List.length (Array.toList (ByteArray.data (ByteArray.mk (List.toArray (List.append (List.append ([0,1,1,2,1,2,2,3,1,2,2,3,2,3,3,4,1,2,2,3,2,3,3,4,2,3,3,4,3,4,4,5,1,2,2,3,2,3,3,4,2,3,3,4,3,4,4,5,2,3,3,4,3,4,4,5,3,4,4,5,4,5,5,6]:yY) ([1,2,2,3,2,3,3,4,2,3,3,4,3,4,4,5,2,3,3,4,3,4,4,5,3,4,4,5,4,5,5,6,2,3,3,4,3,4,4,5,3,4,4,5,4,5,5,6,3,4,4,5,4,5,5,6,4,5,5,6,5,6,6,7]:yY)) (List.append ([1,2,2,3,2,3,3,4,2,3,3,4,3,4,4,5,2,3,3,4,3,4,4,5,3,4,4,5,4,5,5,6,2,3,3,4,3,4,4,5,3,4,4,5,4,5,5,6,3,4,4,5,4,5,5,6,4,5,5,6,5,6,6,7]:yY) ([2,3,3,4,3,4,4,5,3,4,4,5,4,5,5,6,3,4,4,5,4,5,5,6,4,5,5,6,5,6,6,7,3,4,4,5,4,5,5,6,4,5,5,6,5,6,6,7,4,5,5,6,5,6,6,7,5,6,6,7,6,7,7,8]:yY)))))))):Int)) (.ret ((IntKind.wrap IntKind.i64 (↑(UInt8.toNat (List.getD (Array.toList (ByteArray.data (ByteArray.mk (List.toArray (List.append (List.append ([0,1,1,2,1,2,2,3,1,2,2,3,2,3,3,4,1,2,2,3,2,3,3,4,2,3,3,4,3,4,4,5,1,2,2,3,2,3,3,4,2,3,3,4,3,4,4,5,2,3,3,4,3,4,4,5,3,4,4,5,4,5,5,6]:yY) ([1,2,2,3,2,3,3,4,2,3,3,4,3,4,4,5,2,3,3,4,3,4,4,5,3,4,4,5,4,5,5,6,2,3,3,4,3,4,4,5,3,4,4,5,4,5,5,6,3,4,4,5,4,5,5,6,4,5,5,6,5,6,6,7]:yY)) (List.append ([1,2,2,3,2,3,3,4,2,3,3,4,3,4,4,5,2,3,3,4,3,4,4,5,3,4,4,5,4,5,5,6,2,3,3,4,3,4,4,5,3,4,4,5,4,5,5,6,3,4,4,5,4,5,5,6,4,5,5,6,5,6,6,7]:yY) ([2,3,3,4,3,4,4,5,3,4,4,5,4,5,5,6,3,4,4,5,4,5,5,6,4,5,5,6,5,6,6,7,3,4,4,5,4,5,5,6,4,5,5,6,5,6,6,7,4,5,5,6,5,6,6,7,5,6,6,7,6,7,7,8]:yY))))))) (Int.toNat x0) (0:UInt8))):Int),()))):=by kernel_rfl
theorem b7M:Gj.Valid Tryz.prog 88:=by
  refine o7.n8 NT rfl rfl Tryz.func88 (c:=d8 Tryz.prog 88) rfl rfl On rfl ?_;rintro ⟨(x0:Int),⟨⟩⟩ - ⟨h0,-⟩;refine j6 (n:=1000) NT On ?_;refine i6 (VV x0) ?_;have g0:0<=x0/\x0<=255:=h0;obtain ⟨n,rfl⟩:∃ n:Fin 256,x0=((n.val:Nat):Int):=⟨⟨x0.toNat,by omega⟩,by simp; omega⟩;refine ⟨?_,λ _=>?_⟩
  . clear h0 g0; revert n; decide +kernel
  . show ((_,()):Int×Unit)=(vv n,());clear h0 g0; revert n; decide +kernel
noncomputable def FK:Env:={ P:=Tryz.prog,tt:=tt,C5:=[(88,Gj)],res:=[Go.ResultVar.tmp 4],rs:=[Ty.bool],ps:=[PK.v U8,PK.v U8],y8:=[],nt:=13 }
theorem OC:w5 FK:=w9 p7 ⟨b7M,trivial⟩
theorem Oe:B8 FK Tryz.f72:=⟨rfl,rfl⟩
theorem Ur (x0:Int) (x1:Int):exec FK 1000 [.code (d8 Tryz.prog 72)] (s7 FZ.ps ((x0,x1,()))) =
  .f7 (True) (.f7 (r7 IntKind.i64 ((2:Int)*vv (R0 IntKind.u8 x0 x1))) (.f7 (True) (.ret ((decide (vv x1<(2:Int)*vv (R0 IntKind.u8 x0 x1)),()))))):=by kernel_rfl
theorem b7Z:FZ.Valid Tryz.prog 72:=by
  refine o7.n8 OC rfl rfl Tryz.func72 (c:=d8 Tryz.prog 72) rfl rfl Oe rfl ?_;rintro ⟨(x0:Int),(x1:Int),⟨⟩⟩ - ⟨h0,h1,-⟩;refine j6 (n:=1000) OC Oe ?_;refine i6 (Ur x0 x1) ?_;have hb:∀ a b:Int,0<=vv (R0 .u8 a b)/\vv (R0 .u8 a b)<=8:=λ a b=>Nu _;refine ⟨trivial,λ _=>⟨?_,λ _=>⟨trivial,λ _=>rfl⟩⟩⟩;have:=hb x0 x1;show -9223372036854775808<=_/\_<=9223372036854775807;omega
theorem b9D {v:vA} (h:R3 v=0):0<=v.1/\v.1<=16777215/\v.2.1≠0/\v.2.1<64:=by
  unfold R3 at h;split at h
  . cases h
  . omega
noncomputable def GH:Env:={ P:=Tryz.prog,tt:=tt,C5:=[(71,DH),(70,Be),(72,FZ)],res:=[Go.ResultVar.cell 6 57,Go.ResultVar.tmp 7],rs:=[Ty.pair d9 (Ty.pair U8 Ty.unit),Ty.int IntKind.i64],ps:=[PK.v View,PK.v U8,PK.v U8],y8:=[],nt:=52 }
theorem Qn:w5 GH:=w9 p7 ⟨Td,SU,b7Z,trivial⟩
theorem PN:B8 GH Tryz.f53:=⟨rfl,rfl⟩
theorem Wy (aO:Int) (ab:Int) (x1:Int) (x2:Int):exec GH 1000 [.code (d8 Tryz.prog 53)] (s7 AX.ps (((aO,ab,()),x1,x2,()))) =
  .f7 (True) (cond (decide (R3 (aO,ab,())≠(0:Int))) (.ret ((((0:Int),(0:Int),()),R3 (aO,ab,()),()))) (.f7 (True) (cond (outside (bOr IntKind.u8 x1 x2)) (.ret ((((0:Int),(0:Int),()),(1:Int),()))) (cond (decide (R0 IntKind.u8 x1 x2≠(0:Int))) (.ret ((((0:Int),(0:Int),()),(1:Int),()))) (cond (decide (aO=(16777215:Int))) (.ret ((((0:Int),(0:Int),()),(8:Int),()))) (.f7 (True) (cond (!half (Q5 IntKind.u8 ab x1) ab) (.ret ((((0:Int),(0:Int),()),(11:Int),()))) (.f7 (r7 IntKind.i64 (aO+(1:Int))) (.ret (((aO+(1:Int),bOr IntKind.u8 (Q5 IntKind.u8 ab x1) x2,()),(0:Int),()))))))))))):=by kernel_rfl
theorem SA:AX.Valid Tryz.prog 53:=by
  refine o7.n8 Qn rfl rfl Tryz.func53 (c:=d8 Tryz.prog 53) rfl rfl PN rfl ?_;rintro ⟨⟨(x0:Int),(x1:Int),⟨⟩⟩,(g:Int),(c:Int),⟨⟩⟩ - ⟨⟨h0,h1,-⟩,h2,h3,-⟩;refine j6 (n:=1000) Qn PN ?_;refine i6 (Wy x0 x1 g c) ?_;have g0:-9223372036854775808<=x0/\x0<=9223372036854775807:=h0;have key:∀ r:vA×Int×Unit,Q7 (x0,x1,()) g c=r->((r:DL [View,.int .i64])=AX.fn ((x0,x1,()),g,c,())):=by rintro r rfl; rfl
  simp only [j5,Tree.holds,decide_eq_true_eq,decide_eq_false_iff_not];refine ⟨trivial,λ _=>⟨λ a=>key _ ?_,λ a=>⟨trivial,λ _=>⟨λ b=>key _ ?_,λ b=>⟨λ d=>key _ ?_,λ d=>⟨λ e=>key _ ?_,λ e=>⟨trivial,λ _=>⟨λ f=>key _ ?_,λ f=>⟨⟨?_,?_⟩,λ _=>key _ ?_⟩⟩⟩⟩⟩⟩⟩⟩⟩
  . rw [Q7,if_pos a]; rfl
  . rw [Q7,if_neg a,if_pos b]; rfl
  . rw [Q7,if_neg a,if_neg (by simpa using b),if_pos d]; rfl
  . rw [Q7,if_neg a,if_neg (by simpa using b),if_neg d,if_pos e]; rfl
  . rw [Q7,if_neg a,if_neg (by simpa using b),if_neg d,if_neg e,if_pos f]; rfl
  . show -9223372036854775808<=_; omega
  . have:=(b9D (v:=(x0,x1,())) (by simpa using a)).2.1;show x0+1<=9223372036854775807; simp only at this; omega
  . rw [Q7,if_neg a,if_neg (by simpa using b),if_neg d,if_neg e,if_neg (by simpa using f)]; rfl
def R6 (f:Nat->Int):Nat->Int
  | 0=>0
  | k+1=>if R6 f k≠0 then R6 f k else f k
theorem Sk {f:Nat->Int} {k:Nat} (h0:R6 f k=0) (h1:f k≠0):∀ {n:Nat},k<n->R6 f n=f k
  | 0,h=>by omega
  | n+1,h=>by
    by_cases e:k=n
    . subst e; simp [R6,h0]
    . have:=Sk h0 h1 (n:=n) (by omega);simp [R6,this,h1]
theorem Sj {f:Nat->Int} {k:Nat} (h0:R6 f k=0) (h1:f k=0):R6 f (k+1)=0:=by simp [R6,h0,h1]
theorem EI {f:Nat->Int}:∀ {n:Nat},R6 f n=0↔∀ k,k<n->f k=0
  | 0=>by simp [R6]
  | n+1=>by
    constructor
    . intro h k hk;have h2:R6 f n=0:=by
        by_cases e:R6 f n=0
        . exact e
        . rw [R6,if_pos e] at h; exact absurd h e
      by_cases e:k=n
      . subst e; simpa [R6,h2] using h
      . exact EI.1 h2 k (by omega)
    . intro h;exact Sj (EI.2 (λ k hk=>h k (by omega))) (h n (by omega))
abbrev s9:=Int×yY×Unit
abbrev vy:=Int×List yY×Unit
abbrev ToD:=Int×List s9×Unit
def Ai:o7:={ ps:=[.v d9,.v d9,.v d9],rs:=[.bool],pre:=λ _=>True,fn:=λ x=>(inF x.1 x.2.1 x.2.2.1,()),out:=λ _=>() }
noncomputable def EV:Env:={ P:=Tryz.prog,tt:=tt,C5:=[],res:=[Go.ResultVar.tmp 6],rs:=[Ty.bool],ps:=[PK.v d9,PK.v d9,PK.v d9],y8:=[],nt:=15 }
theorem MC:w5 EV:=w9 p7 trivial
theorem ML:B8 EV Tryz.f75:=⟨rfl,rfl⟩
theorem Tv (x0:Int) (x1:Int) (x2:Int):exec EV 1000 [.code (d8 Tryz.prog 75)] (s7 Ai.ps ((x0,x1,x2,()))) =
  cond (decide (x1<=x0)) (.ret ((decide (x0<=x2),()))) (.ret ((false,()))):=by kernel_rfl
theorem JK:Ai.Valid Tryz.prog 75:=by
  refine o7.n8 MC rfl rfl Tryz.func75 (c:=d8 Tryz.prog 75) rfl rfl ML rfl ?_;rintro ⟨(a:Int),(b:Int),(c:Int),⟨⟩⟩ - -
  refine j6 (n:=1000) MC ML ?_;refine i6 (Tv a b c) ?_;simp only [j5,Tree.holds,sL]
  repeat' first|exact trivial|(refine And.intro ?_ ?_)|(intro _)
  all_goals (show ((_,()):Bool×Unit)=(inF a b c,()); simp [inF, *])
def D9 (s:yY):Bool:=decide ((200:Int)<s.length)
def zF:o7:={ ps:=[.v .str],rs:=[.bool],pre:=λ _=>True,fn:=λ x=>(D9 x.1,()),out:=λ _=>() }
noncomputable def GG:Env:={ P:=Tryz.prog,tt:=tt,C5:=[],res:=[Go.ResultVar.tmp 2],rs:=[Ty.bool],ps:=[PK.v Ty.str],y8:=[],nt:=6 }
theorem Qm:w5 GG:=w9 p7 trivial
theorem PM:B8 GG Tryz.f59:=⟨rfl,rfl⟩
theorem Ww (x0:yY):exec GG 1000 [.code (d8 Tryz.prog 59)] (s7 zF.ps ((x0,()))) =
  .ret ((decide ((200:Int)<(↑(List.length x0):Int)),())):=by kernel_rfl
theorem EN:zF.Valid Tryz.prog 59:=by
  refine o7.n8 Qm rfl rfl Tryz.func59 (c:=d8 Tryz.prog 59) rfl rfl PM rfl ?_;rintro ⟨(s:yY),⟨⟩⟩ - -
  refine j6 (n:=1000) Qm PM ?_;refine i6 (Ww s) ?_;rfl
def Gd:o7:={ ps:=[.v (.d0 false .str),.C1 59 []],rs:=[d9],pre:=λ x=>True,fn:=λ x=>(idxOf (D9) x.1,()),out:=λ _=>() }
noncomputable def CM:Env:={ P:=Tryz.prog,tt:=tt,C5:=[(59,zF)],res:=[Go.ResultVar.tmp 4],rs:=[Ty.int IntKind.i64],ps:=[PK.v (Ty.d0 false Ty.str),PK.C1 59 []],y8:=[(2,[(0,none),(1,none),(7,none),(8,none)])],nt:=19 }
theorem IJ:w5 CM:=w9 p7 ⟨EN,trivial⟩
theorem IU:B8 CM Tryz.f94:=⟨rfl,rfl⟩
theorem Uu (x0:List yY):exec CM 1000 [.code (d8 Tryz.prog 94)] (s7 Gd.ps ((x0,(),()))) =
  .ctL (f8 (d8 Tryz.prog 94) 2) (St.mk [(0,AV.val (Ty.d0 false Ty.str) x0),(1,AV.C1 59 AV.nil),(7,AV.val d9 (↑(List.length x0):Int)),(8,AV.val d9 (0:Int))] []):=by kernel_rfl
def OF (v0:List yY) (v7:Int) (v8:Int):St:=St.mk [(0,AV.val (Ty.d0 false Ty.str) v0),(1,AV.C1 59 AV.nil),(7,AV.val d9 v7),(8,AV.val d9 v8)] []
theorem Wv (v0:List yY) (v7:Int) (v8:Int):exec CM 1000 (.code (f8 (d8 Tryz.prog 94) 2).1::.inLoop (f8 (d8 Tryz.prog 94) 2).1::(f8 (d8 Tryz.prog 94) 2).2) (OF v0 v7 v8) =
  cond (decide (v8<v7)) (.f7 ((0:Int)<=v8/\v8<(↑(List.length v0):Int)) (.f7 (True) (cond (D9 (List.getD v0 (Int.toNat v8) [])) (.ret ((v8,()))) (.f7 (r7 IntKind.i64 (v8+(1:Int))) (.ctL (f8 (d8 Tryz.prog 94) 2) (St.mk [(0,AV.val (Ty.d0 false Ty.str) v0),(1,AV.C1 59 AV.nil),(7,AV.val d9 v7),(8,AV.val d9 (v8+(1:Int)))] [])))))) (.ret (((-1:Int),()))):=by kernel_rfl
theorem b7U:Gd.Valid Tryz.prog 94:=by
  refine o7.n8 IJ rfl rfl Tryz.func94 (c:=d8 Tryz.prog 94) rfl rfl IU rfl ?_;rintro ⟨(l:List yY),⟨⟩,⟨⟩⟩ - ⟨⟨hl,-⟩,-⟩;have hl:l.length<=9223372036854775807:=hl;refine j6 (n:=1000) IJ IU ?_;refine i6 (Uu l ) ?_;refine Reach.J8 IJ IU (λ i:Nat=>OF l  (l.length:Int) (i:Int)) (λ i=>i<=l.length/\idxOf (D9) l=Z8 (D9) (l.drop i) i)
    (λ i=>l.length - i) 1000 (λ _=>⟨r8 rfl,r8 rfl⟩) ?_ 0 ⟨by omega,rfl⟩
  rintro i ⟨k1,k2⟩ - ih;refine i6 (Wv ..) ?_;simp only [j5,Tree.holds,sL];refine ⟨λ h=>?_,λ h=>?_⟩
  . rw [Jl (show i<l.length by omega) [],Z8] at k2;refine ⟨by omega,λ _=>⟨λ c=>?_,λ c=>⟨by omega,λ _=>ih (i+1) ⟨by omega,?_⟩ (by omega)⟩⟩⟩
    . show (((i:Int),()):Int×Unit)=(idxOf (D9) l,());rw [k2,if_pos (show (D9) (l.getD i [])=true from c)]
    . rw [k2,if_neg (show ¬ (D9) (l.getD i [])=true from λ h9=>Bool.noConfusion (Eq.trans (Eq.symm h9) c))]
  . rw [List.drop_eq_nil_of_le (by omega)] at k2;show (((-1:Int),()):Int×Unit)=(idxOf (D9) l,());rw [k2]; rfl
def Hn:o7:={ ps:=[.v (.d0 false .str),.C1 59 []],rs:=[.bool],pre:=λ x=>True,fn:=λ x=>(List.any (α:=yY) x.1 (D9),()),out:=λ _=>() }
noncomputable def GZ:Env:={ P:=Tryz.prog,tt:=tt,C5:=[(94,Gd)],res:=[Go.ResultVar.tmp 4],rs:=[Ty.bool],ps:=[PK.v (Ty.d0 false Ty.str),PK.C1 59 []],y8:=[],nt:=9 }
theorem Qb:w5 GZ:=w9 p7 ⟨b7U,trivial⟩
theorem PA:B8 GZ Tryz.f76:=⟨rfl,rfl⟩
theorem WD (x0:List yY):exec GZ 1000 [.code (d8 Tryz.prog 76)] (s7 Hn.ps ((x0,(),()))) =
  .f7 (True) (.ret ((decide ((0:Int)<=idxOf D9 x0),()))):=by kernel_rfl
theorem b5F:Hn.Valid Tryz.prog 76:=by
  refine o7.n8 Qb rfl rfl Tryz.func76 (c:=d8 Tryz.prog 76) rfl rfl PA rfl ?_;rintro ⟨(l:List yY),⟨⟩,⟨⟩⟩ - -
  refine j6 (n:=1000) Qb PA ?_;refine i6 (WD l ) ?_;refine ⟨trivial,λ _=>?_⟩;show ((decide (0<=idxOf (D9) l),()):Bool×Unit)=(l.any (D9),());rw [Ic]
theorem Tl:Ty.wb .str=16:=rfl
def Cx:o7:={ ps:=[.v (.d0 false .str)],rs:=[.d0 true .str],pre:=λ x=>List.length (α:=yY) x.1<=1048576,fn:=λ x=>x,out:=λ _=>() }
noncomputable def EX:Env:={ P:=Tryz.prog,tt:=tt,C5:=[],res:=[Go.ResultVar.tmp 2],rs:=[Ty.d0 true Ty.str],ps:=[PK.v (Ty.d0 false Ty.str)],y8:=[],nt:=8 }
theorem ME:w5 EX:=w9 p7 trivial
theorem MN:B8 EX Tryz.f32:=⟨rfl,rfl⟩
theorem Tz (x0:List yY):exec EX 1000 [.code (d8 Tryz.prog 32)] (s7 Cx.ps ((x0,()))) =
  .both (x0=[]) (.ret (([],()))) (.f7 ((0:Nat)+List.length x0<=140737488355328/\((0:Nat)+List.length x0)*Ty.wb Ty.str<=140737488355328) (.ret (([]++x0,())))):=by kernel_rfl
theorem RH:Cx.Valid Tryz.prog 32:=by
  refine o7.n8 ME rfl rfl Tryz.func32 (c:=d8 Tryz.prog 32) rfl rfl MN rfl ?_;rintro ⟨(l:List yY),⟨⟩⟩ hp -
  have hp:l.length<=1048576:=hp;refine j6 (n:=1000) ME MN ?_;refine i6 (Tz l) ?_;simp only [j5,Tree.holds,Tl,sL];refine ⟨λ h=>?_,by omega,λ _=>rfl⟩;show (([],()):List yY×Unit)=(l,());rw [show l=[] from h]
def f00:vy:=(0,[],())
def H7 (s:vy):Int:=if inF s.1 0 16777215=false then 1 else if (16:Int)<s.2.1.length then 1 else if s.2.1.any D9=true then 2 else 0
def AW:o7:={ ps:=[.v P0],rs:=[d9],pre:=λ _=>True,fn:=λ x=>(H7 x.1,()),out:=λ _=>() }
noncomputable def GL:Env:={ P:=Tryz.prog,tt:=tt,C5:=[(75,Ai),(76,Hn)],res:=[Go.ResultVar.tmp 2],rs:=[Ty.int IntKind.i64],ps:=[PK.v P0],y8:=[],nt:=18 }
theorem Qd:w5 GL:=w9 p7 ⟨JK,b5F,trivial⟩
theorem PC:B8 GL Tryz.f58:=⟨rfl,rfl⟩
theorem Wh (aO:Int) (ab:List yY):exec GL 1000 [.code (d8 Tryz.prog 58)] (s7 AW.ps (((aO,ab,()),()))) =
  .f7 (True) (cond (!inF aO (0:Int) (16777215:Int)) (.ret (((1:Int),()))) (cond (decide ((16:Int)<(↑(List.length ab):Int))) (.ret (((1:Int),()))) (.f7 (True) (cond (List.any ab D9) (.ret (((2:Int),()))) (.ret (((0:Int),()))))))):=by kernel_rfl
theorem lnf {b:Bool} (h:b=true):¬ b=false:=by rw [h]; simp
theorem KH:AW.Valid Tryz.prog 58:=by
  refine o7.n8 Qd rfl rfl Tryz.func58 (c:=d8 Tryz.prog 58) rfl rfl PC rfl ?_;rintro ⟨⟨(b:Int),(l:List yY),⟨⟩⟩,⟨⟩⟩ - -
  refine j6 (n:=1000) Qd PC ?_;refine i6 (Wh b l) ?_;have key:∀ {x:Int},H7 (b,l,())=x->((x,()):Int×Unit)=(H7 (b,l,()),()):=by rintro x rfl; rfl
  have hd:H7 (b,l,())=if inF b 0 16777215=false then 1 else if (16:Int)<l.length then 1 else if l.any D9=true then 2 else 0:=rfl
  simp only [j5,Tree.holds,sL];refine ⟨λ a=>key (by rw [hd,if_pos a]),λ a=>⟨λ c=>key (by rw [hd,if_neg (lnf a),if_pos c]),λ c=>⟨λ d=>key (by rw [hd,if_neg (lnf a),if_neg c,if_pos d]),λ d=>key (by rw [hd,if_neg (lnf a),if_neg c,if_neg (by rw [d]; simp)])⟩⟩⟩
theorem xr {s:vy} (h:H7 s=0):(0<=s.1/\s.1<=16777215)/\s.2.1.length<=16/\s.2.1.any D9=false:=by
  unfold H7 at h;split at h
  . cases h
  rename_i c1;split at h
  . cases h
  rename_i c2;split at h
  . cases h
  rename_i c3;exact ⟨xk.1 (Bool.not_eq_false _▸c1),by omega,by simpa using c3⟩
def P7 (s:vy) (x:yY):vy×Int×Unit :=
  if H7 s≠0 then (f00,H7 s,()) else if D9 x=true then (f00,2,()) else if (s.2.1.length:Int)=16\/16777215<=s.1+s.2.1.length then (f00,8,()) else ((s.1,s.2.1++[x],()),0,())
def Gg:o7:={ ps:=[.v P0,.v .str],rs:=[Lp,d9],pre:=λ _=>True,fn:=λ x=>P7 x.1 x.2.1,out:=λ _=>() }
noncomputable def FN:Env:={ P:=Tryz.prog,tt:=tt,C5:=[(58,AW),(59,zF),(32,Cx)],res:=[Go.ResultVar.cell 4 78,Go.ResultVar.tmp 5],rs:=[Ty.pair d9 (Ty.pair (Ty.d0 true Ty.str) Ty.unit),Ty.int IntKind.i64],ps:=[PK.v P0,PK.v Ty.str],y8:=[],nt:=41 }
theorem NR:w5 FN:=w9 p7 ⟨KH,EN,RH,trivial⟩
theorem Oj:B8 FN Tryz.f42:=⟨rfl,rfl⟩
theorem Ux (aO:Int) (ab:List yY) (x1:yY):exec FN 1000 [.code (d8 Tryz.prog 42)] (s7 Gg.ps (((aO,ab,()),x1,()))) =
  .f7 (True) (cond (decide (H7 (aO,ab,())≠(0:Int))) (.ret ((((0:Int),[],()),H7 (aO,ab,()),()))) (.f7 (True) (cond (D9 x1) (.ret ((((0:Int),[],()),(2:Int),()))) (cond (decide ((↑(List.length ab):Int)=(16:Int))) (.ret ((((0:Int),[],()),(8:Int),()))) (.f7 (r7 IntKind.i64 (aO+(↑(List.length ab):Int))) (cond (decide ((16777215:Int)<=aO+(↑(List.length ab):Int))) (.ret ((((0:Int),[],()),(8:Int),()))) (.f7 (List.length ab<=1048576) (.f7 (List.length ab+List.length (List.set [[]] (Int.toNat (↑0:Int)) x1)<=140737488355328/\(List.length ab+List.length (List.set [[]] (Int.toNat (↑0:Int)) x1))*Ty.wb Ty.str<=140737488355328) (.ret (((aO,ab++List.set [[]] (Int.toNat (↑0:Int)) x1,()),(0:Int),()))))))))))):=by kernel_rfl
theorem b7P:Gg.Valid Tryz.prog 42:=by
  refine o7.n8 NR rfl rfl Tryz.func42 (c:=d8 Tryz.prog 42) rfl rfl Oj rfl ?_;rintro ⟨⟨(b:Int),(l:List yY),⟨⟩⟩,(x:yY),⟨⟩⟩ - -
  refine j6 (n:=1000) NR Oj ?_;refine i6 (Ux b l x) ?_;have key:∀ {y:vy×Int×Unit},P7 (b,l,()) x=y->y=P7 (b,l,()) x:=λ h=>h.symm;have hd:P7 (b,l,()) x=if H7 (b,l,())≠0 then (f00,H7 (b,l,()),()) else if D9 x=true then (f00,2,()) else if (l.length:Int)=16\/16777215<=b+l.length then (f00,8,()) else ((b,l++[x],()),0,()):=rfl
  have hw:Ty.wb .str=16:=rfl;simp only [j5,Tree.holds,hw,sL];refine ⟨λ a=>key (by rw [hd,if_pos a]<;>rfl),λ a=>?_⟩;have aL:=xr (Decidable.not_not.1 a);simp only at aL;rw [if_neg a] at hd;refine ⟨λ c=>key (by rw [hd,if_pos c]<;>rfl),λ c=>?_⟩;rw [if_neg (by rw [c]; simp)] at hd;refine ⟨λ d=>key (by rw [hd,if_pos (.inl d)]<;>rfl),λ d=>⟨by omega,λ _=>⟨λ e=>key (by rw [hd,if_pos (.inr e)]<;>rfl),λ e=>⟨by omega,λ _=>⟨⟨by omega,by omega⟩,λ _=>key ?_⟩⟩⟩⟩⟩;rw [hd,if_neg (by rintro (h|h); exact d h; exact e h)]; rfl
def ahd (b x:Int):Int:=if x - b<0 then 0 else x - b
def Q4 (s:vy) (x:Int):vy×Int×Unit :=
  if H7 s≠0 then (f00,H7 s,()) else if s.1+s.2.1.length<x then (f00,1,()) else ((s.1+ahd s.1 x,s.2.1.drop (ahd s.1 x).toNat,()),0,())
def HO:o7:={ ps:=[.v P0,.v d9],rs:=[Lp,d9],pre:=λ x=>LE.le (α:=Int) 0 x.2.1,fn:=λ x=>Q4 x.1 x.2.1,out:=λ _=>() }
noncomputable def Hz:Env:={ P:=Tryz.prog,tt:=tt,C5:=[(58,AW),(32,Cx)],res:=[Go.ResultVar.cell 4 78,Go.ResultVar.tmp 5],rs:=[Ty.pair d9 (Ty.pair (Ty.d0 true Ty.str) Ty.unit),Ty.int IntKind.i64],ps:=[PK.v P0,PK.v d9],y8:=[],nt:=38 }
theorem Ra:w5 Hz:=w9 p7 ⟨KH,RH,trivial⟩
theorem Rh:B8 Hz Tryz.f86:=⟨rfl,rfl⟩
theorem Yc (aO:Int) (ab:List yY) (x1:Int):exec Hz 1000 [.code (d8 Tryz.prog 86)] (s7 HO.ps (((aO,ab,()),x1,()))) =
  .f7 (True) (cond (decide (H7 (aO,ab,())≠(0:Int))) (.ret ((((0:Int),[],()),H7 (aO,ab,()),()))) (.f7 (r7 IntKind.i64 (aO+(↑(List.length ab):Int))) (cond (decide (aO+(↑(List.length ab):Int)<x1)) (.ret ((((0:Int),[],()),(1:Int),()))) (.f7 (r7 IntKind.i64 (x1 - aO)) (.f7 (r7 IntKind.i64 (aO+if x1 - aO<(0:Int) then (0:Int) else x1 - aO)) (.f7 (((0:Int)<=if x1 - aO<(0:Int) then (0:Int) else x1 - aO)/\(if x1 - aO<(0:Int) then (0:Int) else x1 - aO)<=(↑(List.length ab):Int)/\(↑(List.length ab):Int)<=(↑(List.length ab):Int)) (.f7 (List.length (n7 (if x1 - aO<(0:Int) then (0:Int) else x1 - aO) (↑(List.length ab):Int) ab)<=1048576) (.ret (((aO+if x1 - aO<(0:Int) then (0:Int) else x1 - aO,n7 (if x1 - aO<(0:Int) then (0:Int) else x1 - aO) (↑(List.length ab):Int) ab,()),(0:Int),())))))))))):=by kernel_rfl
theorem b4a:HO.Valid Tryz.prog 86:=by
  refine o7.n8 Ra rfl rfl Tryz.func86 (c:=d8 Tryz.prog 86) rfl rfl Rh rfl ?_;rintro ⟨⟨(b:Int),(l:List yY),⟨⟩⟩,(x:Int),⟨⟩⟩ (h0:0<=x) -
  refine j6 (n:=1000) Ra Rh ?_;refine i6 (Yc b l x) ?_;have key:∀ {y:vy×Int×Unit},Q4 (b,l,()) x=y->y=Q4 (b,l,()) x:=λ h=>h.symm;have hd:Q4 (b,l,()) x=if H7 (b,l,())≠0 then (f00,H7 (b,l,()),()) else if b+l.length<x then (f00,1,()) else ((b+ahd b x,l.drop (ahd b x).toNat,()),0,()):=rfl
  have ha:(if x - b<0 then 0 else x - b)=ahd b x:=rfl;have tq:0<=ahd b x/\(x<=b+l.length->ahd b x<=l.length)/\(ahd b x=0\/ahd b x=x - b):=by rw [ahd]; split<;>omega
  have gX:0<=ahd b x->n7 (ahd b x) (l.length:Int) l=l.drop (ahd b x).toNat:=λ h=>by
    rw [n7,List.take_of_length_le (by rw [List.length_drop]; omega)]
  rw [ha];generalize ahd b x=n at *
  rw [gX tq.1];simp only [j5,Tree.holds,sL];refine ⟨λ a=>key (by rw [hd,if_pos a]<;>rfl),λ a=>?_⟩;have aL:=xr (Decidable.not_not.1 a);simp only at aL;rw [if_neg a] at hd;refine ⟨by omega,λ _=>⟨λ c=>key (by rw [hd,if_pos c]<;>rfl),λ c=>?_⟩⟩;rw [if_neg c] at hd;refine ⟨by omega,λ _=>⟨by omega,λ _=>⟨by omega,λ _=>⟨?_,λ _=>key (by rw [hd]<;>rfl)⟩⟩⟩⟩;rw [List.length_drop]; omega
def xn (b most:Int) (l:List yY):Nat->List s9
  | 0=>[]
  | i+1=>xn b most l i++(if (i:Int)<most then [(b+i,l.getD i [],())] else [])
theorem Kq {b most:Int} {l:List yY}:∀ {i:Nat},(xn b most l i).length<=i
  | 0=>Nat.le_refl _
  | i+1=>by
    have:=Kq (b:=b) (most:=most) (l:=l) (i:=i);rw [xn,List.length_append]
    split<;>simp<;>omega
def wq (s:vy) (most:Int):List s9×Int×Unit:=if H7 s≠0 then ([],H7 s,()) else (xn s.1 most s.2.1 s.2.1.length,0,())
def HP:o7:={ ps:=[.v P0,.v d9],rs:=[.d0 true p9,d9],pre:=λ _=>True,fn:=λ x=>wq x.1 x.2.1,out:=λ _=>() }
noncomputable def Ds:Env:={ P:=Tryz.prog,tt:=tt,C5:=[(58,AW)],res:=[Go.ResultVar.tmp 4,Go.ResultVar.tmp 5],rs:=[Ty.d0 true p9,Ty.int IntKind.i64],ps:=[PK.v P0,PK.v d9],y8:=[(6,[(1,none),(2,none),(7,some (Ty.d0 true p9)),(16,none),(17,none),(18,none)])],nt:=37 }
theorem JW:w5 Ds:=w9 p7 ⟨KH,trivial⟩
theorem JY:B8 Ds Tryz.f54:=⟨rfl,rfl⟩
theorem Yd (aO:Int) (ab:List yY) (x1:Int):exec Ds 1000 [.code (d8 Tryz.prog 54)] (s7 HP.ps (((aO,ab,()),x1,()))) =
  .f7 (True) (cond (decide (H7 (aO,ab,())≠(0:Int))) (.ret (([],H7 (aO,ab,()),()))) (.ctL (f8 (d8 Tryz.prog 54) 6) (St.mk [(1,AV.val d9 x1),(2,AV.ptr 2 []),(7,AV.at_ 1000007 []),(16,AV.val (Ty.d0 false Ty.str) ab),(17,AV.val d9 (↑(List.length ab):Int)),(18,AV.val d9 (0:Int))] [(2,g8.var P0 (aO,ab,())),(1000007,g8.own (Ty.d0 true p9) [])]))):=by kernel_rfl
def Rb (v1:Int) (wT:List yY) (vg:Int) (uK:Int) (dS:Int) (cP:List yY) (cd:List (Int×yY×Unit)):St:=St.mk [(1,AV.val d9 v1),(2,AV.ptr 2 []),(7,AV.at_ 1000007 []),(16,AV.val (Ty.d0 false Ty.str) wT),(17,AV.val d9 vg),(18,AV.val d9 uK)] [(2,g8.var P0 (dS,cP,())),(1000007,g8.own (Ty.d0 true p9) cd)]
theorem ZH (v1:Int) (wT:List yY) (vg:Int) (uK:Int) (dS:Int) (cP:List yY) (cd:List (Int×yY×Unit)):exec Ds 1000 (.code (f8 (d8 Tryz.prog 54) 6).1::.inLoop (f8 (d8 Tryz.prog 54) 6).1::(f8 (d8 Tryz.prog 54) 6).2) (Rb v1 wT vg uK dS cP cd) =
  cond (decide (uK<vg)) (.f7 ((0:Int)<=uK/\uK<(↑(List.length wT):Int)) (cond (decide (uK<v1)) (.f7 (r7 IntKind.i64 (dS+uK)) (.f7 (List.length cd+List.length (List.set [((0:Int),[],())] (Int.toNat (↑0:Int)) (dS+uK,List.getD wT (Int.toNat uK) [],()))<=140737488355328/\(List.length cd+List.length (List.set [((0:Int),[],())] (Int.toNat (↑0:Int)) (dS+uK,List.getD wT (Int.toNat uK) [],())))*Ty.wb p9<=140737488355328) (.f7 (r7 IntKind.i64 (uK+(1:Int))) (.ctL (f8 (d8 Tryz.prog 54) 6) (St.mk [(1,AV.val d9 v1),(2,AV.ptr 2 []),(7,AV.at_ 1000007 []),(16,AV.val (Ty.d0 false Ty.str) wT),(17,AV.val d9 vg),(18,AV.val d9 (uK+(1:Int)))] [(2,g8.var P0 (dS,cP,())),(1000007,g8.own (Ty.d0 true p9) (cd++List.set [((0:Int),[],())] (Int.toNat (↑0:Int)) (dS+uK,List.getD wT (Int.toNat uK) [],())))]))))) (.f7 (r7 IntKind.i64 (uK+(1:Int))) (.ctL (f8 (d8 Tryz.prog 54) 6) (St.mk [(1,AV.val d9 v1),(2,AV.ptr 2 []),(7,AV.at_ 1000007 []),(16,AV.val (Ty.d0 false Ty.str) wT),(17,AV.val d9 vg),(18,AV.val d9 (uK+(1:Int)))] [(2,g8.var P0 (dS,cP,())),(1000007,g8.own (Ty.d0 true p9) cd)]))))) (.ret ((cd,(0:Int),()))):=by kernel_rfl
theorem b39:HP.Valid Tryz.prog 54:=by
  refine o7.n8 JW rfl rfl Tryz.func54 (c:=d8 Tryz.prog 54) rfl rfl JY rfl ?_;rintro ⟨⟨(b:Int),(l:List yY),⟨⟩⟩,(m:Int),⟨⟩⟩ - -
  refine j6 (n:=1000) JW JY ?_;refine i6 (Yd b l m) ?_;have key:∀ {y:List s9×Int×Unit},wq (b,l,()) m=y->y=wq (b,l,()) m:=λ h=>h.symm;have hd:wq (b,l,()) m=if H7 (b,l,())≠0 then ([],H7 (b,l,()),()) else (xn b m l l.length,0,()):=rfl
  have hw:Ty.wb p9=24:=rfl;simp only [j5,Tree.holds,sL];refine ⟨λ a=>key (by rw [hd,if_pos a]<;>rfl),λ a=>?_⟩;have aL:=xr (Decidable.not_not.1 a);simp only at aL;rw [if_neg a] at hd;refine Reach.J8 JW JY (λ i:Nat=>Rb m l (l.length:Int) (i:Int) b l (xn b m l i)) (λ i=>i<=l.length) (λ i=>l.length - i) 1000 (λ _=>⟨r8 rfl,r8 rfl⟩) ?_ 0 (by omega);rintro i k1 - ih;have k1:i<=l.length:=k1;refine i6 (ZH ..) ?_;have nI:=Kq (b:=b) (most:=m) (l:=l) (i:=i);simp only [j5,Tree.holds,hw,sL];refine ⟨λ c=>⟨by omega,λ _=>?_⟩,λ c=>key (by rw [hd,show i=l.length by omega]<;>rfl)⟩;have next:=ih (i+1) (by show i+1<=l.length; omega) (by omega)
  rw [xn] at next
  refine ⟨λ d=>⟨by omega,λ _=>⟨⟨by omega,by omega⟩,λ _=>⟨by omega,λ _=>?_⟩⟩⟩,λ d=>⟨by omega,λ _=>?_⟩⟩
  . rw [if_pos d] at next; exact next
  . rw [if_neg d,List.append_nil] at next; exact next
def Z2:s9:=(0,[],())
def t00:ToD:=(0,[],())
def yX (r:Int) (l:List s9):Nat->Int
  | 0=>r
  | i+1=>(l.getD i Z2).1
def xp (r:Int) (l:List s9) (i:Nat):Int:=if (l.getD i Z2).1<=yX r l i then 4 else if r+16<=(l.getD i Z2).1 then 4 else if D9 (l.getD i Z2).2.1=true then 4 else 0
def toE (s:ToD):Int:=if inF s.1 0 16777215=false then 1 else if (16:Int)<s.2.1.length then 2 else R6 (xp s.1 s.2.1) s.2.1.length
def Fk:o7:={ ps:=[.v ToT],rs:=[d9],pre:=λ _=>True,fn:=λ x=>(toE x.1,()),out:=λ _=>() }
noncomputable def Co:Env:={ P:=Tryz.prog,tt:=tt,C5:=[(75,Ai),(59,zF)],res:=[Go.ResultVar.tmp 2],rs:=[Ty.int IntKind.i64],ps:=[PK.v ToT],y8:=[(7,[(1,none),(3,none),(19,none),(20,none),(21,none)])],nt:=45 }
theorem HB:w5 Co:=w9 p7 ⟨JK,EN,trivial⟩
theorem HF:B8 Co Tryz.f96:=⟨rfl,rfl⟩
theorem TB (aO:Int) (ab:List (Int×yY×Unit)):exec Co 1000 [.code (d8 Tryz.prog 96)] (s7 Fk.ps (((aO,ab,()),()))) =
  .f7 (True) (cond (!inF aO (0:Int) (16777215:Int)) (.ret (((1:Int),()))) (cond (decide ((16:Int)<(↑(List.length ab):Int))) (.ret (((2:Int),()))) (.ctL (f8 (d8 Tryz.prog 96) 7) (St.mk [(1,AV.ptr 1 []),(3,AV.val d9 aO),(19,AV.val K6 ab),(20,AV.val d9 (↑(List.length ab):Int)),(21,AV.val d9 (0:Int))] [(1,g8.var ToT (aO,ab,()))])))):=by kernel_rfl
def MG (v3:Int) (uH:List (Int×yY×Unit)) (v20:Int) (v21:Int) (eF:Int) (cZ:List (Int×yY×Unit)):St:=St.mk [(1,AV.ptr 1 []),(3,AV.val d9 v3),(19,AV.val K6 uH),(20,AV.val d9 v20),(21,AV.val d9 v21)] [(1,g8.var ToT (eF,cZ,()))]
theorem Wb (v3:Int) (uH:List (Int×yY×Unit)) (v20:Int) (v21:Int) (eF:Int) (cZ:List (Int×yY×Unit)):exec Co 1000 (.code (f8 (d8 Tryz.prog 96) 7).1::.inLoop (f8 (d8 Tryz.prog 96) 7).1::(f8 (d8 Tryz.prog 96) 7).2) (MG v3 uH v20 v21 eF cZ) =
  cond (decide (v21<v20)) (.f7 ((0:Int)<=v21/\v21<(↑(List.length uH):Int)) (cond (decide (Prod.fst (List.getD uH (Int.toNat v21) ((0:Int),[],()))<=v3)) (.ret (((4:Int),()))) (.f7 (r7 IntKind.i64 (eF+(16:Int))) (cond (decide (eF+(16:Int)<=Prod.fst (List.getD uH (Int.toNat v21) ((0:Int),[],())))) (.ret (((4:Int),()))) (.f7 (True) (cond (D9 (Prod.fst (Prod.snd (List.getD uH (Int.toNat v21) ((0:Int),[],()))))) (.ret (((4:Int),()))) (.f7 (r7 IntKind.i64 (v21+(1:Int))) (.ctL (f8 (d8 Tryz.prog 96) 7) (St.mk [(1,AV.ptr 1 []),(3,AV.val d9 (Prod.fst (List.getD uH (Int.toNat v21) ((0:Int),[],())))),(19,AV.val K6 uH),(20,AV.val d9 v20),(21,AV.val d9 (v21+(1:Int)))] [(1,g8.var ToT (eF,cZ,()))]))))))))) (.ret (((0:Int),()))):=by kernel_rfl
theorem ZT:Fk.Valid Tryz.prog 96:=by
  refine o7.n8 HB rfl rfl Tryz.func96 (c:=d8 Tryz.prog 96) rfl rfl HF rfl ?_;rintro ⟨⟨(r:Int),(l:List s9),⟨⟩⟩,⟨⟩⟩ - -
  refine j6 (n:=1000) HB HF ?_;refine i6 (TB r l) ?_;have key:∀ {x:Int},toE (r,l,())=x->((x,()):Int×Unit)=(toE (r,l,()),()):=by rintro x rfl; rfl
  have hd:toE (r,l,())=if inF r 0 16777215=false then 1 else if (16:Int)<l.length then 2 else R6 (xp r l) l.length:=rfl
  simp only [j5,Tree.holds,sL];refine ⟨λ a=>key (by rw [hd,if_pos a]),λ a=>?_⟩;have hr:=xk.1 a;rw [if_neg (lnf a)] at hd;refine ⟨λ a=>key (by rw [hd,if_pos a]),λ a=>?_⟩;rw [if_neg a] at hd;refine Reach.J8 HB HF (λ i:Nat=>MG (yX r l i) l (l.length:Int) (i:Int) r l) (λ i=>i<=l.length/\R6 (xp r l) i=0) (λ i=>l.length - i) 1000 (λ _=>⟨r8 rfl,r8 rfl⟩) ?_ 0 ⟨by omega,rfl⟩;rintro i ⟨k1,k2⟩ - ih;have k1:i<=l.length:=k1;refine i6 (Wb ..) ?_;simp only [j5,Tree.holds,sL];have hE:xp r l i=if (l.getD i (0,[],())).1<=yX r l i then 4 else if r+16<=(l.getD i (0,[],())).1 then 4 else if D9 (l.getD i (0,[],())).2.1=true then 4 else 0:=rfl
  have hB:yX r l (i+1)=(l.getD i (0,[],())).1:=rfl;have stop:xp r l i=4->i<l.length->toE (r,l,())=4:=λ h9 hi=>by rw [hd,Sk k2 (by rw [h9]; decide) hi,h9]
  have next:=λ(h:xp r l i=0) (hi:i<l.length)=>ih (i+1) ⟨by omega,Sj k2 h⟩ (by omega)
  rw [hB] at next
  generalize l.getD i (0,[],())=w at *
  obtain ⟨q,x,u⟩:=w;simp only at hE next ⊢
  refine ⟨λ c=>⟨by omega,λ _=>⟨λ c1=>key (stop (by rw [hE,if_pos c1]) (by omega)),λ c1=>⟨by omega,λ _=>⟨λ c2=>key (stop (by rw [hE,if_neg c1,if_pos c2]) (by omega)),λ c2=>⟨λ c3=>key (stop (by rw [hE,if_neg c1,if_neg c2,if_pos c3]) (by omega)),λ c3=>⟨by omega,λ _=>next (by rw [hE,if_neg c1,if_neg c2,if_neg (by rw [c3]; simp)]) (by omega)⟩⟩⟩⟩⟩⟩,λ c=>key (by rw [hd,show l.length=i by omega,k2])⟩
def Fa (p:s9) (n:Int):Int:=p.1 - n
def Gf:o7:={ ps:=[.v p9,.v d9],rs:=[d9],pre:=λ x=>(LE.le (α:=Int) (-100000000) x.1.1/\LE.le (α:=Int) x.1.1 100000000)/\(LE.le (α:=Int) (-100000000) x.2.1/\LE.le (α:=Int) x.2.1 100000000),fn:=λ x=>(Fa x.1 x.2.1,()),out:=λ _=>() }
noncomputable def FM:Env:={ P:=Tryz.prog,tt:=tt,C5:=[],res:=[Go.ResultVar.tmp 4],rs:=[Ty.int IntKind.i64],ps:=[PK.v p9,PK.v d9],y8:=[],nt:=9 }
theorem NQ:w5 FM:=w9 p7 trivial
theorem Oi:B8 FM Tryz.f99:=⟨rfl,rfl⟩
theorem Uw (aO:Int) (ab:yY) (x1:Int):exec FM 1000 [.code (d8 Tryz.prog 99)] (s7 Gf.ps (((aO,ab,()),x1,()))) =
  .f7 (r7 IntKind.i64 (aO - x1)) (.ret ((aO - x1,()))):=by kernel_rfl
theorem b7R:Gf.Valid Tryz.prog 99:=by
  refine o7.n8 NQ rfl rfl Tryz.func99 (c:=d8 Tryz.prog 99) rfl rfl Oi rfl ?_;rintro ⟨⟨(q:Int),(s:yY),⟨⟩⟩,(n:Int),⟨⟩⟩ ⟨⟨(h1:-100000000<=q),(h2:q<=100000000)⟩,(h3:-100000000<=n),(h4:n<=100000000)⟩ -
  refine j6 (n:=1000) NQ Oi ?_;refine i6 (Uw q s n) ?_;simp only [j5,Tree.holds,sL];exact ⟨by omega,λ _=>rfl⟩
def atF (n:Int) (l:List s9):Nat:=(l.takeWhile λ p=>decide (p.1<n)).length
theorem LO {n:Int}:∀ {l:List s9} {i:Nat},i<=l.length->(∀ k,k<i->(l.getD k Z2).1<n)->(i<l.length->n<=(l.getD i Z2).1)->atF n l=i
  | [],i,hi,_,_=>by simp at hi; subst hi; rfl
  | p::l,0,_,_,h=>by
    have:=h (by simp);rw [atF,List.takeWhile_cons,if_neg]
    . rfl
    . rw [decide_eq_true_eq]; show ¬ p.1<n; exact Int.not_lt.2 this
  | p::l,i+1,hi,h1,h2=>by
    have h0:p.1<n:=h1 0 (by omega);have:=LO (l:=l) (i:=i) (by simpa using hi) (λ k hk=>h1 (k+1) (by omega)) (λ hk=>h2 (by simpa using hk));rw [atF,List.takeWhile_cons,if_pos (decide_eq_true h0),List.length_cons];rw [atF] at this; omega
def sorted (l:List s9):Prop:=(∀ i j,i<j->j<l.length->(l.getD i Z2).1<(l.getD j Z2).1)/\(∀ i,i<l.length->-100000000<=(l.getD i Z2).1/\(l.getD i Z2).1<=100000000)
def Y0 (n:Int) (l:List s9):Bool:=decide (atF n l<l.length) && decide ((l.getD (atF n l) Z2).1 - n=0)
def Fg:o7:={ ps:=[.v (.d0 false p9),.v d9,.C1 99 []],rs:=[d9,.bool],pre:=λ x=>(List.length (α:=s9) x.1<=1000/\sorted x.1)/\(LE.le (α:=Int) (-100000000) x.2.1/\LE.le (α:=Int) x.2.1 100000000),fn:=λ x=>((atF x.2.1 x.1:Int),Y0 x.2.1 x.1,()),out:=λ _=>() }
noncomputable def Cr:Env:={ P:=Tryz.prog,tt:=tt,C5:=[(99,Gf)],res:=[Go.ResultVar.tmp 6,Go.ResultVar.tmp 7],rs:=[Ty.int IntKind.i64,Ty.bool],ps:=[PK.v K6,PK.v d9,PK.C1 99 []],y8:=[(3,[(0,none),(1,none),(2,none),(8,none),(9,none),(10,none)])],nt:=49 }
theorem Hx:w5 Cr:=w9 p7 ⟨b7R,trivial⟩
theorem HE:B8 Cr Tryz.f98:=⟨rfl,rfl⟩
theorem Tq (x0:List (Int×yY×Unit)) (x1:Int):exec Cr 1000 [.code (d8 Tryz.prog 98)] (s7 Fg.ps ((x0,x1,(),()))) =
  .ctL (f8 (d8 Tryz.prog 98) 3) (St.mk [(0,AV.val K6 x0),(1,AV.val d9 x1),(2,AV.C1 99 AV.nil),(8,AV.val d9 (↑(List.length x0):Int)),(9,AV.val d9 (0:Int)),(10,AV.val d9 (↑(List.length x0):Int))] []):=by kernel_rfl
def Mx (v0:List (Int×yY×Unit)) (v1:Int) (v8:Int) (v9:Int) (v10:Int):St:=St.mk [(0,AV.val K6 v0),(1,AV.val d9 v1),(2,AV.C1 99 AV.nil),(8,AV.val d9 v8),(9,AV.val d9 v9),(10,AV.val d9 v10)] []
theorem Ug (v0:List (Int×yY×Unit)) (v1:Int) (v8:Int) (v9:Int) (v10:Int):exec Cr 1000 (.code (f8 (d8 Tryz.prog 98) 3).1::.inLoop (f8 (d8 Tryz.prog 98) 3).1::(f8 (d8 Tryz.prog 98) 3).2) (Mx v0 v1 v8 v9 v10) =
  cond (decide (v9<v10)) (.f7 (r7 IntKind.i64 (v9+v10)) (.f7 ((0:Int)<=(1:Int)) (.f7 ((0:Int)<=IntKind.wrap IntKind.i64 (IntKind.wrap IntKind.u64 (v9+v10) / (2:Int)^min (Int.toNat (1:Int)) (IntKind.bits IntKind.u64))/\IntKind.wrap IntKind.i64 (IntKind.wrap IntKind.u64 (v9+v10) / (2:Int)^min (Int.toNat (1:Int)) (IntKind.bits IntKind.u64))<(↑(List.length v0):Int)) (.f7 (((-100000000:Int)<=Prod.fst (List.getD v0 (Int.toNat (IntKind.wrap IntKind.i64 (IntKind.wrap IntKind.u64 (v9+v10) / (2:Int)^min (Int.toNat (1:Int)) (IntKind.bits IntKind.u64)))) ((0:Int),[],()))/\Prod.fst (List.getD v0 (Int.toNat (IntKind.wrap IntKind.i64 (IntKind.wrap IntKind.u64 (v9+v10) / (2:Int)^min (Int.toNat (1:Int)) (IntKind.bits IntKind.u64)))) ((0:Int),[],()))<=(100000000:Int))/\(-100000000:Int)<=v1/\v1<=(100000000:Int)) (cond (decide (Fa (List.getD v0 (Int.toNat (IntKind.wrap IntKind.i64 (IntKind.wrap IntKind.u64 (v9+v10) / (2:Int)^min (Int.toNat (1:Int)) (IntKind.bits IntKind.u64)))) ((0:Int),[],())) v1<(0:Int))) (.f7 (r7 IntKind.i64 (IntKind.wrap IntKind.i64 (IntKind.wrap IntKind.u64 (v9+v10) / (2:Int)^min (Int.toNat (1:Int)) (IntKind.bits IntKind.u64))+(1:Int))) (.ctL (f8 (d8 Tryz.prog 98) 3) (St.mk [(0,AV.val K6 v0),(1,AV.val d9 v1),(2,AV.C1 99 AV.nil),(8,AV.val d9 v8),(9,AV.val d9 (IntKind.wrap IntKind.i64 (IntKind.wrap IntKind.u64 (v9+v10) / (2:Int)^min (Int.toNat (1:Int)) (IntKind.bits IntKind.u64))+(1:Int))),(10,AV.val d9 v10)] []))) (.ctL (f8 (d8 Tryz.prog 98) 3) (St.mk [(0,AV.val K6 v0),(1,AV.val d9 v1),(2,AV.C1 99 AV.nil),(8,AV.val d9 v8),(9,AV.val d9 v9),(10,AV.val d9 (IntKind.wrap IntKind.i64 (IntKind.wrap IntKind.u64 (v9+v10) / (2:Int)^min (Int.toNat (1:Int)) (IntKind.bits IntKind.u64))))] []))))))) (cond (decide (v9<v8)) (.f7 ((0:Int)<=v9/\v9<(↑(List.length v0):Int)) (.f7 (((-100000000:Int)<=Prod.fst (List.getD v0 (Int.toNat v9) ((0:Int),[],()))/\Prod.fst (List.getD v0 (Int.toNat v9) ((0:Int),[],()))<=(100000000:Int))/\(-100000000:Int)<=v1/\v1<=(100000000:Int)) (.ret ((v9,decide (Fa (List.getD v0 (Int.toNat v9) ((0:Int),[],())) v1=(0:Int)),()))))) (.ret ((v9,false,())))):=by kernel_rfl
theorem c09:Fg.Valid Tryz.prog 98:=by
  refine o7.n8 Hx rfl rfl Tryz.func98 (c:=d8 Tryz.prog 98) rfl rfl HE rfl ?_;rintro ⟨(l:List s9),(n:Int),⟨⟩,⟨⟩⟩ ⟨⟨(h0:l.length<=1000),(hs:sorted l)⟩,(h1:-100000000<=n),(h2:n<=100000000)⟩ -
  refine j6 (n:=1000) Hx HE ?_;refine i6 (Tq l n) ?_;refine Reach.J8 Hx HE (λ s:Nat×Nat=>Mx l n (l.length:Int) (s.1:Int) (s.2:Int)) (λ s=>s.1<=s.2/\s.2<=l.length/\(∀ k,k<s.1->(l.getD k Z2).1<n)/\(∀ k,s.2<=k->k<l.length->n<=(l.getD k Z2).1)) (λ s=>s.2 - s.1) 1000 (λ _=>⟨r8 rfl,r8 rfl⟩) ?_ (0,l.length) ⟨Nat.zero_le _,Nat.le_refl _,λ k hk=>by omega,λ k hk fb=>by omega⟩;rintro ⟨i,j⟩ ⟨k1,k2,k3,k4⟩ - ih;have k1:i<=j:=k1;have k2:j<=l.length:=k2;have k3:∀ k,k<i->(l.getD k Z2).1<n:=k3;have k4:∀ k,j<=k->k<l.length->n<=(l.getD k Z2).1:=k4;refine i6 (Ug ..) ?_;have hh:IntKind.wrap .i64 (IntKind.wrap .u64 ((i:Int)+(j:Int)) / 2^min (Int.toNat 1) (IntKind.bits .u64))=(((i+j) / 2:Nat):Int):=by
    rw [S4 (k:=.u64) (by show (0:Int)<=_/\_<=(18446744073709551615:Int); omega)];rw [show (2:Int)^min (Int.toNat 1) (IntKind.bits .u64)=2 from rfl];rw [S4 (k:=.i64) (by show (-9223372036854775808:Int)<=_/\_<=(9223372036854775807:Int); omega)];omega
  rw [show ((i,j):Nat×Nat).1=i from rfl,show ((i,j):Nat×Nat).2=j from rfl,hh];simp only [j5,Tree.holds,sL];refine ⟨λ c=>⟨by omega,λ _=>⟨by omega,λ _=>?_⟩⟩,λ c=>?_⟩
  . have hm:(i+j) / 2<l.length:=by omega
    have lA:=hs.2 _ hm;have e0:l.getD ((i+j) / 2) (0,[],())=l.getD ((i+j) / 2) Z2:=rfl;rw [e0];refine ⟨⟨by omega,by omega⟩,λ _=>⟨⟨lA,h1,h2⟩,λ _=>⟨λ d=>⟨by omega,λ _=>?_⟩,λ d=>?_⟩⟩⟩
    . have d:(l.getD ((i+j) / 2) Z2).1 - n<0:=d;exact ih ((i+j) / 2+1,j) ⟨by show (i+j) / 2+1<=j; omega,k2,λ k hk=>(by
        have hk:k<(i+j) / 2+1:=hk;by_cases e:k=(i+j) / 2
        . subst e; omega
        . have:=hs.1 k ((i+j) / 2) (by omega) hm; omega),k4⟩ (by show j - ((i+j) / 2+1)<j - i; omega)
    . have d:¬ (l.getD ((i+j) / 2) Z2).1 - n<0:=d;exact ih (i,(i+j) / 2) ⟨by show i<=(i+j) / 2; omega,by show (i+j) / 2<=l.length; omega,k3,λ k hk fb=>(by
        have hk:(i+j) / 2<=k:=hk;by_cases e:k=(i+j) / 2
        . subst e; omega
        . have:=hs.1 ((i+j) / 2) k (by omega) fb; omega)⟩ (by show (i+j) / 2 - i<j - i; omega)
  . have e:j=i:=by omega
    subst e;have jC:atF n l=j:=LO k2 k3 (λ h=>k4 j (Nat.le_refl _) h);have key:∀ {x:Bool},Y0 n l=x->(((j:Int),x,()):Int×Bool×Unit)=((atF n l:Int),Y0 n l,()):=by rintro x rfl; rw [jC]
    have hk:Y0 n l=(decide (j<l.length) && decide ((l.getD j Z2).1 - n=0)):=by rw [Y0,jC]
    refine ⟨λ d=>⟨by omega,λ _=>⟨⟨hs.2 j (by omega),h1,h2⟩,λ _=>key ?_⟩⟩,λ d=>key ?_⟩
    . rw [hk,decide_eq_true (show j<l.length by omega),Bool.true_and]; rfl
    . rw [hk,decide_eq_false (show ¬ j<l.length by omega)]; rfl
theorem OK {a b:s9}:Z3 p9 a b=true↔a=b:=by
  obtain ⟨a1,a2,a3⟩:=a;obtain ⟨b1,b2,b3⟩:=b;show (decide (a1=b1) && (decide ((a2:yY)=b2) && decide ((a3:Unit)=b3)))=true↔_;rw [Bool.and_eq_true,Bool.and_eq_true,decide_eq_true_eq,decide_eq_true_eq];constructor
  . rintro ⟨rfl,rfl,_⟩; rfl
  . intro h; cases h; exact ⟨rfl,rfl,by simp⟩
theorem XS {a b:s9} (d:Z3 p9 a b=false):¬ a=b:=λ h=>by rw [OK.2 h] at d; cases d
end Go.Proofs.YtijlnmgondibnaaGreatDoor
namespace Go.Proofs.YtijlnmgondibnaaGreatDoor
open Go.Ex
def D7:List s9->Int->Int×List s9×List yY
  | [],n=>(n,[],[])
  | p::l,n=>if p.1=n then ((D7 l (n+1)).1,(D7 l (n+1)).2.1,p.2.1::(D7 l (n+1)).2.2) else (n,p::l,[])
def xJ (b:Int):List s9->Prop
  | []=>True
  | p::l=>b<p.1/\xJ p.1 l
theorem Iz {b:Int}:∀ {l:List s9} {p:s9},xJ b l->p∈l->b<p.1
  | q::l,p,⟨h1,h2⟩,hp=>by
    rcases List.mem_cons.1 hp with rfl|hp
    . exact h1
    . have:=Iz h2 hp; omega
theorem Nz:∀ {l:List s9} {n:Int},xJ (n - 1) l->xJ (D7 l n).1 (D7 l n).2.1/\(D7 l n).1=n+(D7 l n).2.2.length/\(D7 l n).2.1.length+(D7 l n).2.2.length=l.length/\(∀ p∈(D7 l n).2.1,p∈l)
  | [],n,_=>⟨trivial,by simp [D7],by simp [D7],by simp [D7]⟩
  | p::l,n,⟨h1,h2⟩=>by
    rw [D7];by_cases e:p.1=n
    . rw [if_pos e];obtain ⟨a1,a2,a3,a4⟩:=Nz (l:=l) (n:=n+1) (by rw [show n+1 - 1=p.1 by omega]; exact h2);refine ⟨a1,?_,?_,λ q hq=>List.mem_cons_of_mem _ (a4 q hq)⟩
      . show (D7 l (n+1)).1=n+((p.2.1::(D7 l (n+1)).2.2).length:Int);rw [List.length_cons]; omega
      . show (D7 l (n+1)).2.1.length+(p.2.1::(D7 l (n+1)).2.2).length=(p::l).length;rw [List.length_cons,List.length_cons]; omega
    . rw [if_neg e];exact ⟨⟨by show n<p.1; omega,h2⟩,by simp,by simp,λ q hq=>hq⟩
theorem Pn {c:Int}:∀ {l:List s9} {b:Int},xJ b l->(∀ p∈l,p.1<c)->l≠[]->(l.length:Int)+b<c
  | [p],b,⟨h1,_⟩,h,_=>by have:=h p List.mem_cons_self; show ((1:Nat):Int)+b<c; omega
  | p::x::l,b,⟨h1,h2⟩,h,_=>by
    have:=Pn (l:=x::l) h2 (λ y hy=>h y (List.mem_cons_of_mem _ hy)) (by simp);rw [List.length_cons]; omega
def wG (p:s9) (l:List s9):List s9:=l.take (atF p.1 l)++p::l.drop (atF p.1 l)
theorem Xt {p y:s9} {l:List s9}:y∈wG p l↔y=p\/y∈l:=by
  have h:y∈l↔y∈l.take (atF p.1 l)\/y∈l.drop (atF p.1 l):=by rw [<- List.mem_append,List.take_append_drop]
  rw [wG,List.mem_append,List.mem_cons,h];constructor
  . rintro (a|a|a)
    . exact .inr (.inl a)
    . exact .inl a
    . exact .inr (.inr a)
  . rintro (a|a|a)
    . exact .inr (.inl a)
    . exact .inl a
    . exact .inr (.inr a)
theorem Xs {p:s9} {l:List s9}:(wG p l).length=l.length+1:=by
  rw [wG,List.length_append,List.length_cons,List.length_take,List.length_drop]; omega
theorem BF:∀ {l:List s9} {b:Int},xJ b l↔∀ i,i<l.length->yX b l i<(l.getD i Z2).1
  | [],b=>⟨λ _ i hi=>absurd hi (Nat.not_lt_zero _),λ _=>trivial⟩
  | p::l,b=>by
    constructor
    . rintro ⟨h1,h2⟩ i hi
      match i,hi with
      | 0,_=>exact h1
      | 1,hi=>exact (BF.1 h2) 0 (by simpa using hi)
      | i+2,hi=>exact (BF.1 h2) (i+1) (by rw [List.length_cons] at hi; omega)
    . intro h;refine ⟨h 0 (by simp),BF.2 λ i hi=>?_⟩
      match i,hi with
      | 0,hi=>exact h 1 (by simpa using hi)
      | i+1,hi=>exact h (i+2) (by rw [List.length_cons]; omega)
structure An (r:Int) (l:List s9):Prop where
  rg:0<=r/\r<=16777215
  len:l.length<=16
  up:xJ r l
  b:∀ p∈l,p.1<r+16/\D9 p.2.1=false
theorem HN {r:Int} {l:List s9} {u:Unit}:toE (r,l,u)=0↔An r l:=by
  have hd:toE (r,l,u)=if inF r 0 16777215=false then 1 else if (16:Int)<l.length then 2 else R6 (xp r l) l.length:=rfl
  rw [hd];constructor
  . intro h;split at h
    . cases h
    rename_i c1;split at h
    . cases h
    rename_i c2;have h:=EI.1 h;have hE:∀ i,i<l.length->yX r l i<(l.getD i Z2).1/\(l.getD i Z2).1<r+16/\D9 (l.getD i Z2).2.1=false:=λ i hi=>by
      have:=h i hi;unfold xp at this;split at this
      . cases this
      split at this
      . cases this
      split at this
      . cases this
      rename_i d1 d2 d3;exact ⟨by omega,by omega,by simpa using d3⟩
    refine ⟨xk.1 (Bool.not_eq_false _▸c1),by omega,BF.2 λ i hi=>(hE i hi).1,λ p hp=>?_⟩;obtain ⟨i,hi,rfl⟩:=List.getElem_of_mem hp;have:=hE i hi;rw [List.getD_eq_getElem?_getD,List.getElem?_eq_getElem hi] at this;exact this.2
  . intro h;rw [if_neg (by rw [xk.2 h.rg]; simp),if_neg (by have:=h.len; omega)];refine EI.2 λ i hi=>?_;have h1:=BF.1 h.up i hi;obtain ⟨h2,h3⟩:=h.b (l.getD i Z2) (DM hi);rw [xp,if_neg (by omega),if_neg (by omega),if_neg (by rw [h3]; simp)]
theorem b7n {l:List s9}:∀ {b:Int},xJ b l->∀ i j,i<j->j<l.length->(l.getD i Z2).1<(l.getD j Z2).1:=by
  induction l with
  | nil=>intro b _ i j _ h; exact absurd h (Nat.not_lt_zero _)
  | cons p l ih =>
    rintro b ⟨h1,h2⟩ i j bS hj
    match i,j,bS,hj with
    | 0,j+1,_,hj=>exact Iz h2 (DM (by simpa using hj))
    | i+1,j+1,bS,hj=>exact ih h2 i j (by omega) (by simpa using hj)
end Go.Proofs.YtijlnmgondibnaaGreatDoor
namespace Go.Proofs.YtijlnmgondibnaaGreatDoor
open Go.Ex
def D3 (s:ToD) (p:s9):ToD×List yY×Int×Unit :=
  if toE s≠0 then (t00,[],toE s,()) else if inF p.1 0 16777214=false then (t00,[],1,()) else if D9 p.2.1=true then (t00,[],2,()) else
  if p.1<s.1\/s.1+16<=p.1\/Y0 p.1 s.2.1=true then (s,[],0,()) else if s.1<p.1 then ((s.1,wG p s.2.1,()),[],0,()) else
  (((D7 s.2.1 (s.1+1)).1,(D7 s.2.1 (s.1+1)).2.1,()),p.2.1::(D7 s.2.1 (s.1+1)).2.2,0,())
theorem WL {r:Int} {l:List s9} {p:s9} (h:An r l) (h1:0<=p.1/\p.1<=16777214) (h2:D9 p.2.1=false):D3 (r,l,()) p =
    if p.1<r\/r+16<=p.1\/Y0 p.1 l=true then ((r,l,()),[],0,()) else if r<p.1 then ((r,wG p l,()),[],0,()) else
    (((D7 l (r+1)).1,(D7 l (r+1)).2.1,()),p.2.1::(D7 l (r+1)).2.2,0,()):=by
  rw [D3,if_neg (by simp [HN.2 h]),if_neg (by rw [xk.2 h1]; simp),if_neg (by rw [h2]; simp)]
theorem YU {s:ToD} {p:s9} (h:(D3 s p).2.2.1≠0):(D3 s p).2.1=[]:=by
  by_cases c1:toE s≠0
  . rw [D3,if_pos c1]
  by_cases c2:inF p.1 0 16777214=false
  . rw [D3,if_neg c1,if_pos c2]
  by_cases c3:D9 p.2.1=true
  . rw [D3,if_neg c1,if_neg c2,if_pos c3]
  by_cases c4:p.1<s.1\/s.1+16<=p.1\/Y0 p.1 s.2.1=true
  . rw [D3,if_neg c1,if_neg c2,if_neg c3,if_pos c4]
  by_cases c5:s.1<p.1
  . rw [D3,if_neg c1,if_neg c2,if_neg c3,if_neg c4,if_pos c5]
  . rw [D3,if_neg c1,if_neg c2,if_neg c3,if_neg c4,if_neg c5] at h; exact absurd rfl h
end Go.Proofs.YtijlnmgondibnaaGreatDoor
set_option linter.unusedVariables false
set_option linter.unusedSimpArgs false
namespace Go.Proofs.YtijlnmgondibnaaGreatDoor
open Go Go.Shelf Go.RowKit Go.Lib
theorem b4y {P:Program} (w:World) {o:Oper} {a:Act} {K:Act->World->Prop} {Q:Exit->Act->World->Prop} (d s:Operand) (t t':TypeId)
    (ho:o.op=.call { callee:=.builtin .copy,args:=#[d,s],argTypes:=#[t,t'] }) (v u:Value) (hd:a.eval d=v) (hs:a.eval s=u) {v':Value} {w':World}
    (hr:(Builtin.copy_ #[t,t'] o.type #[v,u]).run P w=.ok v' w') (h:K (a.put o.dst v') w'):o.wp P a w K Q:=by
  unfold Oper.wp execOp;simp only [ho,resolve,invoke,builtin,Sem.run_bind,Sem.run_pure,Result.andThen_ok,List.map_toArray,List.map_cons,List.map_nil,hd,hs,hr];exact h
theorem Tf {P:Program} (w:World) {ops:Array Oper} {rest:List Oper} {o:Oper} {a:Act} {Q:Exit->Act->World->Prop} (mR:o.guard=none) (d s:Operand) (t t':TypeId)
    (ho:o.op=.call { callee:=.builtin .copy,args:=#[d,s],argTypes:=#[t,t'] }) (v u:Value) (hd:a.eval d=v) (hs:a.eval s=u) {v':Value} {w':World}
    (hr:(Builtin.copy_ #[t,t'] o.type #[v,u]).run P w=.ok v' w') (h:wpList P ops Q rest (a.put o.dst v') w'):wpList P ops Q (o::rest) a w :=
  wpList_plain mR λ _ hK=>b4y w d s t t' ho v u hd hs hr (hK _ _ h)
theorem Te {P:Program} {ops:Array Oper} {o:Oper} {a:Act} {w:World} {K:Act->World->Prop} {Q:Exit->Act->World->Prop} {E:Prop}
    (hg:o.guard=none) (d x:Operand) (dT sT:TypeId) (cz:o.op=Op.call { callee:=Callee.builtin Builtin.copy,args:=#[d,x],argTypes:=#[dT,sT] })
    (v u:Value) (hd:a.eval d=v) (hx:a.eval x=u) {v':Value} {w':World} (hr:(Builtin.copy_ #[dT,sT] o.type #[v,u]).run P w=.ok v' w') (hK:K (a.put o.dst v') w') :
    if Region.wanted o (yielded ops a.tmps)=true then Oper.wp P o a w K Q else E:=by
  have hw:Region.wanted o (yielded ops a.tmps)=true:=by simp [Region.wanted,hg]
  rw [if_pos hw];unfold Oper.wp;simp [execOp,cz,resolve,invoke,builtin,hd,hx,hr,Result.andThen];exact hK
theorem EO (b:Nat) (vs:List Value) (o:Nat) (w:World) (h:∀ j,j<vs.length->(w.cell? ⟨b,o+j,none⟩).isSome=true) (k:Nat) (hk:(w.cell? ⟨b,k,none⟩).isSome=true):((w.setCells b o vs).cell? ⟨b,k,none⟩).isSome=true:=by
  by_cases dv:o<=k/\k<o+vs.length
  . have:=World.cell?_setCells_in b vs o w h (k - o) (by omega);rw [show o+(k - o)=k by omega] at this;rw [this]; rfl
  . rw [World.cell?_setCells_out b vs o w ⟨b,k,none⟩ (λ _ _=>by show k<o\/o+vs.length<=k; omega)];exact hk
theorem Er {P:Program} (w:World) (dT sT ty elem:TypeId) (k b o dLen dCap:Nat) (a:Addr) (sLen sCap:Nat) (cs:List Value)
    (hu:P.underlying dT=some (.slice elem)) (hs:(P.info? elem).map (·.size)=some k) (hn:cs.length=Nat.min sLen dLen*k)
    (eI:∀ j v,cs[j]?=some v->w.cell? (a.add j)=some v) (hc:∀ j,j<cs.length->(w.cell? ⟨b,o+j,none⟩).isSome=true) (hf:∀ j,j<cs.length->w.frozen? ⟨b,o+j,none⟩=false) (h1:∀ v∈cs,v.oneCell'=true) :
    (Builtin.copy_ #[dT,sT] ty #[.slice (some ⟨b,o,none⟩) dLen dCap,.slice (some a) sLen sCap]).run P w=.ok (goInt (Nat.min sLen dLen)) (w.setCells b o cs):=by
  have hl:=run_loadCells_list (P:=P) w a cs eI;have bK:=run_storeCells_cells (P:=P) b o cs 0 w (by simpa using hc) (by simpa using hf) h1;cases hq:P.info? elem with
  | none=>simp [hq] at hs
  | some i =>
    have hi:i.size=k:=by simpa [hq] using hs
    rw [hn] at hl;simp [Builtin.copy_,run_underlying hu,Builtin.lenOf,Builtin.firstCells,sizeOf,typeInfo,hq,hi,hl,bK]
set_option maxHeartbeats 4000000 in
set_option maxRecDepth 100000 in
theorem YO (b off n c i vb voff vc:Nat) (cs vs:List Value) (w:World) (hi:i<n) (cw:n+1<=c) (th:c<=9223372036854775807) (nG:vb≠b)
    (cJ:cs.length=n*2) (il:vs.length=2)
    (cF:∀ j v,cs[j]?=some v->w.cell? ⟨b,off+j,none⟩=some v) (fw:∀ j,j<(n+1)*2->(w.cell? ⟨b,off+j,none⟩).isSome=true) (qW:∀ j,j<(n+1)*2->w.frozen? ⟨b,off+j,none⟩=false)
    (iO:∀ j v,vs[j]?=some v->w.cell? ⟨vb,voff+j,none⟩=some v) (lq:∀ v∈cs,v.oneCell'=true) (qv:∀ v∈vs,v.oneCell'=true)
    (tA tB:TypeId) (kA kB:Nat) (rP:w.shape? vb=some (tA,kA)) (rO:w.shape? b=some (tB,kB)) (sC:kB≠0) (sX:w.frozen? ⟨vb,voff,none⟩=false) (pE:w.frozen? ⟨vb,kA,none⟩=false) :
    Calls Tryz.prog 100 #[.slice (some ⟨b,off,none⟩) n c,.int .i64 i,.slice (some ⟨vb,voff,none⟩) 1 vc] w λ e w' =>
      e=.returned (.slice (some ⟨b,off,none⟩) (n+1) c)/\w'=(w.drew.setCells b (off+(i+1)*2) (cs.drop (i*2))).setCells b (off+i*2) vs:=by
  have ou:¬ ((i:Int)=(n:Int)):=by omega
  have aX:(Tryz.prog.info? 104).map (·.size)=some 2:=by kernel_rfl
  have nM:∀ lb cb,(callFunc 111 #[.slice (some ⟨vb,voff,none⟩) 1 vc,.slice (some ⟨b,off+(i+1)*2,none⟩) lb cb]).run Tryz.prog w=.ok (.value (.bool false)) w:=λ lb cb=>by
    rw [run_callFunc_extern Tryz.func111 (by kernel_rfl) (by kernel_rfl) (by kernel_rfl) (e:=Extern.SlicesOverlaps.overlaps #[81,81] #[4]) (by kernel_rfl),
      Lib.run_overlaps_apart w 81 4 104 Tryz.underlying81 2 Tryz.sizeOf104 ⟨vb,voff,none⟩ ⟨b,off+(i+1)*2,none⟩ 1 vc lb cb nG tA tB kA kB rP rO sC sX pE]
    rfl
  have iH:(cs.drop (i*2)).length=(n - i)*2:=by rw [List.length_drop,cJ]; omega
  have jI:IntKind.i64.wrap ((i:Int)+(1:Int))=(i:Int)+(1:Int):=by rw [IntKind.wrap_i64]; omega
  have dG:(0:Int)<=(i:Int)+(1:Int):=by omega
  have dv:i<=n:=by omega
  have qF:((i:Int)+(1:Int)).toNat=i+1:=by omega
  have fq:¬ (c=i+1):=by omega
  have qa:(i:Int)<=(n:Int)+(1:Int):=by omega
  have uA:¬ (c=i):=by omega
  have mZ:∀ ty dc sc,(Builtin.copy_ #[81,81] ty #[.slice (some ⟨b,off+(i+1)*2,none⟩) (n - i) dc,.slice (some ⟨b,off+i*2,none⟩) (n+1 - i) sc]).run Tryz.prog w.drew=.ok (goInt (Nat.min (n+1 - i) (n - i))) (w.drew.setCells b (off+(i+1)*2) (cs.drop (i*2))):=λ ty dc sc =>
    Er w.drew _ _ ty 104 2 b (off+(i+1)*2) (n - i) dc ⟨b,off+i*2,none⟩ (n+1 - i) sc (cs.drop (i*2)) Tryz.underlying81 aX (by rw [iH]; simp only [Nat.min_def]; split<;>omega)
      (λ j v hj=>by rw [Addr.add_lit,Nat.add_assoc]; exact cF (i*2+j) v (by rwa [List.getElem?_drop] at hj))
      (λ j hj=>by rw [Nat.add_assoc]; exact fw _ (by omega)) (λ j hj=>by rw [Nat.add_assoc]; exact qW _ (by omega)) (λ v hv=>lq v (List.mem_of_mem_drop hv))
  obtain ⟨W1,gk⟩:∃ W1,W1=w.drew.setCells b (off+(i+1)*2) (cs.drop (i*2)):=⟨_,rfl⟩;have oG:∀ k,k<(n+1)*2->(W1.cell? ⟨b,off+k,none⟩).isSome=true:=λ k hk=>by
    rw [gk];exact EO b _ _ _ (λ j hj=>by rw [Nat.add_assoc]; exact fw _ (by omega)) _ (fw k hk)
  have pN:∀ (W:World),(∀ x,W.cell? x=W1.cell? x)->(∀ x,W.frozen? x=W1.frozen? x)->∀ ty dc,(Builtin.copy_ #[81,81] ty #[.slice (some ⟨b,off+i*2,none⟩) (n+1 - i) dc,.slice (some ⟨vb,voff,none⟩) 1 vc]).run Tryz.prog W=.ok (goInt (Nat.min 1 (n+1 - i))) (W.setCells b (off+i*2) vs):=λ W kj nm ty dc =>
    Er W _ _ ty 104 2 b (off+i*2) (n+1 - i) dc ⟨vb,voff,none⟩ 1 vc vs Tryz.underlying81 aX (by rw [il]; simp only [Nat.min_def]; split<;>omega)
      (λ j v hj=>by
        rw [Addr.add_lit,kj,gk,World.cell?_setCells_out b _ _ _ _ (λ h _=>absurd h nG)];exact iO j v hj)
      (λ j hj=>by rw [kj,Nat.add_assoc]; exact oG _ (by omega)) (λ j hj=>by rw [nm,gk,World.frozen?_setCells,Nat.add_assoc]; exact qW _ (by omega)) qv
  rw [<- gk] at mZ;have mixed:Tryz.prog.follows .mixedOrders=true:=by kernel_rfl
  go_enter Tryz.func100,Tryz.ntmps100
  go_wp2_with (simp only [nM])
  go_region_law_o (refine Te rfl _ _ 81 81 rfl _ _ (by simp [Act.eval,Act.put]) (by simp [Act.eval,Act.put]) (mZ _ _ _) ?_)
  go_wp2_with (at_builtin; refine Tf _ rfl _ _ 81 81 rfl _ _ rfl rfl (pN _ (λ _=>rfl) (λ _=>rfl) _ _) ?_)
  go_ret
  first|exact ⟨rfl,rfl⟩|exact ⟨rfl,by rw [gk]⟩
end Go.Proofs.YtijlnmgondibnaaGreatDoor
namespace Go.Proofs.YtijlnmgondibnaaGreatDoor
open Go Go.Shelf Go.RowKit Go.Lib
set_option linter.unusedVariables false
set_option linter.unusedSimpArgs false
theorem Qy {z:Array Value} {k m:Nat} (h:z.size=k):(Builtin.zeroCells z m).size=m*k:=by
  simp [Builtin.zeroCells,h]
set_option maxHeartbeats 4000000 in
set_option maxRecDepth 100000 in
theorem Xu (b off n c i vb voff vc:Nat) (cs vs:List Value) (w:World) (hi:i<n) (ur:n<=c) (cw:c<n+1) (pY:(n+1)*24<=140737488355328)
    (cJ:cs.length=n*2) (il:vs.length=2)
    (cF:∀ j v,cs[j]?=some v->w.cell? ⟨b,off+j,none⟩=some v)
    (iO:∀ j v,vs[j]?=some v->w.cell? ⟨vb,voff+j,none⟩=some v) (lq:∀ v∈cs,v.oneCell'=true) (qv:∀ v∈vs,v.oneCell'=true) :
    Calls Tryz.prog 100 #[.slice (some ⟨b,off,none⟩) n c,.int .i64 i,.slice (some ⟨vb,voff,none⟩) 1 vc] w λ e w' =>
      ∃ G Z,n+1<=G/\G<=maxLen/\Z.size=(G - i)*2/\e=.returned (.slice (some ⟨w.heap.size,0,none⟩) (n+1) G) /\
      w'=(((w.alloc (.cells ((cs.take (i*2)).toArray++Z) 104)).drew.setCells w.heap.size (i*2) vs).drew).setCells w.heap.size ((i+1)*2) (cs.drop (i*2)):=by
  have aX:(Tryz.prog.info? 104).map (·.size)=some 2:=by kernel_rfl
  have eP:(Tryz.prog.info? 104).map (λ i=>(i.size,i.bytes,i.zero.map (λ z=>z.cells.size)))=some (2,24,some 2):=by kernel_rfl
  have mixed:Tryz.prog.follows .mixedOrders=true:=by kernel_rfl
  obtain ⟨i0,mQ,nB,ot,z,nC,km⟩:∃ i0,Tryz.prog.info? 104=some i0/\i0.size=2/\i0.bytes=24/\∃ z,i0.zero=some z/\z.cells.size=2:=by
    cases h:Tryz.prog.info? 104 with
    | none=>rw [h] at eP; cases eP
    | some i0 =>
      rw [h] at eP;simp only [Option.map_some,Option.some.injEq,Prod.mk.injEq,Option.map_eq_some_iff] at eP;obtain ⟨h1,h2,z,h3,h4⟩:=eP;exact ⟨i0,rfl,h1,h2,z,h3,h4⟩
  have ou:¬ ((i:Int)=(n:Int)):=by omega
  have uo:(c:Int)<(n:Int)+(1:Int):=by omega
  have tj:b<w.heap.size:=block_lt_of_cell (cF 0 _ (List.getElem?_eq_getElem (by omega)));have dZ:vb<w.heap.size:=block_lt_of_cell (iO 0 _ (List.getElem?_eq_getElem (by omega)));have mJ:(n:Int)+(1:Int) - (i:Int)=((n+1 - i:Nat):Int):=by omega
  have mO:i+(n+1 - i)=n+1:=by omega
  have iP:(cs.take (i*2)).length=i*2:=by rw [List.length_take,cJ]; omega
  have hold:(Builtin.firstCells i0.size i (.slice (some ⟨b,off,none⟩) i c)).run Tryz.prog w.drew=.ok (cs.take (i*2)).toArray w.drew:=by
    rw [nB];exact run_firstCells_some w.drew 2 i ⟨b,off,none⟩ i c (cs.take (i*2)) iP (λ j v hj=>by
      rw [Addr.add_lit];rw [List.getElem?_take] at hj;split at hj
      . exact cF j v hj
      . cases hj)
  obtain ⟨G,hG⟩:∃ G,G=grownCap w (n+1) c 104:=⟨_,rfl⟩;have tP:n+1<=G:=by rw [hG]; exact grownCap_ge w _ _ _
  have oi:G<=maxLen:=by
    rw [hG]; exact grownCap_le_maxLen w (n+1) c 104 (by unfold maxLen; omega)
  have tR:G<=9223372036854775807:=oi;obtain ⟨Z,hZ⟩:∃ Z:Array Value,Z=Builtin.zeroCells z.cells (n+1 - i)++Builtin.zeroCells z.cells (G - (n+1)):=⟨_,rfl⟩;have qe:Z.size=(G - i)*2:=by rw [hZ,Array.size_append,Qy km,Qy km]; omega
  have oI:∀ ty,(Builtin.append_ #[81,3] ty #[.slice (some ⟨b,off,none⟩) i c,.int .i64 ((n:Int)+(1:Int) - (i:Int))]).run Tryz.prog w =
      .ok (.slice (some ⟨w.heap.size,0,none⟩) (n+1) G) (w.drew.alloc (.cells ((cs.take (i*2)).toArray++Z) 104)):=λ ty=>by
    have h:=Lib.run_append_grow_zeros w 81 3 ty 104 i0 z .i64 .i64 Tryz.underlying81 Tryz.underlying3 mQ nC (some ⟨b,off,none⟩) i c (cs.take (i*2)) hold (n+1 - i) (by omega) (by omega) (by omega) (by omega) (by rw [ot]; omega) (by rw [ot,mO]; exact growslice_fits cw pY);rw [mO,<- hG,Array.append_assoc,<- hZ] at h;rw [mJ];exact h
  obtain ⟨ROW,jE⟩:∃ ROW:Array Value,ROW=(cs.take (i*2)).toArray++Z:=⟨_,rfl⟩;rw [<- jE] at oI;have qj:(n+1)*2<=ROW.size:=by
    rw [jE,Array.size_append,qe,List.size_toArray,iP];omega
  obtain ⟨W1,gk⟩:∃ W1,W1=w.drew.alloc (.cells ROW 104):=⟨_,rfl⟩;rw [<- gk] at oI;have hN:∀ j,j<(n+1)*2->(W1.cell? ⟨w.heap.size,j,none⟩).isSome=true:=λ j hj=>by
    rw [gk,World.cell?_alloc_at (w:=w.drew) ROW _ w.heap.size j rfl,Array.getElem?_eq_getElem (by omega)]; rfl
  have rk:∀ j,W1.frozen? ⟨w.heap.size,j,none⟩=false:=λ j=>by rw [gk]; exact World.frozen?_alloc_at (w:=w.drew) ROW _ w.heap.size j rfl
  have nZ:∀ j v,w.cell? ⟨b,j,none⟩=some v->W1.cell? ⟨b,j,none⟩=some v:=λ j v h=>by rw [gk,World.cell?_alloc_past (w:=w.drew) _ b j tj]; exact h
  have tH:∀ j v,w.cell? ⟨vb,j,none⟩=some v->W1.cell? ⟨vb,j,none⟩=some v:=λ j v h=>by rw [gk,World.cell?_alloc_past (w:=w.drew) _ vb j dZ]; exact h
  have pM:∀ (W:World),(∀ x,W.cell? x=W1.cell? x)->(∀ x,W.frozen? x=W1.frozen? x)->∀ ty dc,(Builtin.copy_ #[81,81] ty #[.slice (some ⟨w.heap.size,i*2,none⟩) (n+1 - i) dc,.slice (some ⟨vb,voff,none⟩) 1 vc]).run Tryz.prog W=.ok (goInt (Nat.min 1 (n+1 - i))) (W.setCells w.heap.size (i*2) vs):=λ W kj nm ty dc =>
    Er W _ _ ty 104 2 w.heap.size (i*2) (n+1 - i) dc ⟨vb,voff,none⟩ 1 vc vs Tryz.underlying81 aX (by rw [il]; simp only [Nat.min_def]; split<;>omega)
      (λ j v hj=>by rw [Addr.add_lit,kj]; exact tH _ v (iO j v hj))
      (λ j hj=>by rw [kj]; exact hN _ (by omega)) (λ j hj=>by rw [nm]; exact rk _) qv
  have uC:¬ (G=i):=by omega
  have tQ:¬ (G=i+1):=by omega
  have kg:¬ (c=i):=by omega
  have tn:b≠w.heap.size:=by omega
  have iH:(cs.drop (i*2)).length=(n - i)*2:=by rw [List.length_drop,cJ]; omega
  have pL:∀ (W:World),(∀ x,W.cell? x=(W1.setCells w.heap.size (i*2) vs).cell? x)->(∀ x,W.frozen? x=(W1.setCells w.heap.size (i*2) vs).frozen? x)->∀ ty dc sc,(Builtin.copy_ #[81,81] ty #[.slice (some ⟨w.heap.size,(i+1)*2,none⟩) (n - i) dc,.slice (some ⟨b,off+i*2,none⟩) (n - i) sc]).run Tryz.prog W=.ok (goInt (Nat.min (n - i) (n - i))) (W.setCells w.heap.size ((i+1)*2) (cs.drop (i*2))):=λ W kj nm ty dc sc =>
    Er W _ _ ty 104 2 w.heap.size ((i+1)*2) (n - i) dc ⟨b,off+i*2,none⟩ (n - i) sc (cs.drop (i*2)) Tryz.underlying81 aX (by rw [iH]; simp only [Nat.min_def]; split<;>omega)
      (λ j v hj=>by
        rw [Addr.add_lit,kj,World.cell?_setCells_out _ _ _ _ _ (λ h _=>absurd h tn),Nat.add_assoc];exact nZ _ v (cF (i*2+j) v (by rwa [List.getElem?_drop] at hj)))
      (λ j hj=>by rw [kj]; exact EO _ _ _ _ (λ t ht=>hN _ (by omega)) _ (hN _ (by omega)))
      (λ j hj=>by rw [nm,World.frozen?_setCells]; exact rk _) (λ v hv=>lq v (List.mem_of_mem_drop hv))
  subst gk;have tT:∀ x,((w.alloc (.cells ROW 104)).drew).cell? x=(w.drew.alloc (.cells ROW 104)).cell? x:=λ x=>rfl;have tS:∀ x,((w.alloc (.cells ROW 104)).drew).frozen? x=(w.drew.alloc (.cells ROW 104)).frozen? x:=λ x=>rfl;have nA:∀ x,(((w.alloc (.cells ROW 104)).drew.setCells w.heap.size (i*2) vs).drew).cell? x=((w.drew.alloc (.cells ROW 104)).setCells w.heap.size (i*2) vs).cell? x:=λ x=>rfl;have nz:∀ x,(((w.alloc (.cells ROW 104)).drew.setCells w.heap.size (i*2) vs).drew).frozen? x=((w.drew.alloc (.cells ROW 104)).setCells w.heap.size (i*2) vs).frozen? x:=λ x=>rfl;have jI:IntKind.i64.wrap ((i:Int)+(1:Int))=(i:Int)+(1:Int):=by rw [IntKind.wrap_i64]; omega
  have dG:(0:Int)<=(i:Int)+(1:Int):=by omega
  have dv:i<=n:=by omega
  have qF:((i:Int)+(1:Int)).toNat=i+1:=by omega
  have qa:(i:Int)<=(n:Int):=by omega
  suffices eM:Calls Tryz.prog 100 #[.slice (some ⟨b,off,none⟩) n c,.int .i64 i,.slice (some ⟨vb,voff,none⟩) 1 vc] w λ e w'=>e=.returned (.slice (some ⟨w.heap.size,0,none⟩) (n+1) G) /\
      w'=(((w.alloc (.cells ROW 104)).drew.setCells w.heap.size (i*2) vs).drew).setCells w.heap.size ((i+1)*2) (cs.drop (i*2)) by
    refine eM.mono ?_;rintro e w' ⟨rfl,rfl⟩;exact ⟨G,Z,tP,oi,qe,rfl,by rw [<- jE]⟩
  clear mJ mO hold qj eP aX mQ nC nB ot km hG hZ jE qe
  go_enter Tryz.func100,Tryz.ntmps100
  go_wp2_with (first
    | (at_builtin; refine Lib.wpList_append_run _ rfl _ _ _ _ rfl _ _ rfl rfl _ _ (oI _) ?_)
    | (at_builtin; refine Tf _ rfl _ _ 81 81 rfl _ _ rfl rfl (pM _ tT tS _ _) ?_))
  go_region_law_o (refine Te rfl _ _ 81 81 rfl (.slice (some ⟨w.heap.size,(i+1)*2,none⟩) (n - i) (G - (i+1))) (.slice (some ⟨b,off+i*2,none⟩) (n - i) (c - i)) (by simp [Act.eval,Act.put]) (by simp [Act.eval,Act.put]) (pL _ nA nz 3 (G - (i+1)) (c - i)) ?_)
  go_wp2
  go_ret
  exact ⟨rfl,rfl⟩
end Go.Proofs.YtijlnmgondibnaaGreatDoor
namespace Go.Proofs.YtijlnmgondibnaaGreatDoor
open Go.Ex
set_option maxRecDepth 100000
abbrev C4:=Int×yY×Unit
def ym (l:List C4) (i:Int) (m:List C4):List C4:=l.take i.toNat++m++l.drop i.toNat
theorem Ch (b:Nat):∀ (vs:List Value) (o:Nat) (w:World),(w.setCells b o vs).heap.size=w.heap.size/\(w.setCells b o vs).os=w.os/\(w.setCells b o vs).output=w.output/\(w.setCells b o vs).tape=w.tape/\(w.setCells b o vs).drawn=w.drawn /\
    (∀ c,c≠b->(w.setCells b o vs).heap[c]?=w.heap[c]?)/\∀ arr T fz,w.heap[b]?=some (.cells arr T fz)->∃ db,(w.setCells b o vs).heap[b]?=some (.cells db T fz)/\db.size=arr.size
  | [],_,_=>⟨rfl,rfl,rfl,rfl,rfl,λ _ _=>rfl,λ arr _ _ h=>⟨arr,h,rfl⟩⟩
  | v::r,o,w=>by
    obtain ⟨h1,h2,h3,h4,h5,h6,h7⟩:=Ch b r (o+1) (w.setCell ⟨b,o,none⟩ v);have e1:(w.setCell ⟨b,o,none⟩ v).heap.size=w.heap.size:=by simp [World.setCell]
    have e2:∀ c,c≠b->(w.setCell ⟨b,o,none⟩ v).heap[c]?=w.heap[c]?:=λ c hc=>by
      simp only [World.setCell,Array.getElem?_modify,if_neg (Ne.symm hc)]
    refine ⟨h1.trans e1,h2,h3,h4,h5,λ c hc=>(h6 c hc).trans (e2 c hc),λ arr T fz h=>?_⟩;have:(w.setCell ⟨b,o,none⟩ v).heap[b]?=some (.cells (arr.setIfInBounds o v) T fz):=by
      simp [World.setCell,Array.getElem?_modify,h]
    obtain ⟨db,g1,g2⟩:=h7 _ T fz this;exact ⟨db,g1,by rw [g2,Array.size_setIfInBounds]⟩
theorem Rz {w:World} {b off:Nat} {arr:Array Value} {T:TypeId} {fz:Nat×Nat} (h:w.heap[b]?=some (.cells arr T fz)) {F:List Value} {n:Nat} (hn:F.length=n) (hc:∀ j,j<n->w.cell? ⟨b,off+j,none⟩=F[j]?):e8 w.heap b off n=F:=by
  have bO:∀ k,w.cell? ⟨b,k,none⟩=arr[k]?:=λ k=>by simp [World.cell?,h]
  simp only [e8,u7,h];apply List.ext_getElem?;intro j;rw [List.getElem?_take,List.getElem?_drop];by_cases hj:j<n
  . rw [if_pos hj,<- hc j hj,bO,Array.getElem?_toList]
  . rw [if_neg hj,List.getElem?_eq_none (by omega)]
theorem RR {α:Type} (A B C:List α) (j:Nat):(A++B++C)[j]?=if j<A.length then A[j]? else if j<A.length+B.length then B[j - A.length]? else C[j - (A.length+B.length)]?:=by
  rw [List.getElem?_append,List.getElem?_append,List.length_append]
  split<;>split<;>first|rfl|omega|(split<;>first|rfl|omega)
theorem Nx {w:World} {S:Nat->Prop} {t:Ty} (ht:t.shared=true) {L:List Nat} {cs:List Value} {l:List t.den} (h:g9 w.heap S (.d0 true t) L cs l) (hl:0<l.length) :
    ∃ b off cap,L=[b]/\cs=[.slice (some ⟨b,off,none⟩) l.length cap]/\l.length<=cap/\zj true cap/\i8 (g9 w.heap S t) t.size [] (e8 w.heap b off (l.length*t.size)) l/\T6 t.isB w.heap b (off+cap*t.size):=by
  rcases h with ⟨_,_,rfl⟩|⟨b,off,cap,O',h1,h2,h3,h4,h5,h6,h7⟩
  . simp at hl
  have hO:O'=[]:=i8.M8 (λ _ _ _ hr=>g9.M8 ht hr) h5;subst hO;exact ⟨b,off,cap,h6,h1,h2,h3,h5,h7⟩
def zm:o7:={ ps:=[.own (.d0 true p9),.v d9,.own (.d0 true p9)],rs:=[.d0 true p9],pre:=λ x=>(LE.le (α:=Int) 0 x.2.1/\LT.lt (α:=Int) x.2.1 (List.length (α:=C4) x.1))/\List.length (α:=C4) x.1<=1000/\List.length (α:=C4) x.2.2.1=1,fn:=λ x=>(ym x.1 x.2.1 x.2.2.1,()),out:=λ _=>() }
theorem Ny {w w':World} {L:List Nat} (h1:w'.os=w.os) (h2:w'.tape=w.tape) (h3:w.drawn<=w'.drawn) (h4:w'.output=w.output) (h5:w.heap.size<=w'.heap.size) (h6:∀ c,c<w.heap.size->c∉L->w'.heap[c]?=w.heap[c]?):E4 L w w':=⟨h1,⟨h2,h3⟩,h4,h5,h6⟩
theorem Sb:zm.Valid Tryz.prog 100:=by
  refine ⟨⟨_,Tryz.func100,by kernel_rfl,by kernel_rfl⟩,?_,λ h=>by cases h⟩;rintro w S vs ⟨(l:List C4),(i0:Int),(m:List C4),⟨⟩⟩ L hS - ⟨⟨(p0:0<=i0),(p1:i0<(l.length:Int))⟩,(p2:l.length<=1000),(p3:m.length=1)⟩ nO - aF hL;obtain ⟨v1,us,L1,L2,rfl,rfl,⟨cs1,rfl,r1⟩,v2,us,L3,L4,rfl,rfl,⟨rfl,cs2,rfl,r2⟩,v3,us,L5,L6,rfl,rfl,⟨cs3,rfl,r3⟩,rfl,rfl⟩:=nO;obtain ⟨i,rfl⟩:∃ i:Nat,i0=i:=⟨i0.toNat,by omega⟩;have r1:g9 w.heap S (.d0 true p9) L1 cs1 l:=r1;have r3:g9 w.heap S (.d0 true p9) L5 cs3 m:=r3;obtain ⟨b,off,cap,rfl,rfl,c2,c3,c4,c5⟩:=Nx rfl r1 (by omega);obtain ⟨vb,voff,vc,rfl,rfl,d2,d3,d4,d5⟩:=Nx rfl r3 (by omega);obtain ⟨-,rfl,-⟩:=r2;have aX:Ty.size p9=2:=rfl;have c4:i8 (g9 w.heap S p9) 2 [] (e8 w.heap b off (l.length*2)) l:=c4;have c5:T6 false w.heap b (off+cap*2):=c5;have d5:T6 false w.heap vb (voff+vc*2):=d5;have d4:i8 (g9 w.heap S p9) 2 [] (e8 w.heap vb voff (1*2)) m:=by rw [<- p3]; exact d4
  have nG:vb≠b:=by
    rintro rfl;simp at aF
  have nV:=hL b (by simp);have kt:=hL vb (by simp);obtain ⟨arr,T,⟨fz,e1,ef⟩,en⟩:=c5;obtain rfl:fz=(0,0):=ef.elim id (λ h=>by cases h.1);obtain ⟨varr,vT,⟨vfz,g1,gf⟩,gn⟩:=d5;obtain rfl:vfz=(0,0):=gf.elim id (λ h=>by cases h.1);rw [p3];have cQ:cap<=maxLen:=c3.1;have cJ:(e8 w.heap b off (l.length*2)).length=l.length*2:=i8.length (λ _ _ _ h=>h.length) c4;have il:(e8 w.heap vb voff (1*2)).length=2:=by have:=i8.length (λ _ _ _ h=>h.length) d4; rw [p3] at this; exact this
  have cg:=i8.plain (λ _ _ _ hr=>hr.plain) c4;have qK:=i8.plain (λ _ _ _ hr=>hr.plain) d4;have bO:∀ k,w.cell? ⟨b,k,none⟩=arr[k]?:=λ k=>by simp [World.cell?,e1]
  have kT:∀ k,w.frozen? ⟨b,k,none⟩=false:=λ k=>by simp [World.frozen?,e1]
  have mS:∀ k,w.frozen? ⟨vb,k,none⟩=false:=λ k=>by simp [World.frozen?,g1]
  have cF:∀ j v,(e8 w.heap b off (l.length*2))[j]?=some v->w.cell? ⟨b,off+j,none⟩=some v:=λ j v h=>M0 h;have iO:∀ j v,(e8 w.heap vb voff (1*2))[j]?=some v->w.cell? ⟨vb,voff+j,none⟩=some v:=λ j v h=>M0 h;have jA:zm.fn (l,(i:Int),m,())=(l.take i++m++l.drop i,()):=rfl;have jX:i<l.length:=by omega
  obtain ⟨q1,q2⟩:i8 (g9 w.heap S p9) 2 [] ((e8 w.heap b off (l.length*2)).take (i*2)) (l.take i)/\i8 (g9 w.heap S p9) 2 [] ((e8 w.heap b off (l.length*2)).drop (i*2)) (l.drop i):=by
    obtain ⟨P1,P2,P3,e,k1,k2,k3⟩:=i8.split (d:=((0:Int),([]:yY),())) jX c4;have e:=e.symm;simp only [List.append_eq_nil_iff] at e;obtain ⟨rfl,rfl,rfl⟩:=e;refine ⟨k1,?_⟩;have h9:l.drop i=l.getD i (0,[],())::l.drop (i+1):=by
      rw [List.drop_eq_getElem_cons jX,List.getD_eq_getElem?_getD,List.getElem?_eq_getElem jX]; rfl
    rw [h9];refine ⟨[],[],rfl,k2,?_⟩;rw [List.drop_drop,show i*2+2=(i+1)*2 by omega];exact k3
  have oK:i8 (g9 w.heap S p9) 2 [] ((e8 w.heap b off (l.length*2)).take (i*2)++e8 w.heap vb voff (1*2)++(e8 w.heap b off (l.length*2)).drop (i*2)) (l.take i++m++l.drop i):=by
    have h1:=i8.append (λ _ _ _ h=>h.length) q1 d4;exact i8.append (λ _ _ _ h=>h.length) h1 q2
  have hlen:(l.take i++m++l.drop i).length=l.length+1:=by simp only [List.length_append,List.length_take,List.length_drop]; omega
  have iP:((e8 w.heap b off (l.length*2)).take (i*2)).length=i*2:=by rw [List.length_take,cJ]; omega
  have iH:((e8 w.heap b off (l.length*2)).drop (i*2)).length=(l.length - i)*2:=by rw [List.length_drop,cJ]; omega
  have fin:∀ {w':World} {c o G:Nat} {db:Array Value} {T':TypeId},E4 [b,vb] w w'->(c=b\/w.heap.size<=c)->l.length+1<=G->G<=maxLen->w'.heap[c]?=some (.cells db T' (0,0))->o+G*2<=db.size ->
      e8 w'.heap c o ((l.length+1)*2)=(e8 w.heap b off (l.length*2)).take (i*2)++e8 w.heap vb voff (1*2)++(e8 w.heap b off (l.length*2)).drop (i*2) ->
      xh w S zm.rs zm.ps [o8 (.d0 true p9) [.slice (some ⟨b,off,none⟩) l.length cap],o8 d9 [.int .i64 i],o8 (.d0 true p9) [.slice (some ⟨vb,voff,none⟩) 1 vc]] [b,vb] (zm.fn (l,(i:Int),m,())) (zm.out (l,(i:Int),m,())) (.returned (.slice (some ⟨c,o,none⟩) (l.length+1) G)) w':=by
    intro w' c o G db T' hp hc hG oi ha hs pT;have cj:∀ {cs:List Value} {l':List C4},i8 (g9 w.heap S p9) 2 [] cs l'->i8 (g9 w'.heap S p9) 2 [] cs l':=λ hr=>i8.mono (L:=[]) (λ _ h=>h) (λ O cs x hO hr=>hr.s8 (λ d hd=>by
      rcases hd with hd|hd
      . exact absurd (hO d hd) (by simp)
      . refine hp.frame d (hS d hd) (λ hm=>?_);rcases List.mem_cons.1 hm with rfl|hm
        . exact nV.1 hd
        . rw [List.mem_singleton] at hm; subst hm; exact kt.1 hd) (λ _ h=>h)) hr
    refine ⟨[.slice (some ⟨c,o,none⟩) (l.length+1) G],[c],[],S,rfl,hp,λ _ h=>h,λ _ h=>.inl h,⟨_,[],[c],[],[.slice (some ⟨c,o,none⟩) (l.length+1) G],rfl,rfl,rfl,?_,rfl,rfl⟩,⟨_,_,rfl,_,_,rfl,_,_,rfl,rfl,rfl⟩,by simp,?_⟩
    . rw [jA];refine .inr ⟨c,o,G,[],by rw [hlen],by rw [hlen]; exact hG,⟨oi,λ _=>by omega⟩,?_,?_,rfl,db,T',⟨(0,0),ha,.inl rfl⟩,hs⟩
      . rw [hlen,aX]; simp only [u7,ha,Array.length_toList]; omega
      . rw [hlen,aX,pT]; exact cj oK
    . intro d hd;simp only [List.append_nil,List.mem_singleton] at hd;subst hd;refine ⟨λ h=>?_,?_,?_⟩
      . rcases hc with rfl|hc
        . exact nV.1 h
        . have:=hS d h; omega
      . rcases hc with rfl|hc
        . right; simp
        . left; exact hc
      . exact (Array.getElem?_eq_some_iff.1 ha).1
  by_cases cw:l.length+1<=cap
  . have jS:(l.length+1)*2<=cap*2:=Nat.mul_le_mul_right _ cw;refine (YO b off l.length cap i vb voff vc (e8 w.heap b off (l.length*2)) (e8 w.heap vb voff (1*2)) w jX cw cQ nG cJ il cF
      (λ j hj=>by rw [bO,Array.getElem?_eq_getElem (by omega)]; rfl) (λ j _=>kT _) iO (λ v hv=>(cg v hv).1) (λ v hv=>(qK v hv).1)
      vT T varr.size arr.size (by simp [World.shape?,g1]) (by simp [World.shape?,e1]) (by omega) (mS _) (mS _)).mono ?_
    rintro e w' ⟨rfl,rfl⟩;obtain ⟨A1,A2,A3,A4,A5,A6,A7⟩:=Ch b ((e8 w.heap b off (l.length*2)).drop (i*2)) (off+(i+1)*2) w.drew;obtain ⟨B1,B2,B3,B4,B5,B6,B7⟩:=Ch b (e8 w.heap vb voff (1*2)) (off+i*2) (w.drew.setCells b (off+(i+1)*2) ((e8 w.heap b off (l.length*2)).drop (i*2)));obtain ⟨arr1,x1,x2⟩:=A7 arr T (0,0) e1;obtain ⟨arr2,y1,y2⟩:=B7 arr1 T (0,0) x1;have cq:∀ k,off+k<off+cap*2->(w.drew.cell? ⟨b,off+k,none⟩).isSome=true:=λ k hk=>by
      show (w.cell? ⟨b,off+k,none⟩).isSome=true;rw [bO,Array.getElem?_eq_getElem (by omega)]; rfl
    have gm:∀ k,off+k<off+cap*2->((w.drew.setCells b (off+(i+1)*2) ((e8 w.heap b off (l.length*2)).drop (i*2))).cell? ⟨b,off+k,none⟩).isSome=true:=λ k hk =>
      EO b _ _ _ (λ j hj=>by rw [iH] at hj; rw [Nat.add_assoc]; exact cq _ (by omega)) _ (cq k hk)
    refine fin (T':=T) (db:=arr2) ?_ (.inl rfl) cw cQ y1 (by rw [y2,x2]; exact en) ?_
    . refine Ny (B2.trans A2) (B4.trans A4) (by rw [B5,A5]; exact Nat.le_succ _) (B3.trans A3) (by rw [B1,A1]; exact Nat.le_refl _) (λ c hc hn=>?_);have cA:c≠b:=λ e=>hn (by simp [e]);exact (B6 c cA).trans (A6 c cA)
    . refine Rz y1 (by rw [List.length_append,List.length_append,iP,il,iH]; omega) (λ j hj=>?_);rw [RR,iP,il];by_cases k1:j<i*2
      . rw [if_pos k1,World.cell?_setCells_out b _ _ _ _ (λ _ _=>.inl (by show off+j<_; omega)),World.cell?_setCells_out b _ _ _ _ (λ _ _=>.inl (by show off+j<_; omega)),List.getElem?_take,if_pos k1];have iV:j<(e8 w.heap b off (l.length*2)).length:=by omega
        rw [List.getElem?_eq_getElem iV];exact cF j _ (List.getElem?_eq_getElem iV)
      . rw [if_neg k1];by_cases k2:j<i*2+2
        . rw [if_pos k2];have:=World.cell?_setCells_in b (e8 w.heap vb voff (1*2)) (off+i*2) (w.drew.setCells b (off+(i+1)*2) ((e8 w.heap b off (l.length*2)).drop (i*2))) (λ j hj=>by rw [Nat.add_assoc]; exact gm _ (by omega)) (j - i*2) (by omega);rw [show off+i*2+(j - i*2)=off+j by omega] at this;rw [this,List.getElem?_eq_getElem]
        . rw [if_neg k2,World.cell?_setCells_out b _ _ _ _ (λ _ _=>.inr (by show _<=off+j; rw [il]; omega))];have:=World.cell?_setCells_in b ((e8 w.heap b off (l.length*2)).drop (i*2)) (off+(i+1)*2) w.drew (λ j hj=>by rw [iH] at hj; rw [Nat.add_assoc]; exact cq _ (by omega)) (j - (i*2+2)) (by omega);rw [show off+(i+1)*2+(j - (i*2+2))=off+j by omega] at this;rw [this,List.getElem?_eq_getElem]
  . refine (Xu b off l.length cap i vb voff vc (e8 w.heap b off (l.length*2)) (e8 w.heap vb voff (1*2)) w jX c2 (by omega) (by omega) cJ il cF iO (λ v hv=>(cg v hv).1) (λ v hv=>(qK v hv).1)).mono ?_;rintro e w' ⟨G,Z,z1,z2,z3,rfl,rfl⟩;generalize jL:((e8 w.heap b off (l.length*2)).take (i*2)).toArray++Z=ROW;have tE:ROW.size=G*2:=by rw [<- jL,Array.size_append,List.size_toArray,iP,z3]; omega
    generalize hN:w.heap.size=N;have n1:((w.alloc (.cells ROW 104)).drew).heap[N]?=some (.cells ROW 104 (0,0)):=by
      show (w.heap.push _)[N]?=_;rw [<- hN]; simp
    have n2:∀ c,c<N->((w.alloc (.cells ROW 104)).drew).heap[c]?=w.heap[c]?:=λ c hc=>by
      show (w.heap.push _)[c]?=_;rw [Array.getElem?_push,if_neg (by omega)]
    have n3:((w.alloc (.cells ROW 104)).drew).heap.size=N+1:=by show (w.heap.push _).size=_; rw [Array.size_push,hN]
    obtain ⟨A1,A2,A3,A4,A5,A6,A7⟩:=Ch N (e8 w.heap vb voff (1*2)) (i*2) ((w.alloc (.cells ROW 104)).drew);generalize gk:((w.alloc (.cells ROW 104)).drew).setCells N (i*2) (e8 w.heap vb voff (1*2))=W1 at *
    obtain ⟨B1,B2,B3,B4,B5,B6,B7⟩:=Ch N ((e8 w.heap b off (l.length*2)).drop (i*2)) ((i+1)*2) W1.drew;obtain ⟨arr1,x1,x2⟩:=A7 ROW 104 (0,0) n1;obtain ⟨arr2,y1,y2⟩:=B7 arr1 104 (0,0) x1;have qX:∀ k,((w.alloc (.cells ROW 104)).drew).cell? ⟨N,k,none⟩=ROW[k]?:=λ k=>by simp only [World.cell?,n1]; rfl
    have cq:∀ k,k<G*2->(((w.alloc (.cells ROW 104)).drew).cell? ⟨N,k,none⟩).isSome=true:=λ k hk=>by
      rw [qX,Array.getElem?_eq_getElem (by omega)]; rfl
    have gm:∀ k,k<G*2->(W1.drew.cell? ⟨N,k,none⟩).isSome=true:=λ k hk=>by
      show (W1.cell? ⟨N,k,none⟩).isSome=true;rw [<- gk];exact EO N _ _ _ (λ j hj=>cq _ (by omega)) _ (cq k hk)
    refine fin (c:=N) (o:=0) (G:=G) (T':=104) (db:=arr2) ?_ (.inr (by omega)) z1 z2 y1 (by rw [y2,x2,tE]; omega) ?_
    . refine Ny (B2.trans A2) (B4.trans A4) (by rw [B5]; show _<=W1.drawn+1; rw [A5]; show w.drawn<=w.drawn+1+1; omega) (B3.trans A3) (by rw [B1]; show _<=W1.heap.size; rw [A1,n3]; omega) (λ c hc hn=>?_);have cA:c≠N:=by omega
      exact (B6 c cA).trans ((A6 c cA).trans (n2 c (by omega)))
    . refine Rz y1 (by rw [List.length_append,List.length_append,iP,il,iH]; omega) (λ j hj=>?_);rw [RR,iP,il,Nat.zero_add];by_cases k1:j<i*2
      . rw [if_pos k1,World.cell?_setCells_out N _ _ _ _ (λ _ _=>.inl (by show j<_; omega))];show W1.cell? ⟨N,j,none⟩=_;rw [<- gk,World.cell?_setCells_out N _ _ _ _ (λ _ _=>.inl (by show j<_; omega)),qX,<- jL];rw [Array.getElem?_append,if_pos (by rw [List.size_toArray,iP]; exact k1),List.getElem?_toArray]
      . rw [if_neg k1];by_cases k2:j<i*2+2
        . rw [if_pos k2,World.cell?_setCells_out N _ _ _ _ (λ _ _=>.inl (by show j<_; omega))];show W1.cell? ⟨N,j,none⟩=_;have:=World.cell?_setCells_in N (e8 w.heap vb voff (1*2)) (i*2) ((w.alloc (.cells ROW 104)).drew) (λ j hj=>cq _ (by omega)) (j - i*2) (by omega);rw [gk,show i*2+(j - i*2)=j by omega] at this;rw [this,List.getElem?_eq_getElem]
        . rw [if_neg k2];have:=World.cell?_setCells_in N ((e8 w.heap b off (l.length*2)).drop (i*2)) ((i+1)*2) W1.drew (λ j hj=>by rw [iH] at hj; exact gm _ (by omega)) (j - (i*2+2)) (by omega);rw [show (i+1)*2+(j - (i*2+2))=j by omega] at this;rw [this,List.getElem?_eq_getElem]
def LH:o7:={ ps:=[.own (.d0 true p9),.v d9,.own (.d0 true p9)],rs:=[.d0 true p9],pre:=λ x=>x.2.1=(List.length (α:=C4) x.1:Int)/\List.length (α:=C4) x.1<=1000/\List.length (α:=C4) x.2.2.1=1,fn:=λ x=>(ym x.1 x.2.1 x.2.2.1,()),out:=λ _=>() }
noncomputable def FL:Env:={ P:=Tryz.prog,tt:=tt,C5:=[],res:=[Go.ResultVar.tmp 6],rs:=[Ty.d0 true p9],ps:=[PK.own (Ty.d0 true p9),PK.v d9,PK.own (Ty.d0 true p9)],y8:=[],nt:=95 }
theorem NP:w5 FL:=w9 p7 trivial
theorem Oh:B8 FL Tryz.f100:=⟨rfl,rfl⟩
theorem Uv (x0:List (Int×yY×Unit)) (x1:Int) (x2:List (Int×yY×Unit)):exec FL 1000 [.code (d8 Tryz.prog 100)] (s7 LH.ps ((x0,x1,x2,()))) =
  .f7 ((0:Int)<=x1/\x1<=(↑(List.length x0):Int)/\(↑(List.length x0):Int)<=(↑(List.length x0):Int)) (cond (decide ((↑(List.length x2):Int)=(0:Int))) (.ret ((x0,()))) (cond (decide (x1=(↑(List.length x0):Int))) (.f7 (List.length x0+List.length x2<=140737488355328/\(List.length x0+List.length x2)*Ty.wb p9<=140737488355328) (.ret ((x0++x2,())))) (.f7 (r7 IntKind.i64 ((↑(List.length x0):Int)+(↑(List.length x2):Int))) (.stuck "cap")))):=by kernel_rfl
theorem b7T:LH.Valid Tryz.prog 100:=by
  refine o7.n8 NP rfl rfl Tryz.func100 (c:=d8 Tryz.prog 100) rfl rfl Oh rfl ?_;rintro ⟨(l:List C4),(i:Int),(m:List C4),⟨⟩⟩ ⟨(p1:i=(l.length:Int)),(p2:l.length<=1000),(p3:m.length=1)⟩ -
  subst p1;refine j6 (n:=1000) NP Oh ?_;refine i6 (Uv l (l.length:Int) m) ?_;have Th:Ty.wb p9=24:=rfl;simp only [j5,Tree.holds,Th,sL];refine ⟨by omega,λ _=>⟨λ h=>absurd h (by omega),λ _=>⟨⟨⟨by omega,by omega⟩,λ _=>?_⟩,λ h=>absurd trivial h⟩⟩⟩;show ((l++m,()):List C4×Unit)=(ym l (l.length:Int) m,());unfold ym;rw [Int.toNat_natCast,List.take_length,List.drop_length,List.append_nil]
def Lm:o7:={ ps:=[.own (.d0 true p9),.v d9,.own (.d0 true p9)],rs:=[.d0 true p9],pre:=λ x=>(LE.le (α:=Int) 0 x.2.1/\LE.le (α:=Int) x.2.1 (List.length (α:=C4) x.1))/\List.length (α:=C4) x.1<=1000/\List.length (α:=C4) x.2.2.1=1,fn:=λ x=>(ym x.1 x.2.1 x.2.2.1,()),out:=λ _=>() }
theorem c0T:Lm.Valid Tryz.prog 100:=by
  refine ⟨Sb.ent,?_,λ h=>by cases h⟩;rintro w S vs ⟨(l:List C4),(i:Int),(m:List C4),⟨⟩⟩ L hS dY ⟨⟨(p0:0<=i),(p1:i<=(l.length:Int))⟩,(p2:l.length<=1000),(p3:m.length=1)⟩ nO dm aF hL;by_cases h:i<(l.length:Int)
  . exact Sb.run w S vs (l,i,m,()) L hS dY ⟨⟨p0,h⟩,p2,p3⟩ nO dm aF hL
  . exact b7T.run w S vs (l,i,m,()) L hS dY ⟨by show i=(l.length:Int); omega,p2,p3⟩ nO dm aF hL
theorem Uc:Ty.wb p9=24:=rfl
def Gl:o7:={ ps:=[.v (.d0 false p9)],rs:=[.d0 true p9],pre:=λ x=>List.length (α:=s9) x.1<=1048576,fn:=λ x=>x,out:=λ _=>() }
noncomputable def Fu:Env:={ P:=Tryz.prog,tt:=tt,C5:=[],res:=[Go.ResultVar.tmp 2],rs:=[Ty.d0 true p9],ps:=[PK.v K6],y8:=[],nt:=8 }
theorem NU:w5 Fu:=w9 p7 trivial
theorem Oo:B8 Fu Tryz.f97:=⟨rfl,rfl⟩
theorem VY (x0:List (Int×yY×Unit)):exec Fu 1000 [.code (d8 Tryz.prog 97)] (s7 Gl.ps ((x0,()))) =
  .both (x0=[]) (.ret (([],()))) (.f7 ((0:Nat)+List.length x0<=140737488355328/\((0:Nat)+List.length x0)*Ty.wb p9<=140737488355328) (.ret (([]++x0,())))):=by kernel_rfl
theorem b7J:Gl.Valid Tryz.prog 97:=by
  refine o7.n8 NU rfl rfl Tryz.func97 (c:=d8 Tryz.prog 97) rfl rfl Oo rfl ?_;rintro ⟨(l:List (s9)),⟨⟩⟩ hp -
  have hp:l.length<=1048576:=hp;refine j6 (n:=1000) NU Oo ?_;refine i6 (VY l) ?_;simp only [j5,Tree.holds,Uc,sL];refine ⟨λ h=>?_,by omega,λ _=>rfl⟩;show (([],()):List (s9)×Unit)=(l,());rw [show l=[] from h]
def Hb:o7:={ ps:=[.v ToT,.v p9],rs:=[ToO,.d0 true .str,d9],pre:=λ _=>True,fn:=λ x=>D3 x.1 x.2.1,out:=λ _=>() }
noncomputable def Db:Env:={ P:=Tryz.prog,tt:=tt,C5:=[(96,Fk),(75,Ai),(59,zF),(97,Gl),(98,Fg),(100,Lm)],res:=[Go.ResultVar.cell 4 83,Go.ResultVar.tmp 5,Go.ResultVar.tmp 6],rs:=[Ty.pair d9 (Ty.pair (Ty.d0 true p9) Ty.unit),Ty.d0 true Ty.str,Ty.int IntKind.i64],ps:=[PK.v ToT,PK.v p9],y8:=[(17,[(4,none),(8,none),(11,some (Ty.d0 true Ty.str))])],nt:=116 }
theorem Jv:w5 Db:=w9 p7 ⟨ZT,JK,EN,b7J,c09,c0T,trivial⟩
theorem Jy:B8 Db Tryz.f83:=⟨rfl,rfl⟩
theorem Wx (aO:Int) (ab:List (Int×yY×Unit)) (bL:Int) (aM:yY):exec Db 1000 [.code (d8 Tryz.prog 83)] (s7 Hb.ps (((aO,ab,()),(bL,aM,()),()))) =
  .f7 (True) (cond (decide (toE (aO,ab,())≠(0:Int))) (.ret ((((0:Int),[],()),[],toE (aO,ab,()),()))) (.f7 (True) (cond (!inF bL (0:Int) (16777214:Int)) (.ret ((((0:Int),[],()),[],(1:Int),()))) (.f7 (True) (cond (D9 aM) (.ret ((((0:Int),[],()),[],(2:Int),()))) (.f7 (List.length ab<=1048576) (.f7 ((List.length ab<=1000/\sorted ab)/\(-100000000:Int)<=bL/\bL<=(100000000:Int)) (cond (decide (bL<aO)) (.ret (((aO,ab,()),[],(0:Int),()))) (.f7 (r7 IntKind.i64 (aO+(16:Int))) (cond (decide (aO+(16:Int)<=bL)) (.ret (((aO,ab,()),[],(0:Int),()))) (cond (Y0 bL ab) (.ret (((aO,ab,()),[],(0:Int),()))) (cond (decide (aO<bL)) (.f7 (((0:Int)<=(↑(atF bL ab):Int)/\(↑(atF bL ab):Int)<=(↑(List.length ab):Int))/\List.length ab<=1000/\List.length (List.set [((0:Int),[],())] (Int.toNat (↑0:Int)) (bL,aM,()))=1) (.ret (((aO,ym ab (↑(atF bL ab):Int) (List.set [((0:Int),[],())] (Int.toNat (↑0:Int)) (bL,aM,())),()),[],(0:Int),())))) (.f7 (r7 IntKind.i64 (aO+(1:Int))) (.ctL (f8 (d8 Tryz.prog 83) 17) (St.mk [(4,AV.ptr 4 []),(8,AV.ptr 8 []),(11,AV.at_ 1000011 [])] [(4,g8.var ToO ((0:Int),[],())),(8,g8.var ToO (aO+(1:Int),ab,())),(1000011,g8.own (Ty.d0 true Ty.str) (List.set [[]] (Int.toNat (↑0:Int)) aM))]))))))))))))))):=by kernel_rfl
def Rc (ja:Int) (ff:List (Int×yY×Unit)) (fF:Int) (bB:List (Int×yY×Unit)) (bs:List yY):St:=St.mk [(4,AV.ptr 4 []),(8,AV.ptr 8 []),(11,AV.at_ 1000011 [])] [(4,g8.var ToO (ja,ff,())),(8,g8.var ToO (fF,bB,())),(1000011,g8.own (Ty.d0 true Ty.str) bs)]
theorem ZI (ja:Int) (ff:List (Int×yY×Unit)) (fF:Int) (bB:List (Int×yY×Unit)) (bs:List yY):exec Db 1000 (.code (f8 (d8 Tryz.prog 83) 17).1::.inLoop (f8 (d8 Tryz.prog 83) 17).1::(f8 (d8 Tryz.prog 83) 17).2) (Rc ja ff fF bB bs) =
  cond (decide ((0:Int)<(↑(List.length bB):Int))) (.f7 ((0:Int)<=(0:Int)/\(0:Int)<(↑(List.length bB):Int)) (cond (decide (Prod.fst (List.getD bB (Int.toNat (0:Int)) ((0:Int),[],()))=fF)) (.f7 ((0:Int)<=(0:Int)/\(0:Int)<(↑(List.length bB):Int)) (.f7 (List.length bs+List.length (List.set [[]] (Int.toNat (↑0:Int)) (Prod.fst (Prod.snd (List.getD bB (Int.toNat (0:Int)) ((0:Int),[],())))))<=140737488355328/\(List.length bs+List.length (List.set [[]] (Int.toNat (↑0:Int)) (Prod.fst (Prod.snd (List.getD bB (Int.toNat (0:Int)) ((0:Int),[],()))))))*Ty.wb Ty.str<=140737488355328) (.f7 ((0:Int)<=(1:Int)/\(1:Int)<=(↑(List.length bB):Int)/\(↑(List.length bB):Int)<=(↑(List.length bB):Int)) (.f7 ([]++[Step.l6 1]=[]++[Step.l6 1]/\True) (.f7 (r7 IntKind.i64 (fF+(1:Int))) (.ctL (f8 (d8 Tryz.prog 83) 17) (St.mk [(4,AV.ptr 4 []),(8,AV.ptr 8 []),(11,AV.at_ 1000011 [])] [(4,g8.var ToO (ja,ff,())),(8,g8.var ToO (fF+(1:Int),n7 (1:Int) (↑(List.length bB):Int) bB,())),(1000011,g8.own (Ty.d0 true Ty.str) (bs++List.set [[]] (Int.toNat (↑0:Int)) (Prod.fst (Prod.snd (List.getD bB (Int.toNat (0:Int)) ((0:Int),[],()))))))]))))))) (.f7 (List.length bB<=1048576) (.ret (((fF,bB,()),bs,(0:Int),())))))) (.f7 (List.length bB<=1048576) (.ret (((fF,bB,()),bs,(0:Int),())))):=by kernel_rfl
theorem UR {n:Int} {l:List s9}:atF n l<=l.length:=by
  rw [atF]; exact (List.takeWhile_sublist _).length_le
theorem An.sorted {r:Int} {l:List s9} (h:An r l):sorted l:=⟨b7n h.up,λ i hi=>by
  have h1:=Iz h.up (DM (d:=Z2) hi);have h2:=(h.b _ (DM (d:=Z2) hi)).1;have:=h.rg;omega⟩
theorem b5u:Hb.Valid Tryz.prog 83:=by
  refine o7.n8 Jv rfl rfl Tryz.func83 (c:=d8 Tryz.prog 83) rfl rfl Jy rfl ?_;rintro ⟨⟨(r:Int),(l:List s9),⟨⟩⟩,⟨(q:Int),(x:yY),⟨⟩⟩,⟨⟩⟩ - -
  refine j6 (n:=1000) Jv Jy ?_;refine i6 (Wx r l q x) ?_;have key:∀ {y:ToD×List yY×Int×Unit},D3 (r,l,()) (q,x,())=y->y=D3 (r,l,()) (q,x,()):=λ h=>h.symm;have hd:D3 (r,l,()) (q,x,())=if toE (r,l,())≠0 then (t00,[],toE (r,l,()),()) else if inF q 0 16777214=false then (t00,[],1,()) else if D9 x=true then (t00,[],2,()) else
    if q<r\/r+16<=q\/Y0 q l=true then ((r,l,()),[],0,()) else if r<q then ((r,wG (q,x,()) l,()),[],0,()) else
    (((D7 l (r+1)).1,(D7 l (r+1)).2.1,()),x::(D7 l (r+1)).2.2,0,()):=rfl
  have hw:Ty.wb .str=16:=rfl;simp only [j5,Tree.holds,hw,sL];refine ⟨λ a=>key (by rw [hd,if_pos a]<;>rfl),λ a=>?_⟩;have aL:=HN.1 (Decidable.not_not.1 a);have lA:=aL.rg;have hlen:=aL.len;rw [if_neg a] at hd;refine ⟨λ c=>key (by rw [hd,if_pos c]<;>rfl),λ c=>?_⟩;have hq:=xk.1 c;rw [if_neg (lnf c)] at hd;refine ⟨λ d=>key (by rw [hd,if_pos d]<;>rfl),λ d=>⟨by omega,λ _=>⟨⟨⟨by omega,aL.sorted⟩,by omega,by omega⟩,λ _=>?_⟩⟩⟩;rw [if_neg (by rw [d]; simp)] at hd;refine ⟨λ e=>key (by rw [hd,if_pos (.inl e)]<;>rfl),λ e=>⟨by omega,λ _=>⟨λ f=>key (by rw [hd,if_pos (.inr (.inl f))]<;>rfl),λ f=>⟨λ g=>key (by rw [hd,if_pos (.inr (.inr g))]<;>rfl),λ g=>?_⟩⟩⟩⟩;rw [if_neg (by rintro (h|h|h); exact e h; exact f h; rw [g] at h; cases h)] at hd;have jC:=UR (n:=q) (l:=l);refine ⟨λ k=>⟨⟨⟨by omega,by omega⟩,by omega,trivial⟩,λ _=>key (by rw [hd,if_pos k]; simp [ym,wG]; rfl)⟩,λ k=>⟨by omega,λ _=>?_⟩⟩;rw [if_neg k] at hd;refine Reach.J8 Jv Jy (λ s:Int×List s9×List yY=>Rc 0 [] s.1 s.2.1 s.2.2) (λ s=>((D7 s.2.1 s.1).1=(D7 l (r+1)).1/\(D7 s.2.1 s.1).2.1=(D7 l (r+1)).2.1/\s.2.2++(D7 s.2.1 s.1).2.2=x::(D7 l (r+1)).2.2)/\s.2.1.length<=16/\s.2.2.length+s.2.1.length<=17/\0<=s.1/\s.1+s.2.1.length<=20000000)
    (λ s=>s.2.1.length) 1000 (λ _=>⟨r8 rfl,r8 rfl⟩) ?_ (r+1,l,[x]) ⟨⟨rfl,rfl,rfl⟩,hlen,by show 1+l.length<=17; omega,by show 0<=r+1; omega,by show r+1+(l.length:Int)<=20000000; omega⟩
  rintro ⟨n,m,ts⟩ ⟨⟨k1,k2,k3⟩,k4,k5,k6,k7⟩ - ih;have k1:(D7 m n).1=(D7 l (r+1)).1:=k1;have k2:(D7 m n).2.1=(D7 l (r+1)).2.1:=k2;have k3:ts++(D7 m n).2.2=x::(D7 l (r+1)).2.2:=k3;have k4:m.length<=16:=k4;have k5:ts.length+m.length<=17:=k5;have k6:0<=n:=k6;have k7:n+(m.length:Int)<=20000000:=k7;rw [<- k1,<- k2,<- k3] at hd;refine i6 (ZI ..) ?_;rw [show ((n,m,ts):Int×List s9×List yY).1=n from rfl,show ((n,m,ts):Int×List s9×List yY).2.1=m from rfl,show ((n,m,ts):Int×List s9×List yY).2.2=ts from rfl];cases m with
  | nil =>
    simp only [j5,Tree.holds,hw,sL];refine ⟨λ c2=>absurd c2 (by simp),λ _=>⟨by omega,λ _=>key ?_⟩⟩;rw [hd,D7,List.append_nil]; rfl
  | cons p m =>
    have g0:List.getD (p::m) (Int.toNat 0) (0,[],())=p:=rfl;have gX:n7 1 ((p::m).length:Int) (p::m)=m:=by
      rw [n7,List.take_of_length_le (by simp)]; rfl
    simp only [List.length_cons] at k4 k5 k7;have ji:D7 (p::m) n=if p.1=n then ((D7 m (n+1)).1,(D7 m (n+1)).2.1,p.2.1::(D7 m (n+1)).2.2) else (n,p::m,[]):=rfl
    simp only [j5,Tree.holds,hw,g0,gX,sL];refine ⟨λ c2=>⟨by omega,λ _=>⟨λ c3=>?_,λ c3=>⟨by omega,λ _=>key ?_⟩⟩⟩,λ c2=>absurd (by omega) c2⟩
    . rw [if_pos c3] at ji;rw [ji] at k1 k2 k3;have next:=ih (n+1,m,ts++[p.2.1]) ⟨⟨k1,k2,by rw [List.append_assoc]; exact k3⟩,by show m.length<=16; omega,by show (ts++[p.2.1]).length+m.length<=17; rw [List.length_append,List.length_singleton]; omega,by show 0<=n+1; omega,by show n+1+(m.length:Int)<=20000000; omega⟩ (by show m.length<(p::m).length; simp)
      have mY:n7 1 ((m.length+1:Nat):Int) (p::m)=m:=gX;rw [mY];exact ⟨by omega,λ _=>⟨⟨by omega,by omega⟩,λ _=>⟨by omega,λ _=>⟨by omega,λ _=>next⟩⟩⟩⟩
    . rw [if_neg c3] at ji;rw [hd,ji,List.append_nil]; rfl
attribute [local irreducible] Go.Ex.exec
abbrev FrD:=Int×List yY×Unit
abbrev n6:=Bool×List C4×FrD×ToD×ToD×Unit
abbrev f9:=vA×List n6×List yY×List yY×Unit
def j7:n6:=(false,[],(0,[],()),(0,[],()),(0,[],()),())
def zd:o7:={ ps:=[.v d9,.v d9,.v d9],rs:=[.bool],pre:=λ _=>True,fn:=λ x=>(I2 x.1 x.2.1 x.2.2.1,()),out:=λ _=>() }
noncomputable def EU:Env:={ P:=Tryz.prog,tt:=tt,C5:=[],res:=[Go.ResultVar.tmp 6],rs:=[Ty.bool],ps:=[PK.v d9,PK.v d9,PK.v d9],y8:=[],nt:=15 }
theorem MB:w5 EU:=w9 p7 trivial
theorem MK:B8 EU Tryz.f40:=⟨rfl,rfl⟩
theorem Tu (x0:Int) (x1:Int) (x2:Int):exec EU 1000 [.code (d8 Tryz.prog 40)] (s7 zd.ps ((x0,x1,x2,()))) =
  cond (decide (x1<=x0)) (.ret ((decide (x0<=x2),()))) (.ret ((false,()))):=by kernel_rfl
theorem Ez:zd.Valid Tryz.prog 40:=by
  refine o7.n8 MB rfl rfl Tryz.func40 (c:=d8 Tryz.prog 40) rfl rfl MK rfl ?_;rintro ⟨(n:Int),(a:Int),(b:Int),⟨⟩⟩ - -
  refine j6 (n:=1000) MB MK ?_;refine i6 (Tu n a b) ?_;simp only [j5,Tree.holds,sL];refine ⟨λ c=>?_,λ c=>?_⟩
  . show ((decide _,()):Bool×Unit)=(I2 n a b,()); rw [I2,decide_eq_true c,Bool.true_and]
  . show ((false,()):Bool×Unit)=(I2 n a b,()); rw [I2,decide_eq_false c,Bool.false_and]
def tz (m:Int):Int:=(((List.range 8).find? (λ i=>decide (m / 2^i % 2=1))).getD 8:Nat)
def ctz:o7:={ ps:=[.v U8],rs:=[d9],pre:=λ _=>True,fn:=λ x=>(tz x.1,()),out:=λ _=>() }
noncomputable def Etz:Env:={ P:=Tryz.prog,tt:=tt,C5:=[],res:=[Go.ResultVar.tmp 2],rs:=[Ty.int IntKind.i64],ps:=[PK.v U8],y8:=[],nt:=6 }
theorem LZ:w5 Etz:=w9 p7 trivial
theorem Ma:B8 Etz Tryz.f78:=⟨rfl,rfl⟩
theorem TM (x0:Int):exec Etz 1000 [.code (d8 Tryz.prog 78)] (s7 ctz.ps ((x0,()))) =
  .f7 ((0:Int)<=x0/\x0<(↑(List.length (Array.toList (ByteArray.data (ByteArray.mk (List.toArray (List.append (List.append ([8,0,1,0,2,0,1,0,3,0,1,0,2,0,1,0,4,0,1,0,2,0,1,0,3,0,1,0,2,0,1,0,5,0,1,0,2,0,1,0,3,0,1,0,2,0,1,0,4,0,1,0,2,0,1,0,3,0,1,0,2,0,1,0]:yY) ([6,0,1,0,2,0,1,0,3,0,1,0,2,0,1,0,4,0,1,0,2,0,1,0,3,0,1,0,2,0,1,0,5,0,1,0,2,0,1,0,3,0,1,0,2,0,1,0,4,0,1,0,2,0,1,0,3,0,1,0,2,0,1,0]:yY)) (List.append ([7,0,1,0,2,0,1,0,3,0,1,0,2,0,1,0,4,0,1,0,2,0,1,0,3,0,1,0,2,0,1,0,5,0,1,0,2,0,1,0,3,0,1,0,2,0,1,0,4,0,1,0,2,0,1,0,3,0,1,0,2,0,1,0]:yY) ([6,0,1,0,2,0,1,0,3,0,1,0,2,0,1,0,4,0,1,0,2,0,1,0,3,0,1,0,2,0,1,0,5,0,1,0,2,0,1,0,3,0,1,0,2,0,1,0,4,0,1,0,2,0,1,0,3,0,1,0,2,0,1,0]:yY)))))))):Int)) (.ret ((IntKind.wrap IntKind.i64 (↑(UInt8.toNat (List.getD (Array.toList (ByteArray.data (ByteArray.mk (List.toArray (List.append (List.append ([8,0,1,0,2,0,1,0,3,0,1,0,2,0,1,0,4,0,1,0,2,0,1,0,3,0,1,0,2,0,1,0,5,0,1,0,2,0,1,0,3,0,1,0,2,0,1,0,4,0,1,0,2,0,1,0,3,0,1,0,2,0,1,0]:yY) ([6,0,1,0,2,0,1,0,3,0,1,0,2,0,1,0,4,0,1,0,2,0,1,0,3,0,1,0,2,0,1,0,5,0,1,0,2,0,1,0,3,0,1,0,2,0,1,0,4,0,1,0,2,0,1,0,3,0,1,0,2,0,1,0]:yY)) (List.append ([7,0,1,0,2,0,1,0,3,0,1,0,2,0,1,0,4,0,1,0,2,0,1,0,3,0,1,0,2,0,1,0,5,0,1,0,2,0,1,0,3,0,1,0,2,0,1,0,4,0,1,0,2,0,1,0,3,0,1,0,2,0,1,0]:yY) ([6,0,1,0,2,0,1,0,3,0,1,0,2,0,1,0,4,0,1,0,2,0,1,0,3,0,1,0,2,0,1,0,5,0,1,0,2,0,1,0,3,0,1,0,2,0,1,0,4,0,1,0,2,0,1,0,3,0,1,0,2,0,1,0]:yY))))))) (Int.toNat x0) (0:UInt8))):Int),()))):=by kernel_rfl
theorem XP:ctz.Valid Tryz.prog 78:=by
  refine o7.n8 LZ rfl rfl Tryz.func78 (c:=d8 Tryz.prog 78) rfl rfl Ma rfl ?_;rintro ⟨(x0:Int),⟨⟩⟩ - ⟨h0,-⟩;refine j6 (n:=1000) LZ Ma ?_;refine i6 (TM x0) ?_;have g0:0<=x0/\x0<=255:=h0;obtain ⟨n,rfl⟩:∃ n:Fin 256,x0=((n.val:Nat):Int):=⟨⟨x0.toNat,by omega⟩,by simp; omega⟩;refine ⟨?_,λ _=>?_⟩
  . clear h0 g0; revert n; decide +kernel
  . show ((_,()):Int×Unit)=(tz n,());clear h0 g0; revert n; decide +kernel
def zx (v:vA):Int×Int×Unit:=if R3 v≠0 then (0,R3 v,()) else (tz v.2.1,0,())
def Dj:o7:={ ps:=[.v View],rs:=[d9,d9],pre:=λ _=>True,fn:=λ x=>zx x.1,out:=λ _=>() }
noncomputable def GK:Env:={ P:=Tryz.prog,tt:=tt,C5:=[(70,Be),(78,ctz)],res:=[Go.ResultVar.tmp 2,Go.ResultVar.tmp 3],rs:=[Ty.int IntKind.i64,Ty.int IntKind.i64],ps:=[PK.v View],y8:=[],nt:=13 }
theorem Qc:w5 GK:=w9 p7 ⟨SU,XP,trivial⟩
theorem PB:B8 GK Tryz.f61:=⟨rfl,rfl⟩
theorem Wg (aO:Int) (ab:Int):exec GK 1000 [.code (d8 Tryz.prog 61)] (s7 Dj.ps (((aO,ab,()),()))) =
  .f7 (True) (cond (decide (R3 (aO,ab,())≠(0:Int))) (.ret (((0:Int),R3 (aO,ab,()),()))) (.f7 (True) (.ret ((tz ab,(0:Int),()))))):=by kernel_rfl
theorem b5E:Dj.Valid Tryz.prog 61:=by
  refine o7.n8 Qc rfl rfl Tryz.func61 (c:=d8 Tryz.prog 61) rfl rfl PB rfl ?_;rintro ⟨⟨(x0:Int),(x1:Int),⟨⟩⟩,⟨⟩⟩ - -
  refine j6 (n:=1000) Qc PB ?_;refine i6 (Wg x0 x1) ?_;simp only [j5,Tree.holds,sL];have key:∀ r:Int×Int×Unit,zx (x0,x1,())=r->((r:DL [Ty.int .i64,Ty.int .i64])=Dj.fn ((x0,x1,()),())):=by rintro r rfl; rfl
  refine ⟨λ a=>key _ ?_,λ a=>key _ ?_⟩
  . rw [zx,if_pos a]; rfl
  . rw [zx,if_neg a]; rfl
def s4 (w:f9) (p:Int):Bool:=I2 p 0 ((w.2.1.length:Int) - 1) && decide (R0 .u8 (w.1.2.1 / (2:Int)^min p.toNat IntKind.u8.bits) 1=1) && !(w.2.1.getD p.toNat j7).1
def yp:o7:={ ps:=[.rd F3,.v d9],rs:=[.bool],pre:=λ x=>List.length (α:=n6) (x.1:f9).2.1<=6,fn:=λ x=>(s4 x.1 x.2.1,()),out:=λ _=>() }
noncomputable def FE:Env:={ P:=Tryz.prog,tt:=tt,C5:=[(40,zd)],res:=[Go.ResultVar.tmp 4],rs:=[Ty.bool],ps:=[PK.rd F3,PK.v d9],y8:=[],nt:=35 }
theorem Ov:w5 FE:=w9 p7 ⟨Ez,trivial⟩
theorem NY:B8 FE Tryz.f47:=⟨rfl,rfl⟩
theorem Ul (ai:Int) (af:Int) (ab:List n6) (ae:List yY) (aa:List yY) (x1:Int):exec FE 1000 [.code (d8 Tryz.prog 47)] (s7 yp.ps ((((ai,af,()),ab,ae,aa,()),x1,()))) =
  .f7 (r7 IntKind.i64 ((↑(List.length ab):Int) - (1:Int))) (.f7 (True) (cond (I2 x1 (0:Int) ((↑(List.length ab):Int) - (1:Int))) (.f7 ((0:Int)<=x1) (cond (decide (R0 IntKind.u8 (af / (2:Int)^min (Int.toNat x1) (IntKind.bits IntKind.u8)) (1:Int)=(1:Int))) (.f7 ((0:Int)<=x1/\x1<(↑(List.length ab):Int)) (.ret ((!Prod.fst (List.getD ab (Int.toNat x1) (false,[],((0:Int),[],()),((0:Int),[],()),((0:Int),[],()),())),())))) (.ret ((false,()))))) (.ret ((false,()))))):=by kernel_rfl
theorem Ce:yp.Valid Tryz.prog 47:=by
  refine o7.n8 Ov rfl rfl Tryz.func47 (c:=d8 Tryz.prog 47) rfl rfl NY rfl ?_;rintro ⟨⟨⟨(v0:Int),(v1:Int),⟨⟩⟩,(al:List n6),(od:List yY),(wy:List yY),⟨⟩⟩,(p:Int),⟨⟩⟩ (hp:al.length<=6) -
  refine j6 (n:=1000) Ov NY ?_;refine i6 (Ul v0 v1 al od wy p) ?_;simp only [j5,Tree.holds,sL];have key:∀ r:Bool,s4 ((v0,v1,()),al,od,wy,()) p=r->(((r,()):Bool×Unit)=(s4 ((v0,v1,()),al,od,wy,()) p,())):=by rintro r rfl; rfl
  refine ⟨⟨by omega,by omega⟩,λ _=>⟨λ a=>⟨(U4.1 a).1,λ _=>⟨λ b=>⟨⟨(U4.1 a).1,by have:=(U4.1 a).2; show p<(al.length:Int); omega⟩,λ _=>key _ ?_⟩,λ b=>key _ ?_⟩⟩,λ a=>key _ ?_⟩⟩
  . show (I2 p 0 ((al.length:Int) - 1) && _ && _)=_;rw [a,Bool.true_and];exact congrArg (· && _) (decide_eq_true b)
  . show (I2 p 0 ((al.length:Int) - 1) && decide _ && _)=_;rw [a,Bool.true_and,decide_eq_false b]; rfl
  . show (I2 p 0 ((al.length:Int) - 1) && _ && _)=_;rw [a]; rfl
def known (w:f9) (p:Int):Int:=if I2 p 0 ((w.2.1.length:Int) - 1)=true then 0 else 1
def yA:o7:={ ps:=[.rd F3,.v d9],rs:=[d9],pre:=λ x=>List.length (α:=n6) (x.1:f9).2.1<=6,fn:=λ x=>(known x.1 x.2.1,()),out:=λ _=>() }
noncomputable def Hy:Env:={ P:=Tryz.prog,tt:=tt,C5:=[(40,zd)],res:=[Go.ResultVar.tmp 4],rs:=[Ty.int IntKind.i64],ps:=[PK.rd F3,PK.v d9],y8:=[],nt:=14 }
theorem QZ:w5 Hy:=w9 p7 ⟨Ez,trivial⟩
theorem Rg:B8 Hy Tryz.f49:=⟨rfl,rfl⟩
theorem XZ (ai:Int) (af:Int) (ab:List n6) (ae:List yY) (aa:List yY) (x1:Int):exec Hy 1000 [.code (d8 Tryz.prog 49)] (s7 yA.ps ((((ai,af,()),ab,ae,aa,()),x1,()))) =
  .f7 (r7 IntKind.i64 ((↑(List.length ab):Int) - (1:Int))) (.f7 (True) (cond (!I2 x1 (0:Int) ((↑(List.length ab):Int) - (1:Int))) (.ret (((1:Int),()))) (.ret (((0:Int),()))))):=by kernel_rfl
theorem Cb:yA.Valid Tryz.prog 49:=by
  refine o7.n8 QZ rfl rfl Tryz.func49 (c:=d8 Tryz.prog 49) rfl rfl Rg rfl ?_;rintro ⟨⟨⟨(v0:Int),(v1:Int),⟨⟩⟩,(al:List n6),(od:List yY),(wy:List yY),⟨⟩⟩,(p:Int),⟨⟩⟩ (hp:al.length<=6) -
  refine j6 (n:=1000) QZ Rg ?_;refine i6 (XZ v0 v1 al od wy p) ?_;simp only [j5,Tree.holds,sL];have key:∀ r:Int,known ((v0,v1,()),al,od,wy,()) p=r->(((r,()):Int×Unit)=(known ((v0,v1,()),al,od,wy,()) p,())):=by rintro r rfl; rfl
  refine ⟨⟨by omega,by omega⟩,λ _=>⟨λ a=>key _ ?_,λ a=>key _ ?_⟩⟩
  . exact if_neg (by simpa using a)
  . exact if_pos (by simpa using a)
def K7 (w:f9) (p:Int):Int:=if known w p≠0 then known w p else if s4 w p=true then 0 else 11
def CU:o7:={ ps:=[.rd F3,.v d9],rs:=[d9],pre:=λ x=>List.length (α:=n6) (x.1:f9).2.1<=6,fn:=λ x=>(K7 x.1 x.2.1,()),out:=λ _=>() }
noncomputable def GU:Env:={ P:=Tryz.prog,tt:=tt,C5:=[(49,yA),(47,yp)],res:=[Go.ResultVar.tmp 4],rs:=[Ty.int IntKind.i64],ps:=[PK.rd F3,PK.v d9],y8:=[],nt:=16 }
theorem Ql:w5 GU:=w9 p7 ⟨Cb,Ce,trivial⟩
theorem PL:B8 GU Tryz.f41:=⟨rfl,rfl⟩
theorem Ws (ai:Int) (af:Int) (ab:List n6) (ae:List yY) (aa:List yY) (x1:Int):exec GU 1000 [.code (d8 Tryz.prog 41)] (s7 CU.ps ((((ai,af,()),ab,ae,aa,()),x1,()))) =
  .f7 (List.length ab<=6) (cond (decide (known ((ai,af,()),ab,ae,aa,()) x1≠(0:Int))) (.ret ((known ((ai,af,()),ab,ae,aa,()) x1,()))) (.f7 (List.length ab<=6) (cond (!s4 ((ai,af,()),ab,ae,aa,()) x1) (.ret (((11:Int),()))) (.ret (((0:Int),())))))):=by kernel_rfl
theorem Sf:CU.Valid Tryz.prog 41:=by
  refine o7.n8 Ql rfl rfl Tryz.func41 (c:=d8 Tryz.prog 41) rfl rfl PL rfl ?_;rintro ⟨⟨⟨(v0:Int),(v1:Int),⟨⟩⟩,(al:List n6),(od:List yY),(wy:List yY),⟨⟩⟩,(p:Int),⟨⟩⟩ (hp:al.length<=6) -
  refine j6 (n:=1000) Ql PL ?_;refine i6 (Ws v0 v1 al od wy p) ?_;simp only [j5,Tree.holds,sL];have key:∀ r:Int,K7 ((v0,v1,()),al,od,wy,()) p=r->(((r,()):Int×Unit)=(K7 ((v0,v1,()),al,od,wy,()) p,())):=by rintro r rfl; rfl
  refine ⟨hp,λ _=>⟨λ a=>key _ ?_,λ a=>⟨hp,λ _=>⟨λ b=>key _ ?_,λ b=>key _ ?_⟩⟩⟩⟩
  . exact if_pos a
  . rw [K7,if_neg (by simpa using a),if_neg (by simpa using b)]
  . rw [K7,if_neg (by simpa using a),if_pos (by simpa using b)]
def K8 (w:f9):Int:=(zx w.1).1
def ze:o7:={ ps:=[.rd F3],rs:=[d9],pre:=λ _=>True,fn:=λ x=>(K8 x.1,()),out:=λ _=>() }
noncomputable def FI:Env:={ P:=Tryz.prog,tt:=tt,C5:=[(61,Dj)],res:=[Go.ResultVar.tmp 2],rs:=[Ty.int IntKind.i64],ps:=[PK.rd F3],y8:=[],nt:=14 }
theorem Oz:w5 FI:=w9 p7 ⟨b5E,trivial⟩
theorem Oc:B8 FI Tryz.f44:=⟨rfl,rfl⟩
theorem Up (ai:Int) (af:Int) (ab:List n6) (ae:List yY) (aa:List yY):exec FI 1000 [.code (d8 Tryz.prog 44)] (s7 ze.ps ((((ai,af,()),ab,ae,aa,()),()))) =
  .f7 (True) (.ret ((Prod.fst (zx (ai,af,())),()))):=by kernel_rfl
theorem EA:ze.Valid Tryz.prog 44:=by
  refine o7.n8 Oz rfl rfl Tryz.func44 (c:=d8 Tryz.prog 44) rfl rfl Oc rfl ?_;rintro ⟨⟨⟨(v0:Int),(v1:Int),⟨⟩⟩,(al:List n6),(od:List yY),(wy:List yY),⟨⟩⟩,⟨⟩⟩ - -
  refine j6 (n:=1000) Oz Oc ?_;refine i6 (Up v0 v1 al od wy) ?_;exact ⟨trivial,λ _=>rfl⟩
def L8 (w:f9) (k f t s:Int) (x:yY):f9 :=
  let r:=T4 (k,f,t,w.1.1,s,[0,0,0,0,0,0],x,())
  if r.2.1=0/\(w.2.2.2.1.length:Int)<60 then (w.1,w.2.1,w.2.2.1,w.2.2.2.1++[r.1],()) else w
theorem Kc {w:f9} {k f t s:Int} {x:yY} (h:(T4 (k,f,t,w.1.1,s,[0,0,0,0,0,0],x,())).2.1=0) (h2:(w.2.2.2.1.length:Int)<60) :
    L8 w k f t s x=(w.1,w.2.1,w.2.2.1,w.2.2.2.1++[(T4 (k,f,t,w.1.1,s,[0,0,0,0,0,0],x,())).1],()):=by
  unfold L8; exact if_pos ⟨h,h2⟩
theorem Em {w:f9} {k f t s:Int} {x:yY} (h:¬ ((T4 (k,f,t,w.1.1,s,[0,0,0,0,0,0],x,())).2.1=0/\(w.2.2.2.1.length:Int)<60)) :
    L8 w k f t s x=w:=by
  unfold L8; exact if_neg h
def zo:o7:={ ps:=[.rw s5,.v d9,.v d9,.v d9,.v d9,.v .str],rs:=[],pre:=λ _=>True,fn:=λ _=>(),out:=λ x=>(L8 x.1 x.2.1 x.2.2.1 x.2.2.2.1 x.2.2.2.2.1 x.2.2.2.2.2.1,()) }
noncomputable def GR:Env:={ P:=Tryz.prog,tt:=tt,C5:=[(60,Gk)],res:=[],rs:=[],ps:=[PK.rw s5,PK.v d9,PK.v d9,PK.v d9,PK.v d9,PK.v Ty.str],y8:=[],nt:=49 }
theorem Qj:w5 GR:=w9 p7 ⟨b7K,trivial⟩
theorem PI:B8 GR Tryz.f43:=⟨rfl,rfl⟩
theorem Wp (ai:Int) (af:Int) (ab:List n6) (ae:List yY) (aa:List yY) (x1:Int) (x2:Int) (x3:Int) (x4:Int) (x5:yY):exec GR 1000 [.code (d8 Tryz.prog 43)] (s7 zo.ps ((((ai,af,()),ab,ae,aa,()),x1,x2,x3,x4,x5,()))) =
  .f7 (True) (cond (decide (Prod.fst (Prod.snd (T4 (x1,x2,x3,ai,x4,[(0:Int),(0:Int),(0:Int),(0:Int),(0:Int),(0:Int)],x5,())))=(0:Int))) (cond (decide ((↑(List.length aa):Int)<(60:Int))) (.f7 (True/\True/\[]++[Step.l6 3]=[]++[Step.l6 3]/\List.length aa+List.length (List.set [[]] (Int.toNat (↑0:Int)) (Prod.fst (T4 (x1,x2,x3,ai,x4,[(0:Int),(0:Int),(0:Int),(0:Int),(0:Int),(0:Int)],x5,()))))<=140737488355328/\(List.length aa+List.length (List.set [[]] (Int.toNat (↑0:Int)) (Prod.fst (T4 (x1,x2,x3,ai,x4,[(0:Int),(0:Int),(0:Int),(0:Int),(0:Int),(0:Int)],x5,())))))*Ty.wb Ty.str<=140737488355328) (.ret ((((ai,af,()),ab,ae,aa++List.set [[]] (Int.toNat (↑0:Int)) (Prod.fst (T4 (x1,x2,x3,ai,x4,[(0:Int),(0:Int),(0:Int),(0:Int),(0:Int),(0:Int)],x5,()))),()),())))) (.ret ((((ai,af,()),ab,ae,aa,()),())))) (.ret ((((ai,af,()),ab,ae,aa,()),())))):=by kernel_rfl
attribute [local irreducible] T4 L8 in
theorem EG:zo.Valid Tryz.prog 43:=by
  refine o7.n8 Qj rfl rfl Tryz.func43 (c:=d8 Tryz.prog 43) rfl rfl PI rfl ?_;rintro ⟨⟨⟨(v0:Int),(v1:Int),⟨⟩⟩,(al:List n6),(od:List yY),(wy:List yY),⟨⟩⟩,(k:Int),(f:Int),(t:Int),(s:Int),(x:yY),⟨⟩⟩ - -
  refine j6 (n:=1000) Qj PI ?_;refine i6 (Wp v0 v1 al od wy k f t s x) ?_;simp only [j5,Tree.holds,sL];have key:∀ r:f9,L8 ((v0,v1,()),al,od,wy,()) k f t s x=r->(((r,()):f9×Unit)=(L8 ((v0,v1,()),al,od,wy,()) k f t s x,())):=by rintro r rfl; rfl
  refine ⟨λ a=>⟨λ b=>⟨?_,λ _=>key _ ?_⟩,λ b=>key _ ?_⟩,λ a=>key _ ?_⟩
  . have b':wy.length<60:=by exact_mod_cast b
    refine ⟨?_,?_⟩
    . show wy.length+1<=140737488355328; omega
    . show (wy.length+1)*16<=140737488355328; omega
  . exact Kc a b
  . exact Em (λ h=>b h.2)
  . exact Em (λ h=>a h.1)
def vC (w:f9) (p:Int):f9×Int :=
  if known w p≠0 then (w,known w p) else ((w.1,w.2.1.set p.toNat (true,(w.2.1.getD p.toNat j7).2),w.2.2),0)
def Gv:o7:={ ps:=[.rw s5,.v d9],rs:=[d9],pre:=λ x=>List.length (α:=n6) (x.1:f9).2.1<=6,fn:=λ x=>((vC x.1 x.2.1).2,()),out:=λ x=>((vC x.1 x.2.1).1,()) }
noncomputable def GN:Env:={ P:=Tryz.prog,tt:=tt,C5:=[(49,yA)],res:=[Go.ResultVar.tmp 4],rs:=[Ty.int IntKind.i64],ps:=[PK.rw s5,PK.v d9],y8:=[],nt:=19 }
theorem Qf:w5 GN:=w9 p7 ⟨Cb,trivial⟩
theorem PE:B8 GN Tryz.f37:=⟨rfl,rfl⟩
theorem Wk (ai:Int) (af:Int) (ab:List n6) (ae:List yY) (aa:List yY) (x1:Int):exec GN 1000 [.code (d8 Tryz.prog 37)] (s7 Gv.ps ((((ai,af,()),ab,ae,aa,()),x1,()))) =
  .f7 (List.length ab<=6) (cond (decide (known ((ai,af,()),ab,ae,aa,()) x1≠(0:Int))) (.ret ((known ((ai,af,()),ab,ae,aa,()) x1,((ai,af,()),ab,ae,aa,()),()))) (.f7 ((0:Int)<=x1/\x1<(↑(List.length ab):Int)) (.ret (((0:Int),((ai,af,()),List.set ab (Int.toNat x1) (true,Prod.snd (List.getD ab (Int.toNat x1) (false,[],((0:Int),[],()),((0:Int),[],()),((0:Int),[],()),()))),ae,aa,()),()))))):=by kernel_rfl
theorem b70:Gv.Valid Tryz.prog 37:=by
  refine o7.n8 Qf rfl rfl Tryz.func37 (c:=d8 Tryz.prog 37) rfl rfl PE rfl ?_;rintro ⟨⟨⟨(v0:Int),(v1:Int),⟨⟩⟩,(al:List n6),(od:List yY),(wy:List yY),⟨⟩⟩,(p:Int),⟨⟩⟩ (hp:al.length<=6) -
  refine j6 (n:=1000) Qf PE ?_;refine i6 (Wk v0 v1 al od wy p) ?_;simp only [j5,Tree.holds,sL];have key:∀ r:f9×Int,vC ((v0,v1,()),al,od,wy,()) p=r->(((r.2,r.1,()):Int×f9×Unit)=((vC ((v0,v1,()),al,od,wy,()) p).2,(vC ((v0,v1,()),al,od,wy,()) p).1,())):=by rintro r rfl; rfl
  have dv:¬ known ((v0,v1,()),al,od,wy,()) p≠0->0<=p/\p<(al.length:Int):=by
    intro a;unfold known at a;split at a
    . rename_i hb;have:=U4.1 hb;simp only at this; omega
    . exact absurd (by decide) a
  refine ⟨hp,λ _=>⟨λ a=>key (_,_) ?_,λ a=>⟨dv a,λ _=>key (_,_) ?_⟩⟩⟩
  . rw [vC,if_pos a]; rfl
  . rw [vC,if_neg a]; rfl
def ttW:List (TypeId×TI):=(78,TI.mk P0 32)::(83,TI.mk ToT 32)::tt
theorem Mi:ttW.all (xa Tryz.prog)=true:=by kernel_rfl
def Ln:o7:={ ps:=[.v P0,.v .str],rs:=[P0,d9],new:=true,pre:=Gg.pre,fn:=λ x=>P7 x.1 x.2.1,out:=λ _=>() }
theorem c0H:Ln.Valid Tryz.prog 42:=b7P.share (rs':=[P0,d9]) rfl rfl rfl
def LR:o7:={ ps:=[.v P0,.v d9],rs:=[P0,d9],new:=true,pre:=HO.pre,fn:=λ x=>Q4 x.1 x.2.1,out:=λ _=>() }
theorem b5A:LR.Valid Tryz.prog 86:=b4a.share (rs':=[P0,d9]) rfl rfl rfl
def Gp:o7:={ ps:=[.v ToT,.v p9],rs:=[ToT,.d0 true .str,d9],new:=true,pre:=Hb.pre,fn:=λ x=>D3 x.1 x.2.1,out:=λ _=>() }
theorem Se:Gp.Valid Tryz.prog 83:=b5u.share (rs':=[ToT,.d0 true .str,d9]) rfl rfl rfl
end Go.Proofs.YtijlnmgondibnaaGreatDoor
