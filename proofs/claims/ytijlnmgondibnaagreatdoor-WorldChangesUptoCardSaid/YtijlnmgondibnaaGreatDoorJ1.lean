import Derived.Test.YtijlnmgondibnaaGreatDoorProg
import Derived.Test.YtijlnmgondibnaaGreatDoorExW
import Derived.Test.YtijlnmgondibnaaGreatDoorRows
import Derived.Lib.LaidU8
import Derived.LaidMore
import Derived.LaidSub
import Derived.Shelf.Vars
import Derived.JoinedCond
import Derived.WalkKit
import Derived.Lib.Walk
import Derived.Shelf.RegionOpenPlain
import Derived.Lib.SliceRun
import Derived.Lib.Overlaps
import Derived.Lib.AppendZerosOnto
import Derived.Laws.Externs
import Derived.Laws.IdiomCopy
import Derived.Laws.NewBlocks
set_option linter.unusedVariables false
set_option linter.unusedSimpArgs false
set_option linter.unusedSectionVars false
namespace Go.Proofs.YtijlnmgondibnaaGreatDoor
open Go.Ex
set_option maxRecDepth 100000
abbrev d9:Ty:=.int .i64
abbrev U8:Ty:=.int .u8
abbrev Is:Ty:=.d0 true d9
abbrev Y9:Ty:=.arr 6 d9
abbrev Mw:Ty:=.pair d9 (.pair d9 .unit)
abbrev vo:Ty:=.arr 10 d9
abbrev View:Ty:=.pair d9 (.pair U8 .unit)
abbrev r8:Ty:=.pair d9 (.pair .str .unit)
abbrev ToT:Ty:=.pair d9 (.pair (.d0 false r8) .unit)
abbrev ToO:Ty:=.pair d9 (.pair (.d0 true r8) .unit)
abbrev R6:Ty:=.pair d9 (.pair (.d0 false .str) .unit)
abbrev Mu:Ty:=.pair d9 (.pair (.d0 true .str) .unit)
abbrev zI:Ty:=.pair d9 (.pair d9 (.pair d9 (.pair d9 (.pair d9 (.pair Y9 (.pair .str .unit))))))
abbrev a28:Ty:=.pair .bool (.pair (.d0 true r8) (.pair R6 (.pair ToT (.pair ToT .unit))))
abbrev u7:Ty:=.pair View (.pair (.d0 true a28) (.pair (.d0 true .str) (.pair (.d0 true .str) .unit)))
abbrev VM:Ty:=.pair .bool (.pair (.d0 false r8) (.pair R6 (.pair ToT (.pair ToT .unit))))
abbrev H3:Ty:=.pair View (.pair (.d0 false VM) (.pair (.d0 false .str) (.pair (.d0 false .str) .unit)))
abbrev vU:Ty:=.pair d9 (.pair d9 (.pair d9 (.pair .str .unit)))
abbrev M6:Ty:=.d0 false r8
abbrev Z2:Ty:=.pair .bool (.pair (.B9 r8) (.pair R6 (.pair ToT (.pair ToT .unit))))
abbrev wg:Ty:=.pair View (.pair (.d0 true Z2) (.pair (.d0 true .str) (.pair (.d0 true .str) .unit)))
def tt:List (TypeId×TI):=[(2,TI.mk (Ty.int IntKind.i64) 8),(3,TI.mk (Ty.int IntKind.i64) 8),(4,TI.mk Ty.bool 1),(5,TI.mk (Ty.int IntKind.u8) 1),(6,TI.mk (Ty.int IntKind.u8) 1),(7,TI.mk (Ty.pair (Ty.int IntKind.i64) (Ty.pair (Ty.int IntKind.i64) (Ty.pair Ty.bool (Ty.pair (Ty.int IntKind.u8) Ty.unit)))) 24),(8,TI.mk (Ty.pair (Ty.int IntKind.i64) (Ty.pair (Ty.int IntKind.i64) (Ty.pair Ty.bool (Ty.pair (Ty.int IntKind.u8) Ty.unit)))) 24),(9,TI.mk Ty.str 16),(10,TI.mk Ty.str 16),(11,TI.mk Ty.str 16),(12,TI.mk (Ty.int IntKind.u64) 8),(13,TI.mk (Ty.pair Ty.str (Ty.pair (Ty.int IntKind.u64) Ty.unit)) 24),(14,TI.mk (Ty.pair Ty.str (Ty.pair (Ty.int IntKind.u64) Ty.unit)) 24),(21,TI.mk (Ty.int IntKind.i32) 4),(22,TI.mk (Ty.d0 true Ty.str) 24),(26,TI.mk (Ty.int IntKind.i64) 8),(33,TI.mk (Ty.d0 true (Ty.pair (Ty.int IntKind.i64) (Ty.pair Ty.str Ty.unit))) 24),(39,TI.mk (Ty.pair (Ty.int IntKind.i64) (Ty.pair Ty.str Ty.unit)) 24),(40,TI.mk (Ty.pair (Ty.int IntKind.i64) (Ty.pair Ty.str Ty.unit)) 24),(43,TI.mk (Ty.d0 true (Ty.pair (Ty.int IntKind.i64) (Ty.pair (Ty.int IntKind.i64) (Ty.pair (Ty.int IntKind.i64) (Ty.pair Ty.str Ty.unit))))) 24),(44,TI.mk (Ty.d0 true (Ty.d0 true Ty.str)) 24),(45,TI.mk (Ty.d0 true (Ty.int IntKind.i64)) 24),(53,TI.mk (Ty.arr 6 (Ty.d0 true Ty.str)) 144),(55,TI.mk (Ty.map true (Ty.int IntKind.i64) (Ty.int IntKind.i64)) 8),(56,TI.mk (Ty.pair (Ty.int IntKind.i64) (Ty.pair (Ty.int IntKind.u8) Ty.unit)) 16),(57,TI.mk (Ty.pair (Ty.int IntKind.i64) (Ty.pair (Ty.int IntKind.u8) Ty.unit)) 16),(59,TI.mk (Ty.arr 10 (Ty.int IntKind.i64)) 80),(60,TI.mk (Ty.arr 10 (Ty.int IntKind.i64)) 80),(68,TI.mk (Ty.d0 true (Ty.d0 true (Ty.pair (Ty.int IntKind.i64) (Ty.pair Ty.str Ty.unit)))) 24),(69,TI.mk (Ty.pair (Ty.int IntKind.i64) (Ty.pair (Ty.int IntKind.i64) (Ty.pair (Ty.int IntKind.i64) (Ty.pair Ty.str Ty.unit)))) 40),(70,TI.mk (Ty.pair (Ty.int IntKind.i64) (Ty.pair (Ty.int IntKind.i64) (Ty.pair (Ty.int IntKind.i64) (Ty.pair Ty.str Ty.unit)))) 40),(74,TI.mk (Ty.d0 true (Ty.pair Ty.bool (Ty.pair (Ty.d0 true (Ty.pair (Ty.int IntKind.i64) (Ty.pair Ty.str Ty.unit))) (Ty.pair (Ty.pair (Ty.int IntKind.i64) (Ty.pair (Ty.d0 true Ty.str) Ty.unit)) (Ty.pair (Ty.pair (Ty.int IntKind.i64) (Ty.pair (Ty.d0 true (Ty.pair (Ty.int IntKind.i64) (Ty.pair Ty.str Ty.unit))) Ty.unit)) (Ty.pair (Ty.pair (Ty.int IntKind.i64) (Ty.pair (Ty.d0 true (Ty.pair (Ty.int IntKind.i64) (Ty.pair Ty.str Ty.unit))) Ty.unit)) Ty.unit)))))) 24),(75,TI.mk (Ty.pair (Ty.pair (Ty.int IntKind.i64) (Ty.pair (Ty.int IntKind.u8) Ty.unit)) (Ty.pair (Ty.d0 true (Ty.pair Ty.bool (Ty.pair (Ty.d0 true (Ty.pair (Ty.int IntKind.i64) (Ty.pair Ty.str Ty.unit))) (Ty.pair (Ty.pair (Ty.int IntKind.i64) (Ty.pair (Ty.d0 true Ty.str) Ty.unit)) (Ty.pair (Ty.pair (Ty.int IntKind.i64) (Ty.pair (Ty.d0 true (Ty.pair (Ty.int IntKind.i64) (Ty.pair Ty.str Ty.unit))) Ty.unit)) (Ty.pair (Ty.pair (Ty.int IntKind.i64) (Ty.pair (Ty.d0 true (Ty.pair (Ty.int IntKind.i64) (Ty.pair Ty.str Ty.unit))) Ty.unit)) Ty.unit)))))) (Ty.pair (Ty.d0 true Ty.str) (Ty.pair (Ty.d0 true Ty.str) Ty.unit)))) 88),(76,TI.mk (Ty.pair (Ty.pair (Ty.int IntKind.i64) (Ty.pair (Ty.int IntKind.u8) Ty.unit)) (Ty.pair (Ty.d0 true (Ty.pair Ty.bool (Ty.pair (Ty.d0 true (Ty.pair (Ty.int IntKind.i64) (Ty.pair Ty.str Ty.unit))) (Ty.pair (Ty.pair (Ty.int IntKind.i64) (Ty.pair (Ty.d0 true Ty.str) Ty.unit)) (Ty.pair (Ty.pair (Ty.int IntKind.i64) (Ty.pair (Ty.d0 true (Ty.pair (Ty.int IntKind.i64) (Ty.pair Ty.str Ty.unit))) Ty.unit)) (Ty.pair (Ty.pair (Ty.int IntKind.i64) (Ty.pair (Ty.d0 true (Ty.pair (Ty.int IntKind.i64) (Ty.pair Ty.str Ty.unit))) Ty.unit)) Ty.unit)))))) (Ty.pair (Ty.d0 true Ty.str) (Ty.pair (Ty.d0 true Ty.str) Ty.unit)))) 88),(77,TI.mk (Ty.pair (Ty.int IntKind.i64) (Ty.pair (Ty.d0 true Ty.str) Ty.unit)) 32),(78,TI.mk (Ty.pair (Ty.int IntKind.i64) (Ty.pair (Ty.d0 true Ty.str) Ty.unit)) 32),(81,TI.mk (Ty.d0 true (Ty.pair (Ty.int IntKind.i64) (Ty.pair Ty.str Ty.unit))) 24),(82,TI.mk (Ty.pair (Ty.int IntKind.i64) (Ty.pair (Ty.d0 true (Ty.pair (Ty.int IntKind.i64) (Ty.pair Ty.str Ty.unit))) Ty.unit)) 32),(83,TI.mk (Ty.pair (Ty.int IntKind.i64) (Ty.pair (Ty.d0 true (Ty.pair (Ty.int IntKind.i64) (Ty.pair Ty.str Ty.unit))) Ty.unit)) 32),(84,TI.mk (Ty.pair Ty.bool (Ty.pair (Ty.d0 true (Ty.pair (Ty.int IntKind.i64) (Ty.pair Ty.str Ty.unit))) (Ty.pair (Ty.pair (Ty.int IntKind.i64) (Ty.pair (Ty.d0 true Ty.str) Ty.unit)) (Ty.pair (Ty.pair (Ty.int IntKind.i64) (Ty.pair (Ty.d0 true (Ty.pair (Ty.int IntKind.i64) (Ty.pair Ty.str Ty.unit))) Ty.unit)) (Ty.pair (Ty.pair (Ty.int IntKind.i64) (Ty.pair (Ty.d0 true (Ty.pair (Ty.int IntKind.i64) (Ty.pair Ty.str Ty.unit))) Ty.unit)) Ty.unit))))) 128),(85,TI.mk (Ty.pair Ty.bool (Ty.pair (Ty.d0 true (Ty.pair (Ty.int IntKind.i64) (Ty.pair Ty.str Ty.unit))) (Ty.pair (Ty.pair (Ty.int IntKind.i64) (Ty.pair (Ty.d0 true Ty.str) Ty.unit)) (Ty.pair (Ty.pair (Ty.int IntKind.i64) (Ty.pair (Ty.d0 true (Ty.pair (Ty.int IntKind.i64) (Ty.pair Ty.str Ty.unit))) Ty.unit)) (Ty.pair (Ty.pair (Ty.int IntKind.i64) (Ty.pair (Ty.d0 true (Ty.pair (Ty.int IntKind.i64) (Ty.pair Ty.str Ty.unit))) Ty.unit)) Ty.unit))))) 128),(88,TI.mk (Ty.arr 6 (Ty.int IntKind.i64)) 48),(89,TI.mk (Ty.arr 6 (Ty.int IntKind.i64)) 48),(90,TI.mk (Ty.pair (Ty.int IntKind.i64) (Ty.pair (Ty.int IntKind.i64) (Ty.pair (Ty.int IntKind.i64) (Ty.pair (Ty.int IntKind.i64) (Ty.pair (Ty.int IntKind.i64) (Ty.pair (Ty.arr 6 (Ty.int IntKind.i64)) (Ty.pair Ty.str Ty.unit))))))) 104),(91,TI.mk (Ty.pair (Ty.int IntKind.i64) (Ty.pair (Ty.int IntKind.i64) (Ty.pair (Ty.int IntKind.i64) (Ty.pair (Ty.int IntKind.i64) (Ty.pair (Ty.int IntKind.i64) (Ty.pair (Ty.arr 6 (Ty.int IntKind.i64)) (Ty.pair Ty.str Ty.unit))))))) 104),(103,TI.mk (Ty.pair (Ty.int IntKind.i64) (Ty.pair Ty.str Ty.unit)) 24),(104,TI.mk (Ty.pair (Ty.int IntKind.i64) (Ty.pair Ty.str Ty.unit)) 24),(115,TI.mk (Ty.d0 true (Ty.int IntKind.u8)) 24),(117,TI.mk (Ty.int IntKind.u32) 4),(119,TI.mk (Ty.int IntKind.u64) 8),(125,TI.mk (Ty.pair (Ty.int IntKind.i64) (Ty.pair (Ty.int IntKind.i64) (Ty.pair (Ty.int IntKind.i64) Ty.unit))) 24),(126,TI.mk (Ty.pair (Ty.int IntKind.i64) (Ty.pair (Ty.int IntKind.i64) (Ty.pair (Ty.int IntKind.i64) Ty.unit))) 24),(158,TI.mk (Ty.arr 24 (Ty.int IntKind.u8)) 24),(159,TI.mk (Ty.int IntKind.u64) 8),(169,TI.mk (Ty.int IntKind.i64) 8),(176,TI.mk (Ty.arr 20 (Ty.int IntKind.u64)) 160),(177,TI.mk (Ty.arr 65 (Ty.int IntKind.u8)) 65),(181,TI.mk (Ty.arr 256 Ty.bool) 256),(182,TI.mk (Ty.arr 256 Ty.bool) 256),(206,TI.mk (Ty.pair Ty.str Ty.unit) 16),(207,TI.mk (Ty.pair Ty.str Ty.unit) 16),(208,TI.mk (Ty.arr 32 (Ty.int IntKind.u8)) 32),(209,TI.mk (Ty.arr 64 (Ty.int IntKind.u8)) 64),(211,TI.mk (Ty.arr 256 (Ty.int IntKind.u8)) 256),(212,TI.mk (Ty.pair (Ty.int IntKind.u8) (Ty.pair (Ty.int IntKind.u8) Ty.unit)) 2),(213,TI.mk (Ty.pair (Ty.int IntKind.u8) (Ty.pair (Ty.int IntKind.u8) Ty.unit)) 2),(214,TI.mk (Ty.arr 16 (Ty.pair (Ty.int IntKind.u8) (Ty.pair (Ty.int IntKind.u8) Ty.unit))) 32),(222,TI.mk (Ty.int IntKind.u8) 1),(223,TI.mk (Ty.int IntKind.u8) 1),(225,TI.mk (Ty.int IntKind.i32) 4),(226,TI.mk (Ty.int IntKind.i32) 4),(25,{ ty:=Ty.box true none u7,by_:=8 }),(94,{ ty:=Ty.fn 79,by_:=8 })]
theorem r7:tt.all (xC Tryz.prog)=true:=by kernel_rfl
theorem own:ownKnob Tryz.prog.godebug=none:=by kernel_rfl
theorem laid:laidOutB Tryz.prog=true:=by kernel_rfl
abbrev _root_.Go.Ex.Tree.ctL {ts:List Ty} (q:Code×List Item) (s:St):Tree ts:=.cut q.1 q.2 s
end Go.Proofs.YtijlnmgondibnaaGreatDoor
namespace Go.Proofs.YtijlnmgondibnaaGreatDoor
open Go.Ex Go.ChangeShapes Go.WideShapes Go.ChangeAt Go.RowKit
set_option maxRecDepth 100000
theorem ZN {X:Type} {enc:TypeId×Value->X} {C:Checked} {os:Os} {f:FuncId} {fn:Func} {s:OpenSpec} {k:(H:Type)->List (DataW H)->Bool} (hk:s.cond=some k) {F:Stop.Interp} {conds:List PathCond} {apart fresh handsOn again:Bool} {us:List Ty} {tb:TypeId} {a:Assume} {Y:World->Array Value->Prop}
    (hX:∀ (w w':World) (args:Array Value),w.heap=w'.heap->Y w args->Y w' args)
    (own:ownKnob C.prog.godebug=none) (started:os.Started) (noInit:C.prog.inits.idxOf? f=none) (jF:C.prog.funcs[f]?=some fn)
    (witness:∃ (w:World) (tape:Tape) (i:Input),w.os=os/\(w.forCall tape i).Shaped C.prog/\i.vars=[]/\Input.okWide C.prog (w.forCall tape i) .any w.heap.size f i /\
      ((s.pre enc C.prog fn conds apart (w.forCall tape i).memory i.args/\Y (w.forCall tape i).memory i.args)/\sizedMet enc C.prog fn s apart (w.forCall tape i).memory i.args)/\a.holds C.prog (lone (Frame.enter C.prog f i.args .normal) [] (w.forCall tape i)))
    (sY:∀ ds:List (DataW X),k X ds=true->V1 ds<=1048576)
    (hl:laidOutB C.prog=true) (dd:za C.prog fn.params.toList us=true) (fJ:s.vars=[]) (hs:∀ ds:List (DataW X),ds.length=fn.params.toList.length->s.fn F X ds={ results:=[.lit (.bool true)],args:=ds })
    (eK:fn.resultTypes=#[tb]) (nU:C.prog.underlying tb=some .bool) (hv:(Nx us).Valid C.prog f) (dI:∀ W args,W.ShapedOpen C.prog->Y W args->vv C.prog W (λ b=>b<W.heap.size)) :
    ReturnsInHanded a C os f .any (λ w args=>(s.pre enc C.prog fn conds apart w args/\Y w args)/\sizedMet enc C.prog fn s apart w args) ((s.at F).post enc C.prog fn apart fresh handsOn again):=by
  refine returnsInHanded_of_calls own started noInit witness ?_;intro w tape i _ cg _ aM bc pU;obtain ⟨_,_,_,fn',iL,_,_,_,_,dB⟩:=aM;have e:fn'=fn:=aEv (iL.symm.trans jF);subst e;obtain ⟨⟨lN,hx⟩,hz⟩:=bc;obtain ⟨ds,gs,before,hw,hc,mW⟩:=(OpenSpec.pre_some hk conds apart _ _).1 lN;have gN:=DataW.Whole.of_heap (w':=w.forCall tape i) (by rfl) hw;have hg:gs=[]:=by
    obtain ⟨p,q,hA,hV,_⟩:=hw;rw [fJ] at hV;exact (trodVars_none hV).1
  subst hg;rw [aBc] at mW;refine (ZM (s:=s.at F) (apart:=apart) (fresh:=fresh) (handsOn:=handsOn) (again:=again) hl dd fJ hs eK nU hv (dI _ _ cg (hX _ _ _ (by rfl) hx)) (λ x hx=>aAv hx (sY ds mW)) dB gN).mono λ e W' ⟨v,he,hp⟩=>?_;subst he;exact ChangeSpec.post_blind hp
theorem Nq {P:Program} {W:World} {n:String} {g:Nat} {cs:Array Value} (hg:P.globalNamed n=some g) (h:W.var? P n=some cs):g<W.heap.size:=by
  unfold World.var? at h;rw [hg,aGi] at h;by_cases bf:g<W.heap.size
  . exact bf
  . rw [aCf (by omega)] at h;cases h
theorem Zw {P:Program} {W:World} {n:String} {g:Nat} {v:Value} (hg:P.globalNamed n=some g) (h:W.cell? ⟨g,0,none⟩=some v):∃ cs,W.var? P n=some cs/\cs[0]?=some v:=by
  unfold World.var?;rw [hg,aGi];unfold World.cell? at h;split at h
  . rename_i cs T fz hh;exact ⟨cs,by rw [hh],h⟩
  . cases h
theorem Xm {l:List (String×DataW Unit)} {W:World} (cg:W.ShapedOpen Tryz.prog) (hl:laidMetH Tryz.prog l W) (hf:(l.filter λ x=>x.2.handleName?.isSome)=[]) (hm:("internal/strconv.uint64pow10",Rows.laid_internal_strconv_uint64pow10)∈l) :
    vv Tryz.prog W (λ b=>b<W.heap.size):=by
  unfold laidMetH at hl;rw [hf] at hl;obtain ⟨g,t,cs,fuel,p,h1,h2,h3,h4⟩:=Lib.laidMet.reads hl hm;intro x hx g' kl;simp only [Ie,aAp,List.mem_nil_iff,or_false] at hx;rcases hx with rfl|rfl
  . refine ⟨Nq kl h3,cs,h3,?_⟩;obtain rfl:=aEv ((show Tryz.prog.globalNamed "internal/strconv.uint64pow10"=some 0 by kernel_rfl).symm.trans h1)
    obtain rfl:=aEv ((show (Tryz.prog.globals[0]?).map (·.type)=some 176 by kernel_rfl).symm.trans h2);have:=Lib.cells_of_tab (n:=20) (e:=159) (k:=.u64) (zs:=(List.range 20).map λ i=>((10^i:Nat):Int)) (by kernel_rfl) (by kernel_rfl) (by kernel_rfl) (by kernel_rfl) h4;rw [<- this]
  . obtain rfl:=aEv ((show Tryz.prog.globalNamed "internal/bytealg.MaxLen"=some 1 by kernel_rfl).symm.trans kl)
    obtain ⟨m,hm⟩:=cell_of_shapedOpen_int (g:=1) (t:=3) (zero:=#[.int .i64 0]) (k:=.i64) cg (aCy (by kernel_rfl)) (by kernel_rfl) rfl (by kernel_rfl) (by kernel_rfl) (by kernel_rfl);obtain ⟨cs,k1,k2⟩:=Zw (show Tryz.prog.globalNamed "internal/bytealg.MaxLen"=some 1 by kernel_rfl) hm
    exact ⟨Nq (show Tryz.prog.globalNamed "internal/bytealg.MaxLen"=some 1 by kernel_rfl) k1,cs,k1,m,k2⟩
end Go.Proofs.YtijlnmgondibnaaGreatDoor
namespace Go.Proofs.YtijlnmgondibnaaGreatDoor
open Go.Ex
set_option maxRecDepth 100000
theorem F6 {n:Int}:r9 .i64 n↔-9223372036854775808<=n/\n<=9223372036854775807:=aIb
theorem sL:(∀p,(True/\p)=p)/\(∀p:Prop,(True->p)=p)/\(∀(p:Prop)[Decidable p],(decide p=true)=p)/\(∀(p:Prop)[Decidable p],(decide p=false)=¬p)/\(∀b:Bool,((!b)=true)=(b=false))/\(∀b:Bool,((!b)=false)=(b=true))/\(∀n:Nat,Int.toNat (n:Int)=n)/\(∀n,r9 .i64 n=(-9223372036854775808<=n/\n<=9223372036854775807))/\(∀(α:Type)(l:List α)(i:Nat)(a:α),(l.set i a).length=l.length)/\(∀(α:Type)(a:α)(l:List α),(a::l).length=l.length+1)/\(∀α:Type,([]:List α).length=0):=
  ⟨λ _=>true_and _,λ _=>true_implies _,λ _ _=>decide_eq_true_eq,λ _ _=>propext decide_eq_false_iff_not,λ _=>aAt _,λ _=>aFe _,λ _=>rfl,λ _=>propext F6,λ _ _ _ _=>aCa,λ _ _ _=>rfl,λ _=>rfl⟩
theorem WC:Ty.wb d9=8:=rfl
theorem HB:Ty.wb U8=1:=rfl
theorem yes:((true,()):Bool×Unit)=(true,()):=rfl
theorem Fe {α:Type} {l:List α} {i:Nat} (h:i<l.length) (d:α):l.drop i=l.getD i d::l.drop (i+1):=by
  rw [aDy h,aAb,aAf h]; rfl
theorem EJ {α:Type} {l:List α} {i:Nat} {d:α} (h:i<l.length):l.getD i d∈l:=by
  rw [aAb,aAf h]; exact aCp h
theorem Zv {α:Type} {l:List α} {x d:α} (h:x∈l):∃ i,i<l.length/\l.getD i d=x:=by
  obtain ⟨i,hi,e⟩:=aHx h;exact ⟨i,hi,by rw [aAb,aAf hi,e]; rfl⟩
theorem xu {α:Type} {l:List α} {i j:Nat} {x d:α} (h:i<l.length):(l.set i x).getD j d=if j=i then x else l.getD j d:=by
  rw [aAb,aAb,aEk];by_cases e:i=j
  . subst e; simp [h]
  . rw [if_neg e,if_neg (λ h=>e h.symm)]
theorem eq_of_getD {α:Type} {l m:List α} {d:α} (hl:l.length=m.length) (h:∀ i,i<l.length->l.getD i d=m.getD i d):l=m:=by
  refine aFm hl (λ i h1 h2=>?_);have:=h i h1
  rwa [aAb,aAb,aAf h1,aAf h2] at this
theorem b4X {α:Type} {n i:Nat} (f:Nat->α) (x:α) (hi:i<n):((List.range n).map f).set i x=(List.range n).map (λ j=>if j=i then x else f j):=by
  refine aFm (by simp) (λ j h1 h2=>?_);rw [List.getElem_set];simp only [List.getElem_map,List.getElem_range];by_cases e:i=j
  . rw [if_pos e,if_pos e.symm]
  . rw [if_neg e,if_neg (λ h=>e h.symm)]
def T7 {α:Type} (p:α->Bool):List α->Nat->Int
  | [],_=>-1
  | x::l,i=>if p x=true then (i:Int) else T7 p l (i+1)
def idxOf {α:Type} (p:α->Bool) (l:List α):Int:=T7 p l 0
theorem KH {α:Type} {p:α->Bool}:∀ {l:List α} {i:Nat},0<=T7 p l i↔∃ x∈l,p x=true
  | [],i=>by simp [T7]
  | x::l,i=>by
    rw [T7]
    split
    . rename_i h; exact ⟨λ _=>⟨x,by simp,h⟩,λ _=>by omega⟩
    . rename_i h;rw [KH];constructor
      . rintro ⟨y,h1,h2⟩; exact ⟨y,by simp [h1],h2⟩
      . rintro ⟨y,h1,h2⟩;rcases aAp.1 h1 with rfl|h1
        . exact absurd h2 h
        . exact ⟨y,h1,h2⟩
theorem Jg {α:Type} {p:α->Bool} {l:List α}:decide (0<=idxOf p l)=l.any p:=by
  cases e:l.any p with
  | true =>
    obtain ⟨x,h1,h2⟩:=aFn.1 e;exact decide_eq_true (KH.2 ⟨x,h1,h2⟩)
  | false =>
    refine decide_eq_false (λ h=>?_);obtain ⟨x,h1,h2⟩:=KH.1 h;rw [aFn.2 ⟨x,h1,h2⟩] at e;cases e
end Go.Proofs.YtijlnmgondibnaaGreatDoor
namespace Go.Proofs.YtijlnmgondibnaaGreatDoor
def step (r:Nat):Nat:=if r % 2=1 then (r / 2) ^^^ 2197175160 else r / 2
theorem Xf {r:Nat} (h:r<4294967296):step r<4294967296:=by
  unfold step
  split
  . exact aFy (n:=32) (by omega) (by decide)
  . omega
def steps:Nat->Nat->Nat
  | 0,r=>r
  | k+1,r=>steps k (step r)
theorem JV:∀ (k:Nat) {r:Nat},r<4294967296->steps k r<4294967296
  | 0,_,h=>h
  | k+1,_,h=>JV k (Xf h)
theorem Sf:∀ (a b r:Nat),steps (a+b) r=steps b (steps a r)
  | 0,b,r=>by rw [aEo]; rfl
  | a+1,b,r=>by rw [show a+1+b=(a+b)+1 by omega]; simp only [steps]; exact Sf a b _
def byt (r b:Nat):Nat:=steps 8 (r ^^^ b)
def reg (r:Nat) (s:yY):Nat:=s.foldl (λ r b=>byt r b.toNat) r
def vH (s:yY):Nat:=reg 4294967295 s ^^^ 4294967295
theorem XI (r:Nat) (s t:yY):reg r (s++t)=reg (reg r s) t:=by simp [reg]
theorem Vh {r:Nat} (h:r<4294967296) (b:UInt8):byt r b.toNat<4294967296:=JV 8 (aFy (n:=32) h (by have:=b.toNat_lt; omega))
theorem Nv:∀ {s:yY} {r:Nat},r<4294967296->reg r s<4294967296
  | [],_,h=>h
  | b::s,r,h=>show reg (byt r b.toNat) s<_ from Nv (Vh h b)
def le4 (x:Nat):yY:=[UInt8.ofNat x,UInt8.ofNat (x / 2^8),UInt8.ofNat (x / 2^16),UInt8.ofNat (x / 2^24)]
end Go.Proofs.YtijlnmgondibnaaGreatDoor
namespace Go.Proofs.YtijlnmgondibnaaGreatDoor
open Go.Ex
set_option maxRecDepth 100000
def Z4 (n a b:Int):Bool:=decide (a<=n) && decide (n<=b)
theorem xb {n a b:Int}:Z4 n a b=true↔a<=n/\n<=b:=by simp [Z4]
theorem Ja {α:Type} {l:List α} {i j:Int} (h0:0<=i) (h1:i<=j) (h2:j<=(l.length:Int)):o5 j (l.length:Int) l=l.drop j.toNat:=by
  rw [o5]; exact aAu (by rw [aAq]; omega)
theorem Pm {α:Type} {l:List α} {i j:Int} (h0:0<=i) (h1:i<=j) (h2:j<=(l.length:Int)):((o5 j (l.length:Int) l).length:Int)=(l.length:Int) - j/\(List.take i.toNat l++o5 j (l.length:Int) l++List.drop (i.toNat+(o5 j (l.length:Int) l).length) l).length=l.length:=by
  rw [Ja h0 h1 h2];simp only [aAe,aAk,aAq];omega
theorem XQ {α:Type} {l:List α} {d:List α} {i j:Int} (h0:0<=i) (h1:i<=j) (h2:j<=(l.length:Int)) {r:Nat} :
    o5 (0:Int) (i+(↑(List.length (o5 j (↑(List.length l):Int) l)):Int)) (List.take (Int.toNat ((0:Int)+(i+(↑(List.length (o5 j (↑(List.length l):Int) l)):Int) - (0:Int)))) (List.take (Int.toNat i) l++o5 j (↑(List.length l):Int) l++List.drop (Int.toNat i+List.length (o5 j (↑(List.length l):Int) l)) l)++d++List.drop r (List.take (Int.toNat i) l++o5 j (↑(List.length l):Int) l++List.drop (Int.toNat i+List.length (o5 j (↑(List.length l):Int) l)) l))=List.take i.toNat l++List.drop j.toNat l:=by
  obtain ⟨e1,e2⟩:=Pm h0 h1 h2 (l:=l);rw [Ja h0 h1 h2] at e1 e2 ⊢;generalize hX:List.take i.toNat l++List.drop j.toNat l++List.drop (i.toNat+(List.drop j.toNat l).length) l=X at e2 ⊢;have em:(0+(i+((List.drop j.toNat l).length:Int) - 0)).toNat=(List.take i.toNat l++List.drop j.toNat l).length:=by
    simp only [aAe,aAk]; omega
  have en:(i+((List.drop j.toNat l).length:Int) - 0).toNat=(List.take i.toNat l++List.drop j.toNat l).length:=by
    simp only [aAe,aAk]; omega
  rw [o5,em,en,Int.toNat_zero,aCb,aAl,aDp (by
    rw [aAk,e2];simp only [aAe,aAk,aAq]; omega),aCn,Nat.min_self,<- hX,List.take_left]
def rest (a n:Int):Int:=if n<=0 then 0 else Int.tmod (Int.tmod a n+n) n
def Hu:p7:={ ps:=[.v d9,.v d9],rs:=[d9],pre:=λ x=>LE.le (α:=Int) x.2.1 1000000000,fn:=λ x=>(rest x.1 x.2.1,()),out:=λ _=>() }
noncomputable def GY:Env:={ P:=Tryz.prog,tt:=tt,C9:=[],res:=[Go.ResultVar.tmp 4],rs:=[Ty.int IntKind.i64],ps:=[PK.v d9,PK.v d9],B8:=[],nt:=14 }
theorem PZ:w7 GY:=x6 r7 trivial
theorem PG:C0 GY Tryz.f39:=⟨rfl,rfl⟩
theorem Wi (x0:Int) (x1:Int):exec GY 1000 [.code (d8 Tryz.prog 39)] (s5 Hu.ps ((x0,x1,()))) =
  cond (decide (x1<=(0:Int))) (.ret (((0:Int),()))) (.f8 ((0:Int)<x1) (.f8 (r9 IntKind.i64 (Int.tmod x0 x1+x1)) (.f8 ((0:Int)<x1) (.ret ((Int.tmod (Int.tmod x0 x1+x1) x1,())))))):=by kernel_rfl
theorem b8I:Hu.Valid Tryz.prog 39:=by
  refine p7.n8 PZ rfl rfl Tryz.func39 (c:=d8 Tryz.prog 39) rfl rfl PG rfl ?_;rintro ⟨(x0:Int),(x1:Int),⟨⟩⟩ hp -
  refine j6 (n:=1000) PZ PG ?_;refine i7 (Wi x0 x1) ?_;have hp:x1<=1000000000:=hp;simp only [j7,Tree.holds,sL];refine ⟨λ a=>?_,λ a=>?_⟩
  . show ((0,()):Int×Unit)=(rest x0 x1,());rw [rest,if_pos a]
  . have h0:0<x1:=by omega
    have h1:=aEg x0 h0;have h2:-x1<Int.tmod x0 x1:=by
      have:=aEg (-x0) h0;rw [aGf] at this;omega
    refine ⟨h0,λ _=>⟨by omega,λ _=>⟨h0,λ _=>?_⟩⟩⟩;show ((_,()):Int×Unit)=(rest x0 x1,());rw [rest,if_neg a]
theorem Ol {a n:Int} (h:0<n):0<=rest a n/\rest a n<n:=by
  have h1:=aEg (-a) h;rw [aGf] at h1;rw [rest,if_neg (by omega)];exact ⟨Int.tmod_nonneg _ (by omega),aEg _ h⟩
end Go.Proofs.YtijlnmgondibnaaGreatDoor
namespace Go.Proofs.YtijlnmgondibnaaGreatDoor
open Go.Ex
instance {k:IntKind} {n:Int}:Decidable (r9 k n):=inferInstanceAs (Decidable (_/\_))
def bit (x:Int) (i:Nat):Bool:=x.toNat.testBit i
section
variable {k:IntKind} {x y:Int}
theorem BM (hk:k.signed=false):r9 k x↔0<=x/\x<2^k.bits:=by
  cases k<;>simp [IntKind.signed] at hk<;>simp [r9,IntKind.min,IntKind.max,IntKind.signed,IntKind.bits]<;>omega
theorem Dy (hk:k.signed=false) (b:BitVec k.bits):k.wrap (b.toNat:Int)=(b.toNat:Int):=by
  refine U2 ((BM hk).2 ⟨aGa _,?_⟩);have:=b.isLt
  exact_mod_cast this
theorem yv (hk:k.signed=false) (hx:r9 k x) (i:Nat):(BitVec.ofInt k.bits x).getLsbD i=bit x i:=by
  obtain ⟨h0,h1⟩:=(BM hk).1 hx;obtain ⟨n,rfl⟩:=aEh h0;have hn:n<2^k.bits:=by exact_mod_cast h1
  rw [BitVec.ofInt_natCast,BitVec.getLsbD_ofNat];simp only [bit,aCq];by_cases hi:i<k.bits
  . simp [hi]
  . have:n.testBit i=false:=aHc (aAr hn (aEr (by omega) (by omega)));simp [this]
theorem Pe (hk:k.signed=false) (hx:r9 k x) {i:Nat} (hi:k.bits<=i):bit x i=false:=by
  obtain ⟨h0,h1⟩:=(BM hk).1 hx;obtain ⟨n,rfl⟩:=aEh h0;have hn:n<2^k.bits:=by exact_mod_cast h1
  exact aHc (aAr hn (aEr (by omega) hi))
theorem Pd (hk:k.signed=false) (hx:r9 k x) (hy:r9 k y) (i:Nat):bit (T4 k x y) i=(bit x i && bit y i):=by
  rw [T4,Dy hk,bit,aCq,BitVec.testBit_toNat,BitVec.getLsbD_and,yv hk hx,yv hk hy]
theorem Nk (hk:k.signed=false) (hx:r9 k x) (hy:r9 k y) (i:Nat):bit (bOr k x y) i=(bit x i || bit y i):=by
  rw [bOr,Dy hk,bit,aCq,BitVec.testBit_toNat,BitVec.getLsbD_or,yv hk hx,yv hk hy]
theorem XJ (hk:k.signed=false) (hx:r9 k x) (hy:r9 k y) (i:Nat):bit (vP k x y) i=(bit x i ^^ bit y i):=by
  rw [vP,Dy hk,bit,aCq,BitVec.testBit_toNat,BitVec.getLsbD_xor,yv hk hx,yv hk hy]
theorem SZ (hk:k.signed=false) (hx:r9 k x) (hy:r9 k y) (i:Nat):bit (S8 k x y) i=(bit x i && !bit y i):=by
  rw [S8,Dy hk,bit,aCq,BitVec.testBit_toNat,BitVec.getLsbD_and,BitVec.getLsbD_not,yv hk hx,yv hk hy];by_cases hi:i<k.bits
  . simp [hi]
  . rw [Pe hk hx (by omega)]; simp
theorem Nf:r9 k (T4 k x y):=U7 _ _
theorem HE:r9 k (bOr k x y):=U7 _ _
theorem WE:r9 k (vP k x y):=U7 _ _
theorem AL:r9 k (S8 k x y):=U7 _ _
theorem JD (hx:0<=x) (hy:0<=y) (h:∀ i,bit x i=bit y i):x=y:=by
  have:x.toNat=y.toNat:=Nat.eq_of_testBit_eq h;omega
theorem c3q (hx:0<=x):x=0↔∀ i,bit x i=false:=by
  constructor
  . rintro rfl i; simp [bit]
  . intro h; exact JD hx (by omega) (λ i=>by rw [h i]; simp [bit])
end
theorem u8s:IntKind.u8.signed=false:=rfl
theorem u8_in {x:Int}:r9 .u8 x↔0<=x/\x<=255:=aIb
def MJ (n:Nat):Nat:=((List.range 8).map λ i=>(n.testBit i).toNat).sum
def vR (m:Int):Int:=(MJ m.toNat:Int)
theorem XA (m:Int):vR m=((bit m 0).toNat+(bit m 1).toNat+(bit m 2).toNat+(bit m 3).toNat+(bit m 4).toNat+(bit m 5).toNat+(bit m 6).toNat+(bit m 7).toNat:Nat):=by
  simp only [vR,MJ,List.range,List.range.loop,aDb,aHj,List.sum_cons,List.sum_nil,bit];omega
theorem toNat_le (b:Bool):b.toNat<=1:=by cases b<;>decide
theorem OV (m:Int):0<=vR m/\vR m<=8:=by
  rw [XA];have:=toNat_le (bit m 0); have:=toNat_le (bit m 1); have:=toNat_le (bit m 2); have:=toNat_le (bit m 3);have:=toNat_le (bit m 4); have:=toNat_le (bit m 5); have:=toNat_le (bit m 6); have:=toNat_le (bit m 7);omega
end Go.Proofs.YtijlnmgondibnaaGreatDoor
namespace Go.Proofs.YtijlnmgondibnaaGreatDoor
open Go.Ex
set_option maxRecDepth 100000
theorem Av {n:Int}:r9 .u32 n↔0<=n/\n<=4294967295:=aIb
theorem Yh {k:IntKind} (hk:k.signed=false) {a b:Nat} (ha:r9 k a) (hb:r9 k b):vP k (a:Int) (b:Int)=((a ^^^ b:Nat):Int) :=
  JD ((BM hk).1 WE).1 (aGa _) (λ i=>by rw [XJ hk ha hb]; simp [bit,Nat.testBit_xor])
theorem Yg {k:IntKind} (hk:k.signed=false) {a b:Nat} (ha:r9 k a) (hb:r9 k b):T4 k (a:Int) (b:Int)=((a &&& b:Nat):Int) :=
  JD ((BM hk).1 Nf).1 (aGa _) (λ i=>by rw [Pd hk ha hb]; simp [bit,Nat.testBit_and])
theorem HC {a b:Nat} (ha:a<4294967296) (hb:b<4294967296):vP .u32 (a:Int) (b:Int)=((a ^^^ b:Nat):Int):=Yh rfl (Av.2 ⟨by omega,by omega⟩) (Av.2 ⟨by omega,by omega⟩)
theorem VU {a:Nat} (ha:a<4294967296):T4 .u32 (a:Int) 1=((a % 2:Nat):Int):=by
  have:=Yg (k:=.u32) rfl (a:=a) (b:=1) (Av.2 ⟨by omega,by omega⟩) (Av.2 ⟨by omega,by omega⟩);rw [Nat.and_one_is_mod] at this;exact this
def Dl:p7:={ ps:=[.v .str],rs:=[.int .u32],pre:=λ _=>True,fn:=λ x=>(((vH x.1:Nat):Int),()),out:=λ _=>() }
noncomputable def AX:Env:={ P:=Tryz.prog,tt:=tt,C9:=[],res:=[Go.ResultVar.tmp 2],rs:=[Ty.int IntKind.u32],ps:=[PK.v Ty.str],B8:=[(3,[(0,none),(3,none),(7,none),(8,none)]),(7,[(0,none),(3,none),(7,none),(8,none),(17,none)])],nt:=31 }
theorem Eu:w7 AX:=x6 r7 trivial
theorem a87:C0 AX Tryz.f63:=⟨rfl,rfl⟩
theorem Vx (x0:yY):exec AX 1000 [.code (d8 Tryz.prog 63)] (s5 Dl.ps ((x0,()))) =
  .ctL (g8 (d8 Tryz.prog 63) 3) (St.mk [(0,AV.val Ty.str x0),(3,AV.val (Ty.int IntKind.u32) (4294967295:Int)),(7,AV.val d9 (↑(List.length x0):Int)),(8,AV.val d9 (0:Int))] []):=by kernel_rfl
def Oe (v0:yY) (v3:Int) (v7:Int) (v8:Int):St:=St.mk [(0,AV.val Ty.str v0),(3,AV.val (Ty.int IntKind.u32) v3),(7,AV.val d9 v7),(8,AV.val d9 v8)] []
theorem WH (v0:yY) (v3:Int) (v7:Int) (v8:Int):exec AX 1000 (.code (g8 (d8 Tryz.prog 63) 3).1::.inLoop (g8 (d8 Tryz.prog 63) 3).1::(g8 (d8 Tryz.prog 63) 3).2) (Oe v0 v3 v7 v8) =
  cond (decide (v8<v7)) (.f8 ((0:Int)<=v8/\v8<(↑(List.length v0):Int)) (.ctL (g8 (d8 Tryz.prog 63) 7) (St.mk [(0,AV.val Ty.str v0),(3,AV.val (Ty.int IntKind.u32) (vP IntKind.u32 v3 (IntKind.wrap IntKind.u32 (↑(UInt8.toNat (List.getD v0 (Int.toNat v8) (0:UInt8))):Int)))),(7,AV.val d9 v7),(8,AV.val d9 v8),(17,AV.val d9 (0:Int))] []))) (.ret ((vP IntKind.u32 (if IntKind.signed IntKind.u32=true then (-1:Int) else IntKind.max IntKind.u32) v3,()))):=by kernel_rfl
def Oh (v0:yY) (v3:Int) (v7:Int) (v8:Int) (vG:Int):St:=St.mk [(0,AV.val Ty.str v0),(3,AV.val (Ty.int IntKind.u32) v3),(7,AV.val d9 v7),(8,AV.val d9 v8),(17,AV.val d9 vG)] []
theorem WI (v0:yY) (v3:Int) (v7:Int) (v8:Int) (vG:Int):exec AX 1000 (.code (g8 (d8 Tryz.prog 63) 7).1::.inLoop (g8 (d8 Tryz.prog 63) 7).1::(g8 (d8 Tryz.prog 63) 7).2) (Oh v0 v3 v7 v8 vG) =
  cond (decide (vG<(8:Int))) (.f8 ((0:Int)<=(1:Int)) (cond (decide (T4 IntKind.u32 v3 (1:Int)=(1:Int))) (.f8 (r9 IntKind.i64 (vG+(1:Int))) (.ctL (g8 (d8 Tryz.prog 63) 7) (St.mk [(0,AV.val Ty.str v0),(3,AV.val (Ty.int IntKind.u32) (vP IntKind.u32 (v3 / (2:Int)^min (Int.toNat (1:Int)) (IntKind.bits IntKind.u32)) (2197175160:Int))),(7,AV.val d9 v7),(8,AV.val d9 v8),(17,AV.val d9 (vG+(1:Int)))] []))) (.f8 (r9 IntKind.i64 (vG+(1:Int))) (.ctL (g8 (d8 Tryz.prog 63) 7) (St.mk [(0,AV.val Ty.str v0),(3,AV.val (Ty.int IntKind.u32) (v3 / (2:Int)^min (Int.toNat (1:Int)) (IntKind.bits IntKind.u32))),(7,AV.val d9 v7),(8,AV.val d9 v8),(17,AV.val d9 (vG+(1:Int)))] []))))) (.f8 (r9 IntKind.i64 (v8+(1:Int))) (.ctL (g8 (d8 Tryz.prog 63) 3) (St.mk [(0,AV.val Ty.str v0),(3,AV.val (Ty.int IntKind.u32) v3),(7,AV.val d9 v7),(8,AV.val d9 (v8+(1:Int)))] []))):=by kernel_rfl
theorem c0N (k r:Nat):steps (k+1) r=step (steps k r):=by rw [Sf k 1]; rfl
theorem YL {s:yY} {i:Nat} (h:i<s.length) (r:Nat):reg r (s.take (i+1))=steps 8 (reg r (s.take i) ^^^ (s.getD i 0).toNat):=by
  rw [aGc,aAf h,XI,aAb,aAf h];rfl
theorem SH:Dl.Valid Tryz.prog 63:=by
  refine p7.n8 Eu rfl rfl Tryz.func63 (c:=d8 Tryz.prog 63) rfl rfl a87 rfl ?_;rintro ⟨(s:yY),⟨⟩⟩ - ⟨hl,-⟩;have hl:s.length<=9223372036854775807:=hl;refine j6 (n:=1000) Eu a87 ?_;refine i7 (Vx s) ?_;refine Reach.M7 Eu a87 (λ i:Nat=>Oe s ((reg 4294967295 (s.take i):Nat):Int) (s.length:Int) (i:Int)) (λ i=>i<=s.length)
    (λ i=>s.length - i) 1000 (λ i=>⟨s9 rfl,s9 rfl⟩) ?_ 0 (by omega)
  rintro i hi - ih;refine i7 (WH ..) ?_;simp only [j7,Tree.holds,sL];have hr:=Nv (s:=s.take i) (r:=4294967295) (by decide);have hb:(s.getD i 0).toNat<256:=UInt8.toNat_lt _;refine ⟨λ a=>⟨⟨by omega,by omega⟩,λ _=>?_⟩,λ a=>?_⟩
  . have ux:reg 4294967295 (s.take i) ^^^ (s.getD i 0).toNat<4294967296:=aFy (n:=32) hr (by omega);rw [show IntKind.wrap IntKind.u32 ((s.getD i 0).toNat:Int)=((s.getD i 0).toNat:Int) from U2 (Av.2 ⟨by omega,by omega⟩),HC hr (by omega)];refine Reach.M7 Eu a87 (λ j:Nat=>Oh s ((steps j (reg 4294967295 (s.take i) ^^^ (s.getD i 0).toNat):Nat):Int) (s.length:Int) (i:Int) (j:Int)) (λ j=>j<=8)
      (λ j=>8 - j) 1000 (λ i=>⟨s9 rfl,s9 rfl⟩) ?_ 0 (by omega)
    rintro j hj - ih2;refine i7 (WI ..) ?_;have hs:=JV j ux;have hn:=c0N j (reg 4294967295 (s.take i) ^^^ (s.getD i 0).toNat);have he:steps 8 (reg 4294967295 (s.take i) ^^^ (s.getD i 0).toNat)=reg 4294967295 (s.take (i+1))\/¬ i<s.length:=by
      by_cases h:i<s.length
      . exact .inl (YL h _).symm
      . exact .inr h
    generalize hR:steps j (reg 4294967295 (s.take i) ^^^ (s.getD i 0).toNat)=r at *
    have hd:((r:Nat):Int) / 2^min (Int.toNat 1) (IntKind.bits IntKind.u32)=((r / 2:Nat):Int):=by
      show ((r:Nat):Int) / 2^1=_;omega
    rw [hd,VU hs,show (2197175160:Int)=((2197175160:Nat):Int) from rfl,HC (by omega) (by decide)];simp only [j7,Tree.holds,decide_eq_true_eq,decide_eq_false_iff_not];have hk:r9 .i64 ((j:Int)+1):=F6.2 ⟨by omega,by omega⟩;refine ⟨λ b=>⟨by decide,λ _=>⟨λ c=>⟨hk,λ _=>?_⟩,λ c=>⟨hk,λ _=>?_⟩⟩⟩,λ b=>⟨F6.2 ⟨by omega,by omega⟩,λ _=>?_⟩⟩
    . have h9:=ih2 (j+1) (by omega) (by omega);rw [hn,step,if_pos (by omega)] at h9;exact h9
    . have h9:=ih2 (j+1) (by omega) (by omega);rw [hn,step,if_neg (by omega)] at h9;exact h9
    . have tf:j=8:=by omega
      subst tf;rw [hR] at he;have h9:=ih (i+1) (by omega) (by omega);rw [<- he.resolve_right (λ h=>h (by omega))] at h9;exact h9
  . have hi:i=s.length:=by omega
    subst hi;rw [aDo] at hr ⊢;show (vP .u32 4294967295 ((reg 4294967295 s:Nat):Int),())=(((vH s:Nat):Int),());rw [show (4294967295:Int)=((4294967295:Nat):Int) from rfl,HC (by decide) hr,vH,Nat.xor_comm]
end Go.Proofs.YtijlnmgondibnaaGreatDoor
namespace Go.Proofs.YtijlnmgondibnaaGreatDoor
open Go.Ex
section
variable {α:Type} {p:α->Bool} {d:α}
theorem Qm:∀ {l:List α} {j:Nat},T7 p l j≠-1->∃ k:Nat,T7 p l j=((j+k:Nat):Int)/\k<l.length/\p (l.getD k d)=true/\∀ i,i<k->p (l.getD i d)=false
  | [],_,h=>absurd rfl h
  | y::l,j,h=>by
    by_cases hy:p y=true
    . exact ⟨0,by rw [T7,if_pos hy]; rfl,by simp,hy,λ i hi=>by omega⟩
    . rw [T7,if_neg hy] at h ⊢;obtain ⟨k,h1,h2,h3,h4⟩:=Qm h;refine ⟨k+1,by rw [h1]; congr 1; omega,by simp; omega,h3,λ i hi=>?_⟩;cases i with
      | zero=>simpa using hy
      | succ i=>exact h4 i (by omega)
structure we (p:α->Bool) (l m:List α) (i j:Nat):Prop where
  tk:m.take i=(l.take j).filter (λ x=>!p x)
  dr:m.drop j=l.drop j
  len:m.length=l.length
  lt:i<j
  le:j<=l.length
theorem Eg {l:List α} {i:Nat} (h:i<l.length) (d:α):l.take (i+1)=l.take i++[l.getD i d]:=by
  rw [aAb,aAf h]; simp
theorem c1s:∀ {l:List α},(∀ x∈l,p x=false)->l.filter (λ x=>!p x)=l:=λ h=>aDe.2 (λ x hx=>by rw [h x hx]; rfl)
theorem we.start (d:α) {l:List α} (h:idxOf p l≠-1):∃ k:Nat,idxOf p l=(k:Int)/\k<l.length/\we p l l k (k+1):=by
  obtain ⟨k,h1,h2,h3,h4⟩:=Qm (d:=d) h;refine ⟨k,by rw [idxOf,h1]; congr 1; omega,h2,⟨?_,rfl,rfl,by omega,by omega⟩⟩;rw [Eg h2 d,aDh,c1s]
  . simp only [aDg,List.filter_nil,h3]; simp
  . intro x hx;obtain ⟨i,hi,rfl⟩:=Zv (d:=d) hx;rw [aAk] at hi;have:=h4 i (by omega);rw [aAb,aBn,if_pos (by omega),<- aAb];exact this
theorem we.at_ {l m:List α} {i j:Nat} (h:we p l m i j) (d:α):m.getD j d=l.getD j d:=by
  have:=congrArg (λ q:List α=>q.getD 0 d) h.dr;simpa [aAb,aBi] using this
theorem we.MB {l m:List α} {i j:Nat} (h:we p l m i j):m.drop (j+1)=l.drop (j+1):=by
  rw [<- aBj,<- aBj,h.dr]
theorem we.xG {l m:List α} {i j:Nat} (h:we p l m i j) (hj:j<l.length) (hp:p (m.getD j d)=false):we p l (m.set i (m.getD j d)) (i+1) (j+1):=by
  have hl:=h.len;have bf:=h.lt;refine ⟨?_,?_,by rw [aCa,hl],by omega,by omega⟩
  . rw [Eg hj d,aDh,<- h.tk,Eg (by rw [aCa]; omega) d];rw [h.at_ d] at hp ⊢;congr 1
    . rw [List.take_set_of_le (aAj i)]
    . rw [xu (by omega),if_pos rfl]; generalize l.getD j d=x at hp ⊢; simp [hp]
  . rw [List.drop_set_of_lt (by omega)]; exact h.MB
theorem we.skip {l m:List α} {i j:Nat} (h:we p l m i j) (hj:j<l.length) (hp:p (m.getD j d)=true):we p l m i (j+1):=by
  refine ⟨?_,h.MB,h.len,by have:=h.lt; omega,by omega⟩;rw [Eg hj d,aDh,<- h.tk];rw [h.at_ d] at hp;generalize l.getD j d=x at hp ⊢;simp [hp]
theorem we.fin {l m A B:List α} {i j:Nat} (h:we p l m i j) (hj:j=l.length):o5 0 (i:Int) (m.take i++A++B)=l.filter (λ x=>!p x):=by
  have h1:=h.tk;rw [hj,aAu (aAj _)] at h1;have hi:(m.take i).length=i:=by rw [aAk]; have:=h.len; have:=h.lt; omega
  rw [o5,show ((i:Int) - 0).toNat=i by omega,Int.toNat_zero,aCb,aAl,aDp (by omega),aAu (by omega),h1]
end
end Go.Proofs.YtijlnmgondibnaaGreatDoor
namespace Go.Proofs.YtijlnmgondibnaaGreatDoor
open Go.Ex
set_option maxRecDepth 100000
theorem Fu {α:Type} {l:List α} {i:Nat} (h:i<l.length) (d:α):l.take (i+1)=l.take i++[l.getD i d]:=by
  rw [List.take_succ_eq_append_getElem h,aAb,aAf h]; rfl
abbrev C2:=Int×Int×Int×Int×Int×List Int×yY×Unit
def J3 (n a b:Int):Bool:=decide (a<=n) && decide (n<=b)
theorem W5 {n a b:Int}:J3 n a b=true↔a<=n/\n<=b:=by simp [J3]
def Di:p7:={ ps:=[.v d9,.v d9,.v d9],rs:=[.bool],pre:=λ _=>True,fn:=λ x=>(J3 x.1 x.2.1 x.2.2.1,()),out:=λ _=>() }
noncomputable def Ga:Env:={ P:=Tryz.prog,tt:=tt,C9:=[],res:=[Go.ResultVar.tmp 6],rs:=[Ty.bool],ps:=[PK.v d9,PK.v d9,PK.v d9],B8:=[],nt:=15 }
theorem NG:w7 Ga:=x6 r7 trivial
theorem NQ:C0 Ga Tryz.f80:=⟨rfl,rfl⟩
theorem VB (x0:Int) (x1:Int) (x2:Int):exec Ga 1000 [.code (d8 Tryz.prog 80)] (s5 Di.ps ((x0,x1,x2,()))) =
  cond (decide (x1<=x0)) (.ret ((decide (x0<=x2),()))) (.ret ((false,()))):=by kernel_rfl
theorem Td:Di.Valid Tryz.prog 80:=by
  refine p7.n8 NG rfl rfl Tryz.func80 (c:=d8 Tryz.prog 80) rfl rfl NQ rfl ?_;rintro ⟨(n:Int),(a:Int),(b:Int),⟨⟩⟩ - -
  refine j6 (n:=1000) NG NQ ?_;refine i7 (VB n a b) ?_;simp only [j7,Tree.holds,sL];refine ⟨λ c=>?_,λ c=>?_⟩
  . show ((decide _,()):Bool×Unit)=(J3 n a b,()); rw [J3,decide_eq_true c,aEj]
  . show ((false,()):Bool×Unit)=(J3 n a b,()); rw [J3,decide_eq_false c,aGt]
def Dj:p7:={ ps:=[.v d9],rs:=[.bool],pre:=λ _=>True,fn:=λ x=>(J3 x.1 0 16777215,()),out:=λ _=>() }
noncomputable def FR:Env:={ P:=Tryz.prog,tt:=tt,C9:=[(80,Di)],res:=[Go.ResultVar.tmp 2],rs:=[Ty.bool],ps:=[PK.v d9],B8:=[],nt:=5 }
theorem NJ:w7 FR:=x6 r7 ⟨Td,trivial⟩
theorem NT:C0 FR Tryz.f79:=⟨rfl,rfl⟩
theorem VE (x0:Int):exec FR 1000 [.code (d8 Tryz.prog 79)] (s5 Dj.ps ((x0,()))) =
  .f8 (True) (.ret ((J3 x0 (0:Int) (16777215:Int),()))):=by kernel_rfl
theorem SD:Dj.Valid Tryz.prog 79:=by
  refine p7.n8 NJ rfl rfl Tryz.func79 (c:=d8 Tryz.prog 79) rfl rfl NT rfl ?_;rintro ⟨(n:Int),⟨⟩⟩ - -
  refine j6 (n:=1000) NJ NT ?_;refine i7 (VE n) ?_;exact ⟨trivial,λ _=>rfl⟩
def U6 (n:Int):Bool:=!J3 n 0 16777215
def IQ:p7:={ ps:=[.v d9,.rd (.fn 79)],rs:=[.bool],pre:=λ x=>Eq (α:=Bool) x.2.1 true,fn:=λ x=>(U6 x.1,()),out:=λ _=>() }
noncomputable def ID:Env:={ P:=Tryz.prog,tt:=tt,C9:=[(79,Dj)],res:=[Go.ResultVar.tmp 3],rs:=[Ty.bool],ps:=[PK.v d9,PK.rd (Ty.fn 79)],B8:=[],nt:=8 }
theorem SO:w7 ID:=x6 r7 ⟨SD,trivial⟩
theorem SU:C0 ID Tryz.f82:=⟨rfl,rfl⟩
theorem c43 (x0:Int) (x1:Bool):exec ID 1000 [.code (d8 Tryz.prog 82)] (s5 IQ.ps ((x0,x1,()))) =
  .f8 (x1=true/\True) (.ret ((!J3 x0 (0:Int) (16777215:Int),()))):=by kernel_rfl
theorem b5b:IQ.Valid Tryz.prog 82:=by
  refine p7.n8 SO rfl rfl Tryz.func82 (c:=d8 Tryz.prog 82) rfl rfl SU rfl ?_;rintro ⟨(n:Int),(b:Bool),⟨⟩⟩ (hp:b=true) -
  refine j6 (n:=1000) SO SU ?_;refine i7 (c43 n b) ?_;exact ⟨⟨hp,trivial⟩,λ _=>rfl⟩
def GN:p7:={ ps:=[.v (.d0 false d9),.C7 82 [.fn 79]],rs:=[d9],pre:=λ x=>Eq (α:=Bool) x.2.1.1 true,fn:=λ x=>(idxOf (U6) x.1,()),out:=λ _=>() }
noncomputable def DQ:Env:={ P:=Tryz.prog,tt:=tt,C9:=[(82,IQ)],res:=[Go.ResultVar.tmp 4],rs:=[Ty.int IntKind.i64],ps:=[PK.v (Ty.d0 false d9),PK.C7 82 [Ty.fn 79]],B8:=[(2,[(0,none),(1,none),(7,none),(8,none)])],nt:=19 }
theorem JN:w7 DQ:=x6 r7 ⟨b5b,trivial⟩
theorem Jv:C0 DQ Tryz.f95:=⟨rfl,rfl⟩
theorem VY (x0:List Int) (x1c0:Bool):exec DQ 1000 [.code (d8 Tryz.prog 95)] (s5 GN.ps ((x0,(x1c0,()),()))) =
  .ctL (g8 (d8 Tryz.prog 95) 2) (St.mk [(0,AV.val (Ty.d0 false d9) x0),(1,AV.C7 82 (AV.cons (AV.M1 (Ty.fn 79) x1c0) AV.nil)),(7,AV.val d9 (↑(List.length x0):Int)),(8,AV.val d9 (0:Int))] []):=by kernel_rfl
def PR (v0:List Int) (AT:Bool) (v7:Int) (v8:Int):St:=St.mk [(0,AV.val (Ty.d0 false d9) v0),(1,AV.C7 82 (AV.cons (AV.M1 (Ty.fn 79) AT) AV.nil)),(7,AV.val d9 v7),(8,AV.val d9 v8)] []
theorem YD (v0:List Int) (AT:Bool) (v7:Int) (v8:Int):exec DQ 1000 (.code (g8 (d8 Tryz.prog 95) 2).1::.inLoop (g8 (d8 Tryz.prog 95) 2).1::(g8 (d8 Tryz.prog 95) 2).2) (PR v0 AT v7 v8) =
  cond (decide (v8<v7)) (.f8 ((0:Int)<=v8/\v8<(↑(List.length v0):Int)) (.f8 (AT=true) (cond (U6 (List.getD v0 (Int.toNat v8) (0:Int))) (.ret ((v8,()))) (.f8 (r9 IntKind.i64 (v8+(1:Int))) (.ctL (g8 (d8 Tryz.prog 95) 2) (St.mk [(0,AV.val (Ty.d0 false d9) v0),(1,AV.C7 82 (AV.cons (AV.M1 (Ty.fn 79) AT) AV.nil)),(7,AV.val d9 v7),(8,AV.val d9 (v8+(1:Int)))] [])))))) (.ret (((-1:Int),()))):=by kernel_rfl
theorem b8V:GN.Valid Tryz.prog 95:=by
  refine p7.n8 JN rfl rfl Tryz.func95 (c:=d8 Tryz.prog 95) rfl rfl Jv rfl ?_;rintro ⟨(l:List (Int)),⟨(b:Bool),⟨⟩⟩,⟨⟩⟩ hp ⟨⟨hl,-⟩,-⟩;have hl:l.length<=9223372036854775807:=hl;have hp:b=true:=hp;refine j6 (n:=1000) JN Jv ?_;refine i7 (VY l b) ?_;refine Reach.M7 JN Jv (λ i:Nat=>PR l b (l.length:Int) (i:Int)) (λ i=>i<=l.length/\idxOf (U6) l=T7 (U6) (l.drop i) i)
    (λ i=>l.length - i) 1000 (λ _=>⟨s9 rfl,s9 rfl⟩) ?_ 0 ⟨by omega,rfl⟩
  rintro i ⟨k1,k2⟩ - ih;refine i7 (YD ..) ?_;simp only [j7,Tree.holds,sL];refine ⟨λ h=>?_,λ h=>?_⟩
  . rw [Fe (show i<l.length by omega) 0,T7] at k2;refine ⟨by omega,λ _=>⟨hp,λ _=>⟨λ c=>?_,λ c=>⟨by omega,λ _=>ih (i+1) ⟨by omega,?_⟩ (by omega)⟩⟩⟩⟩
    . show (((i:Int),()):Int×Unit)=(idxOf (U6) l,());rw [k2,if_pos (show (U6) (l.getD i 0)=true from c)]
    . rw [k2,if_neg (show ¬ (U6) (l.getD i 0)=true from λ h9=>Bool.noConfusion (Eq.trans (Eq.symm h9) c))]
  . rw [aDr (by omega)] at k2;show (((-1:Int),()):Int×Unit)=(idxOf (U6) l,());rw [k2]; rfl
def Il:p7:={ ps:=[.v (.d0 false d9),.C7 82 [.fn 79]],rs:=[.bool],pre:=λ x=>Eq (α:=Bool) x.2.1.1 true,fn:=λ x=>(List.any (α:=Int) x.1 (U6),()),out:=λ _=>() }
noncomputable def HJ:Env:={ P:=Tryz.prog,tt:=tt,C9:=[(95,GN)],res:=[Go.ResultVar.tmp 4],rs:=[Ty.bool],ps:=[PK.v (Ty.d0 false d9),PK.C7 82 [Ty.fn 79]],B8:=[],nt:=9 }
theorem Rr:w7 HJ:=x6 r7 ⟨b8V,trivial⟩
theorem RI:C0 HJ Tryz.f81:=⟨rfl,rfl⟩
theorem Yo (x0:List Int) (x1c0:Bool):exec HJ 1000 [.code (d8 Tryz.prog 81)] (s5 Il.ps ((x0,(x1c0,()),()))) =
  .f8 (x1c0=true) (.ret ((decide ((0:Int)<=idxOf U6 x0),()))):=by kernel_rfl
theorem b6O:Il.Valid Tryz.prog 81:=by
  refine p7.n8 Rr rfl rfl Tryz.func81 (c:=d8 Tryz.prog 81) rfl rfl RI rfl ?_;rintro ⟨(l:List (Int)),⟨(b:Bool),⟨⟩⟩,⟨⟩⟩ hp -
  refine j6 (n:=1000) Rr RI ?_;refine i7 (Yo l b) ?_;refine ⟨hp,λ _=>?_⟩;show ((decide (0<=idxOf (U6) l),()):Bool×Unit)=(l.any (U6),());rw [Jg]
def wJ (n:C2):Bool:=J3 n.1 0 255 && J3 n.2.1 0 5 && J3 n.2.2.1 0 5 && J3 n.2.2.2.1 0 16777215 && J3 n.2.2.2.2.1 0 16777215
def I5 (n:C2):Int :=
  if wJ n=false then 1 else if n.2.2.2.2.2.1.any U6=true then 1 else if 200<n.2.2.2.2.2.2.1.length then 2 else 0
def Ej:p7:={ ps:=[.v zI],rs:=[d9],pre:=λ _=>True,fn:=λ x=>(I5 x.1,()),out:=λ _=>() }
noncomputable def IG:Env:={ P:=Tryz.prog,tt:=tt,C9:=[(80,Di),(79,Dj),(81,Il)],res:=[Go.ResultVar.tmp 2],rs:=[Ty.int IntKind.i64],ps:=[PK.v (Ty.pair d9 (Ty.pair d9 (Ty.pair d9 (Ty.pair d9 (Ty.pair d9 (Ty.pair Y9 (Ty.pair Ty.str Ty.unit)))))))],B8:=[],nt:=45 }
theorem SQ:w7 IG:=x6 r7 ⟨Td,SD,b6O,trivial⟩
theorem SW:C0 IG Tryz.f65:=⟨rfl,rfl⟩
theorem ZQ (aO:Int) (ab:Int) (ae:Int) (aa:Int) (ba:Int) (aU:List Int) (bg:yY):exec IG 1000 [.code (d8 Tryz.prog 65)] (s5 Ej.ps (((aO,ab,ae,aa,ba,aU,bg,()),()))) =
  .f8 (True) (cond (!J3 aO (0:Int) (255:Int)) (.ret (((1:Int),()))) (.f8 (True) (cond (!J3 ab (0:Int) (5:Int)) (.ret (((1:Int),()))) (.f8 (True) (cond (!J3 ae (0:Int) (5:Int)) (.ret (((1:Int),()))) (.f8 (true=true/\True) (cond (!J3 aa (0:Int) (16777215:Int)) (.ret (((1:Int),()))) (.f8 (true=true/\True) (cond (!J3 ba (0:Int) (16777215:Int)) (.ret (((1:Int),()))) (.f8 ((0:Int)<=(0:Int)/\(0:Int)<=(↑6:Int)/\(↑6:Int)<=(↑6:Int)) (.f8 (true=true) (cond (List.any (o5 (0:Int) (↑6:Int) aU) U6) (.ret (((1:Int),()))) (cond (decide ((200:Int)<(↑(List.length bg):Int))) (.ret (((2:Int),()))) (.ret (((0:Int),())))))))))))))))):=by kernel_rfl
theorem Pk {α:Type} {l:List α} {n:Nat} (h:l.length=n):o5 0 (n:Int) l=l:=by subst h; simp [o5]
theorem Uq:Ej.Valid Tryz.prog 65:=by
  refine p7.n8 SQ rfl rfl Tryz.func65 (c:=d8 Tryz.prog 65) rfl rfl SW rfl ?_;rintro ⟨⟨(a:Int),(b:Int),(c:Int),(d:Int),(e:Int),(v:List Int),(t:yY),⟨⟩⟩,⟨⟩⟩ - ⟨⟨-,-,-,-,-,⟨hv,-⟩,-⟩,-⟩;have hv:v.length=6:=hv;refine j6 (n:=1000) SQ SW ?_;refine i7 (ZQ a b c d e v t) ?_;have hc:o5 0 6 v=v:=Pk hv;have bad:wJ (a,b,c,d,e,v,t,())=false->(((1:Int),()):Int×Unit)=(I5 (a,b,c,d,e,v,t,()),()):=λ h=>by rw [I5,if_pos h]
  simp only [j7,Tree.holds,hc,sL];refine ⟨λ h=>bad (by simp [wJ,h]),λ h1=>⟨λ h=>bad (by simp [wJ,h]),λ h2=>⟨λ h=>bad (by simp [wJ,h]),λ h3=>⟨λ h=>bad (by simp [wJ,h]),λ h4=>⟨λ h=>bad (by simp [wJ,h]),λ h5=>⟨by omega,λ _=>⟨λ h=>?_,λ h6=>⟨λ h=>?_,λ h=>?_⟩⟩⟩⟩⟩⟩⟩⟩
  all_goals have hw:wJ (a,b,c,d,e,v,t,())≠false:=by simp [wJ,h1,h2,h3,h4,h5]
  . show (((1:Int),()):Int×Unit)=(I5 (a,b,c,d,e,v,t,()),());rw [I5,if_neg hw,if_pos h]
  . show (((2:Int),()):Int×Unit)=(I5 (a,b,c,d,e,v,t,()),());rw [I5,if_neg hw,if_neg (λ h9=>Bool.noConfusion (Eq.trans (Eq.symm h9) h6)),if_pos (by show 200<t.length; omega)]
  . show (((0:Int),()):Int×Unit)=(I5 (a,b,c,d,e,v,t,()),());rw [I5,if_neg hw,if_neg (λ h9=>Bool.noConfusion (Eq.trans (Eq.symm h9) h6)),if_neg (by show ¬ 200<t.length; omega)]
structure HM (n:C2):Prop where
  kind:0<=n.1/\n.1<=255
  from_:0<=n.2.1/\n.2.1<=5
  to:0<=n.2.2.1/\n.2.2.1<=5
  view:0<=n.2.2.2.1/\n.2.2.2.1<=16777215
  seq:0<=n.2.2.2.2.1/\n.2.2.2.2.1<=16777215
  at_:∀ x∈n.2.2.2.2.2.1,0<=x/\x<=16777215
  text:n.2.2.2.2.2.2.1.length<=200
theorem KB {n:C2} (h:I5 n=0):HM n:=by
  unfold I5 at h;split at h
  . cases h
  split at h
  . cases h
  split at h
  . cases h
  . rename_i h1 h2 h3;have h1:wJ n=true:=by cases e:wJ n with|true=>rfl|false=>exact absurd e h1
    simp only [wJ,aAa,W5] at h1;obtain ⟨⟨⟨⟨a,b⟩,c⟩,d⟩,e⟩:=h1;refine ⟨a,b,c,d,e,λ x hx=>?_,by omega⟩;have h2:n.2.2.2.2.2.1.any U6=false:=by cases e:n.2.2.2.2.2.1.any U6 with|false=>rfl|true=>exact absurd e h2
    have:=List.any_eq_false.1 h2 x hx;rw [U6,Bool.not_eq_true,aFe] at this;exact W5.1 this
def V5 (n:Int):List Int:=[IntKind.wrap .u8 n,IntKind.wrap .u8 (n / 256),IntKind.wrap .u8 (n / 65536)]
def DT:p7:={ ps:=[.v d9],rs:=[.d0 true (.int .u8)],pre:=λ _=>True,fn:=λ x=>(V5 x.1,()),out:=λ _=>() }
noncomputable def HK:Env:={ P:=Tryz.prog,tt:=tt,C9:=[],res:=[Go.ResultVar.tmp 2],rs:=[Ty.d0 true U8],ps:=[PK.v d9],B8:=[],nt:=12 }
theorem RF:w7 HK:=x6 r7 trivial
theorem Ra:C0 HK Tryz.f77:=⟨rfl,rfl⟩
theorem XY (x0:Int):exec HK 1000 [.code (d8 Tryz.prog 77)] (s5 DT.ps ((x0,()))) =
  .f8 ((0:Int)<=(8:Int)) (.f8 ((0:Int)<=(16:Int)) (.ret ((List.set (List.set (List.set [(0:Int),(0:Int),(0:Int)] (Int.toNat (↑0:Int)) (IntKind.wrap IntKind.u8 x0)) (Int.toNat (↑1:Int)) (IntKind.wrap IntKind.u8 (x0 / (2:Int)^min (Int.toNat (8:Int)) (IntKind.bits IntKind.i64)))) (Int.toNat (↑2:Int)) (IntKind.wrap IntKind.u8 (x0 / (2:Int)^min (Int.toNat (16:Int)) (IntKind.bits IntKind.i64))),())))):=by kernel_rfl
theorem UI:DT.Valid Tryz.prog 77:=by
  refine p7.n8 RF rfl rfl Tryz.func77 (c:=d8 Tryz.prog 77) rfl rfl Ra rfl ?_;rintro ⟨(n:Int),⟨⟩⟩ - -
  refine j6 (n:=1000) RF Ra ?_;refine i7 (XY n) ?_;exact ⟨aGg 8 rfl,λ _=>⟨aGg 16 rfl,λ _=>rfl⟩⟩
def wE (x:Nat):List Int:=(le4 x).map (λ b=>(b.toNat:Int))
theorem EG (x:Nat):(UInt8.ofNat x).toNat=x % 256:=by simp
theorem Xp (x:Nat):wE x=[(x:Int) % 256,(x:Int) / 256 % 256,(x:Int) / 65536 % 256,(x:Int) / 16777216 % 256]:=by
  simp only [wE,le4,aDb,aHj,EG];simp only [aBa,and_true];refine ⟨by omega,by omega,by omega,by omega⟩
theorem c3F (n:Int):V5 n=[n % 256,n / 256 % 256,n / 65536 % 256]:=rfl
def DA:p7:={ ps:=[.v (.int .u32)],rs:=[.d0 true (.int .u8)],pre:=λ _=>True,fn:=λ x=>(wE (Int.toNat x.1),()),out:=λ _=>() }
noncomputable def Gw:Env:={ P:=Tryz.prog,tt:=tt,C9:=[(77,DT)],res:=[Go.ResultVar.tmp 2],rs:=[Ty.d0 true U8],ps:=[PK.v (Ty.int IntKind.u32)],B8:=[],nt:=11 }
theorem Qc:w7 Gw:=x6 r7 ⟨UI,trivial⟩
theorem Ps:C0 Gw Tryz.f62:=⟨rfl,rfl⟩
theorem WN (x0:Int):exec Gw 1000 [.code (d8 Tryz.prog 62)] (s5 DA.ps ((x0,()))) =
  .f8 (True) (.f8 ((0:Int)<=(24:Int)) (.f8 (List.length (V5 (IntKind.wrap IntKind.i64 x0))+List.length (List.set [(0:Int)] (Int.toNat (↑0:Int)) (IntKind.wrap IntKind.u8 (x0 / (2:Int)^min (Int.toNat (24:Int)) (IntKind.bits IntKind.u32))))<=140737488355328/\(List.length (V5 (IntKind.wrap IntKind.i64 x0))+List.length (List.set [(0:Int)] (Int.toNat (↑0:Int)) (IntKind.wrap IntKind.u8 (x0 / (2:Int)^min (Int.toNat (24:Int)) (IntKind.bits IntKind.u32)))))*Ty.wb U8<=140737488355328) (.ret ((V5 (IntKind.wrap IntKind.i64 x0)++List.set [(0:Int)] (Int.toNat (↑0:Int)) (IntKind.wrap IntKind.u8 (x0 / (2:Int)^min (Int.toNat (24:Int)) (IntKind.bits IntKind.u32))),()))))):=by kernel_rfl
theorem Tv:DA.Valid Tryz.prog 62:=by
  refine p7.n8 Qc rfl rfl Tryz.func62 (c:=d8 Tryz.prog 62) rfl rfl Ps rfl ?_;rintro ⟨(n:Int),⟨⟩⟩ - ⟨hr,-⟩;have hr:0<=n/\n<=4294967295:=Av.1 hr;refine j6 (n:=1000) Qc Ps ?_;refine i7 (WN n) ?_;have hw:IntKind.wrap .i64 n=n:=U2 (F6.2 ⟨by omega,by omega⟩);simp only [j7,Tree.holds,hw,HB,c3F,sL];refine ⟨by omega,λ _=>⟨by omega,λ _=>?_⟩⟩;obtain ⟨x,rfl⟩:=aEh hr.1;show (([(x:Int) % 256,(x:Int) / 256 % 256,(x:Int) / 65536 % 256,(x:Int) / 16777216 % 256],()):List Int×Unit)=(wE (Int.toNat (x:Int)),());rw [aCq,Xp]
def a24 (l:List Int):yY:=l.map (λ n=>UInt8.ofNat n.toNat)
theorem La (t:yY):a24 (t.map (λ b=>(b.toNat:Int)))=t:=by
  rw [a24,aHk];have:((λ n:Int=>UInt8.ofNat n.toNat) ∘ λ b:UInt8=>(b.toNat:Int))=id:=by
    funext b
    simp
  rw [this,List.map_id]
theorem ER (l m:List Int):a24 (l++m)=a24 l++a24 m:=aEx
def Bi (n:C2):List Int:=[IntKind.wrap .u8 n.1,IntKind.wrap .u8 n.2.1,IntKind.wrap .u8 n.2.2.1]
def Z8 (n:C2):List Int:=n.2.2.2.1::n.2.2.2.2.1::n.2.2.2.2.2.1
def zb (n:C2):List Int:=Bi n++(Z8 n).flatMap V5++n.2.2.2.2.2.2.1.map (λ b=>(b.toNat:Int))
def wo (n:C2):yY:=a24 (zb n)
def vF (n:C2):yY:=wo n++le4 (vH (wo n))
def V2 (n:C2):yY×Int×Unit:=if I5 n≠0 then ([],I5 n,()) else (vF n,0,())
def Hr:p7:={ ps:=[.v zI],rs:=[.str,d9],pre:=λ _=>True,fn:=λ x=>V2 x.1,out:=λ _=>() }
noncomputable def Bn:Env:={ P:=Tryz.prog,tt:=tt,C9:=[(65,Ej),(77,DT),(62,DA),(63,Dl)],res:=[Go.ResultVar.tmp 2,Go.ResultVar.tmp 3],rs:=[Ty.str,Ty.int IntKind.i64],ps:=[PK.v (Ty.pair d9 (Ty.pair d9 (Ty.pair d9 (Ty.pair d9 (Ty.pair d9 (Ty.pair Y9 (Ty.pair Ty.str Ty.unit)))))))],B8:=[(6,[(1,none),(5,some (Ty.d0 true U8)),(30,some Is),(31,none),(32,none)])],nt:=52 }
theorem JQ:w7 Bn:=x6 r7 ⟨Uq,UI,Tv,SH,trivial⟩
theorem Jx:C0 Bn Tryz.f60:=⟨rfl,rfl⟩
theorem Wf (aO:Int) (ab:Int) (ae:Int) (aa:Int) (ba:Int) (aU:List Int) (bg:yY):exec Bn 1000 [.code (d8 Tryz.prog 60)] (s5 Hr.ps (((aO,ab,ae,aa,ba,aU,bg,()),()))) =
  .f8 (True) (cond (decide (I5 (aO,ab,ae,aa,ba,aU,bg,())≠(0:Int))) (.ret ((Array.toList (ByteArray.data (ByteArray.mk #[])),I5 (aO,ab,ae,aa,ba,aU,bg,()),()))) (.f8 ((0:Int)<=(0:Int)/\(0:Int)<=(↑6:Int)/\(↑6:Int)<=(↑6:Int)) (.f8 (List.length (List.set (List.set [(0:Int),(0:Int)] (Int.toNat (↑0:Int)) aa) (Int.toNat (↑1:Int)) ba)+List.length (o5 (0:Int) (↑6:Int) aU)<=140737488355328/\(List.length (List.set (List.set [(0:Int),(0:Int)] (Int.toNat (↑0:Int)) aa) (Int.toNat (↑1:Int)) ba)+List.length (o5 (0:Int) (↑6:Int) aU))*Ty.wb d9<=140737488355328) (.ctL (g8 (d8 Tryz.prog 60) 6) (St.mk [(1,AV.ptr 1 []),(5,AV.at_ 1000005 []),(30,AV.at_ 1000030 []),(31,AV.val d9 (↑(List.length (List.set (List.set [(0:Int),(0:Int)] (Int.toNat (↑0:Int)) aa) (Int.toNat (↑1:Int)) ba++o5 (0:Int) (↑6:Int) aU)):Int)),(32,AV.val d9 (0:Int))] [(1,i6.var (Ty.pair d9 (Ty.pair d9 (Ty.pair d9 (Ty.pair d9 (Ty.pair d9 (Ty.pair Y9 (Ty.pair Ty.str Ty.unit))))))) (aO,ab,ae,aa,ba,aU,bg,())),(1000005,i6.own (Ty.d0 true U8) (List.set (List.set (List.set [(0:Int),(0:Int),(0:Int)] (Int.toNat (↑0:Int)) (IntKind.wrap IntKind.u8 aO)) (Int.toNat (↑1:Int)) (IntKind.wrap IntKind.u8 ab)) (Int.toNat (↑2:Int)) (IntKind.wrap IntKind.u8 ae))),(1000030,i6.own Is (List.set (List.set [(0:Int),(0:Int)] (Int.toNat (↑0:Int)) aa) (Int.toNat (↑1:Int)) ba++o5 (0:Int) (↑6:Int) aU))]))))):=by kernel_rfl
def Jq (v31:Int) (wL:Int) (eG:Int) (cX:Int) (dS:Int) (cW:Int) (cv:Int) (bX:List Int) (aN:yY) (cH:List Int) (ec:List Int):St:=St.mk [(1,AV.ptr 1 []),(5,AV.at_ 1000005 []),(30,AV.at_ 1000030 []),(31,AV.val d9 v31),(32,AV.val d9 wL)] [(1,i6.var (Ty.pair d9 (Ty.pair d9 (Ty.pair d9 (Ty.pair d9 (Ty.pair d9 (Ty.pair Y9 (Ty.pair Ty.str Ty.unit))))))) (eG,cX,dS,cW,cv,bX,aN,())),(1000005,i6.own (Ty.d0 true U8) cH),(1000030,i6.own Is ec)]
theorem XW (v31:Int) (wL:Int) (eG:Int) (cX:Int) (dS:Int) (cW:Int) (cv:Int) (bX:List Int) (aN:yY) (cH:List Int) (ec:List Int):exec Bn 1000 (.code (g8 (d8 Tryz.prog 60) 6).1::.inLoop (g8 (d8 Tryz.prog 60) 6).1::(g8 (d8 Tryz.prog 60) 6).2) (Jq v31 wL eG cX dS cW cv bX aN cH ec) =
  cond (decide (wL<v31)) (.f8 ((0:Int)<=wL/\wL<(↑(List.length ec):Int)) (.f8 (True) (.f8 (List.length cH+List.length (V5 (List.getD ec (Int.toNat wL) (0:Int)))<=140737488355328/\(List.length cH+List.length (V5 (List.getD ec (Int.toNat wL) (0:Int))))*Ty.wb U8<=140737488355328) (.f8 (r9 IntKind.i64 (wL+(1:Int))) (.ctL (g8 (d8 Tryz.prog 60) 6) (St.mk [(1,AV.ptr 1 []),(5,AV.at_ 1000005 []),(30,AV.at_ 1000030 []),(31,AV.val d9 v31),(32,AV.val d9 (wL+(1:Int)))] [(1,i6.var (Ty.pair d9 (Ty.pair d9 (Ty.pair d9 (Ty.pair d9 (Ty.pair d9 (Ty.pair Y9 (Ty.pair Ty.str Ty.unit))))))) (eG,cX,dS,cW,cv,bX,aN,())),(1000005,i6.own (Ty.d0 true U8) (cH++V5 (List.getD ec (Int.toNat wL) (0:Int)))),(1000030,i6.own Is ec)])))))) (.f8 (List.length cH+List.length (List.map (λ b=>(↑(UInt8.toNat b):Int)) aN)<=140737488355328/\(List.length cH+List.length (List.map (λ b=>(↑(UInt8.toNat b):Int)) aN))*Ty.wb U8<=140737488355328) (.f8 (True) (.f8 (True) (.f8 (List.length (cH++List.map (λ b=>(↑(UInt8.toNat b):Int)) aN)+List.length (wE (Int.toNat (↑(vH (List.map (λ n=>UInt8.ofNat (Int.toNat n)) (cH++List.map (λ b=>(↑(UInt8.toNat b):Int)) aN))):Int)))<=140737488355328/\(List.length (cH++List.map (λ b=>(↑(UInt8.toNat b):Int)) aN)+List.length (wE (Int.toNat (↑(vH (List.map (λ n=>UInt8.ofNat (Int.toNat n)) (cH++List.map (λ b=>(↑(UInt8.toNat b):Int)) aN))):Int))))*Ty.wb U8<=140737488355328) (.ret ((List.map (λ n=>UInt8.ofNat (Int.toNat n)) (cH++List.map (λ b=>(↑(UInt8.toNat b):Int)) aN++wE (Int.toNat (↑(vH (List.map (λ n=>UInt8.ofNat (Int.toNat n)) (cH++List.map (λ b=>(↑(UInt8.toNat b):Int)) aN))):Int))),(0:Int),()))))))):=by kernel_rfl
theorem Sh (l:List Int):(l.flatMap V5).length=3*l.length:=by
  induction l with
  | nil=>rfl
  | cons x l ih=>rw [aFi,aAe,ih,V5]; simp; omega
theorem b8L:Hr.Valid Tryz.prog 60:=by
  refine p7.n8 JQ rfl rfl Tryz.func60 (c:=d8 Tryz.prog 60) rfl rfl Jx rfl ?_;rintro ⟨⟨(a:Int),(b:Int),(c:Int),(d:Int),(e:Int),(v:List Int),(t:yY),⟨⟩⟩,⟨⟩⟩ - ⟨⟨-,-,-,-,-,⟨hv,-⟩,-⟩,-⟩;have hv:v.length=6:=hv;obtain ⟨n,hn⟩:∃ n:C2,n=(a,b,c,d,e,v,t,()):=⟨_,rfl⟩;refine j6 (n:=1000) JQ Jx ?_;refine i7 (Wf a b c d e v t) ?_;have hc:o5 0 6 v=v:=Pk hv;have h0:List.set (List.set [(0:Int),0] (Int.toNat ((0:Nat):Int)) d) (Int.toNat ((1:Nat):Int)) e++v=Z8 n:=by rw [hn]; rfl
  have vd:∀ m:List Int,List.set (List.set [(0:Int),0] (Int.toNat 0) d) (Int.toNat 1) e++m=d::e::m:=λ m=>rfl;rw [<- hn];have e6:o5 0 6 v=v:=hc;simp only [j7,Tree.holds,hc,HB,WC,sL];refine ⟨λ h=>?_,λ h=>⟨by omega,λ _=>⟨by omega,λ _=>?_⟩⟩⟩
  . show (([],I5 n,()):yY×Int×Unit)=V2 n;rw [V2,if_pos h]
  have aM:=KB (n:=n) (by omega);have ht:t.length<=200:=by have:=aM.text; rw [hn] at this; exact this
  have mI:(Z8 n).length=8:=by rw [hn]; show (d::e::v).length=8; simp [hv]
  suffices go:Go.Ex.Reach Bn Tryz.f60 (V2 n) () (.code (g8 (d8 Tryz.prog 60) 6).1::.inLoop (g8 (d8 Tryz.prog 60) 6).1::(g8 (d8 Tryz.prog 60) 6).2) (Jq ((Z8 n).length:Int) ((0:Nat):Int) a b c d e v t (Bi n++((Z8 n).take 0).flatMap V5) (Z8 n)) by
    subst hn;exact go
  refine Reach.M7 JQ Jx (λ i:Nat=>Jq ((Z8 n).length:Int) (i:Int) a b c d e v t (Bi n++((Z8 n).take i).flatMap V5) (Z8 n)) (λ i=>i<=(Z8 n).length)
    (λ i=>(Z8 n).length - i) 1000 (λ _=>⟨s9 rfl,s9 rfl⟩) ?_ 0 (aAz _)
  . rintro i k1 - ih;have k1:i<=(Z8 n).length:=k1;refine i7 (XW ..) ?_;have hl:(Bi n++((Z8 n).take i).flatMap V5).length=3+3*i:=by
      rw [aAe,Sh,aAk];show 3+_=_;omega
    have sV:∀ x,(V5 x).length=3:=λ _=>rfl;simp only [j7,Tree.holds,HB,hl,sV,sL];refine ⟨λ c1=>⟨by omega,λ _=>⟨by omega,λ _=>⟨by omega,λ _=>?_⟩⟩⟩,λ c1=>?_⟩
    . have:=ih (i+1) (by show i+1<=(Z8 n).length; omega) (by omega);rw [Fu (show i<(Z8 n).length by omega) 0,List.flatMap_append,<- aAl] at this;simp only [aFi,List.flatMap_nil,aBc] at this;exact this
    . rw [aAu (by omega)] at hl ⊢;have hb:Bi n++(Z8 n).flatMap V5++List.map (λ b:UInt8=>(b.toNat:Int)) t=zb n:=by rw [zb,hn]
      have bO:(zb n).length=27+t.length:=by rw [<- hb,aAe,hl,aAn]; omega
      have h4:∀ x,(wE x).length=4:=λ _=>rfl;rw [hb];simp only [j7,Tree.holds,bO,h4,aAn,sL];refine ⟨by omega,λ _=>⟨by omega,λ _=>?_⟩⟩;show ((a24 (zb n++wE (vH (a24 (zb n)))),0,()):yY×Int×Unit)=V2 n;rw [V2,if_neg h,ER,vF,wE,La];rfl
def wk (s:yY) (i:Nat):Int:=((s.getD i 0).toNat:Int)
def vm (s:yY) (k:Nat):Int:=wk s (3+3*k)+wk s (4+3*k)*256+wk s (5+3*k)*65536
def Hp:p7:={ ps:=[.v d9,.rd .str],rs:=[d9],pre:=λ x=>LE.le (α:=Int) 0 x.1/\LT.lt (α:=Int) (5+3*(show Int from x.1)) (List.length x.2.1),fn:=λ x=>(vm x.2.1 (Int.toNat x.1),()),out:=λ _=>() }
noncomputable def GV:Env:={ P:=Tryz.prog,tt:=tt,C9:=[],res:=[Go.ResultVar.tmp 3],rs:=[Ty.int IntKind.i64],ps:=[PK.v d9,PK.rd Ty.str],B8:=[],nt:=26 }
theorem PW:w7 GV:=x6 r7 trivial
theorem PD:C0 GV Tryz.f64:=⟨rfl,rfl⟩
theorem Wd (x0:Int) (x1:yY):exec GV 1000 [.code (d8 Tryz.prog 64)] (s5 Hp.ps ((x0,x1,()))) =
  .f8 (r9 IntKind.i64 ((3:Int)*x0)) (.f8 (r9 IntKind.i64 ((3:Int)+(3:Int)*x0)) (.f8 ((0:Int)<=(3:Int)+(3:Int)*x0/\(3:Int)+(3:Int)*x0<(↑(List.length x1):Int)) (.f8 (r9 IntKind.i64 ((3:Int)+(3:Int)*x0+(1:Int))) (.f8 ((0:Int)<=(3:Int)+(3:Int)*x0+(1:Int)/\(3:Int)+(3:Int)*x0+(1:Int)<(↑(List.length x1):Int)) (.f8 ((0:Int)<=(8:Int)) (.f8 (r9 IntKind.i64 ((3:Int)+(3:Int)*x0+(2:Int))) (.f8 ((0:Int)<=(3:Int)+(3:Int)*x0+(2:Int)/\(3:Int)+(3:Int)*x0+(2:Int)<(↑(List.length x1):Int)) (.f8 ((0:Int)<=(16:Int)) (.ret ((bOr IntKind.i64 (bOr IntKind.i64 (IntKind.wrap IntKind.i64 (↑(UInt8.toNat (List.getD x1 (Int.toNat ((3:Int)+(3:Int)*x0)) (0:UInt8))):Int)) (IntKind.wrap IntKind.i64 (IntKind.wrap IntKind.i64 (↑(UInt8.toNat (List.getD x1 (Int.toNat ((3:Int)+(3:Int)*x0+(1:Int))) (0:UInt8))):Int)*(2:Int)^min (Int.toNat (8:Int)) (IntKind.bits IntKind.i64)))) (IntKind.wrap IntKind.i64 (IntKind.wrap IntKind.i64 (↑(UInt8.toNat (List.getD x1 (Int.toNat ((3:Int)+(3:Int)*x0+(2:Int))) (0:UInt8))):Int)*(2:Int)^min (Int.toNat (16:Int)) (IntKind.bits IntKind.i64))),()))))))))))):=by kernel_rfl
theorem Mt {x y:Nat} (hx:x<9223372036854775808) (hy:y<9223372036854775808):bOr .i64 (x:Int) (y:Int)=((x ||| y:Nat):Int):=by
  unfold bOr;have e1:(BitVec.ofInt (IntKind.bits .i64) (x:Int) ||| BitVec.ofInt (IntKind.bits .i64) (y:Int)).toNat=x ||| y:=by
    show (BitVec.ofInt 64 (x:Int) ||| BitVec.ofInt 64 (y:Int)).toNat=x ||| y
    rw [BitVec.toNat_or,BitVec.toNat_ofInt,BitVec.toNat_ofInt];congr 1<;>omega
  rw [e1];have:=Nat.or_lt_two_pow (n:=63) hx hy;exact U2 (F6.2 ⟨by omega,by omega⟩)
theorem Nu {x y k:Nat} (hx:x<2^k):x ||| (y*2^k)=x+y*2^k:=by
  rw [Nat.or_comm,<- Nat.shiftLeft_eq,<- Nat.shiftLeft_add_eq_or_of_lt hx,aFq]
theorem b8O:Hp.Valid Tryz.prog 64:=by
  refine p7.n8 PW rfl rfl Tryz.func64 (c:=d8 Tryz.prog 64) rfl rfl PD rfl ?_;rintro ⟨(k:Int),(s:yY),⟨⟩⟩ ⟨h0,h1⟩ ⟨-,hs,-⟩;have h0:0<=k:=h0;have h1:5+3*k<(s.length:Int):=h1;have hs:s.length<=9223372036854775807:=hs;obtain ⟨m,rfl⟩:=aEh h0;refine j6 (n:=1000) PW PD ?_;refine i7 (Wd (m:Int) s) ?_;simp only [j7,Tree.holds,sL];refine ⟨by omega,λ _=>⟨by omega,λ _=>⟨by omega,λ _=>⟨by omega,λ _=>⟨by omega,λ _=>⟨aGg 8 rfl,λ _=>⟨by omega,λ _=>⟨by omega,λ _=>⟨aGg 16 rfl,λ _=>?_⟩⟩⟩⟩⟩⟩⟩⟩⟩;have e1:Int.toNat (3+3*(m:Int))=3+3*m:=by omega
  have e2:Int.toNat (3+3*(m:Int)+1)=4+3*m:=by omega
  have e3:Int.toNat (3+3*(m:Int)+2)=5+3*m:=by omega
  rw [e1,e2,e3];show ((_,()):Int×Unit)=(vm s (Int.toNat (m:Int)),());rw [aCq];have a1:=(s.getD (3+3*m) 0).toNat_lt;have a2:=(s.getD (4+3*m) 0).toNat_lt;have a3:=(s.getD (5+3*m) 0).toNat_lt;unfold vm wk;generalize (s.getD (3+3*m) 0).toNat=x at *
  generalize (s.getD (4+3*m) 0).toNat=y at *
  generalize (s.getD (5+3*m) 0).toNat=z at *
  have w:∀ q:Nat,q<16777216->IntKind.wrap .i64 (q:Int)=(q:Int):=λ q hq=>U2 (F6.2 ⟨by omega,by omega⟩);have p8:(2:Int)^min (Int.toNat 8) (IntKind.bits .i64)=256:=rfl;have UR:(2:Int)^min (Int.toNat 16) (IntKind.bits .i64)=65536:=rfl;rw [w x (by omega),w y (by omega),w z (by omega),p8,UR,show (y:Int)*256=((y*2^8:Nat):Int) by omega,show (z:Int)*65536=((z*2^16:Nat):Int) by omega,w _ (by omega),w _ (by omega),Mt (by omega) (by omega),Nu (k:=8) (by omega),Mt (by omega) (by omega),Nu (k:=16) (by omega)];congr 1
def xx:C2:=(0,0,0,0,0,[0,0,0,0,0,0],[],())
def parse (s:yY):C2:=(wk s 0,wk s 1,wk s 2,vm s 0,vm s 1,[vm s 2,vm s 3,vm s 4,vm s 5,vm s 6,vm s 7],s.drop 27,())
def x7 (s:yY):C2×Int×Unit :=
  if 231<s.length then (xx,2,()) else if s.length<31 then (xx,3,()) else if le4 (vH (s.take (s.length - 4)))≠s.drop (s.length - 4) then (xx,5,())
  else if I5 (parse (s.take (s.length - 4)))≠0 then (xx,I5 (parse (s.take (s.length - 4))),()) else (parse (s.take (s.length - 4)),0,())
def Ht:p7:={ ps:=[.v .str],rs:=[zI,d9],pre:=λ _=>True,fn:=λ x=>x7 x.1,out:=λ _=>() }
noncomputable def Du:Env:={ P:=Tryz.prog,tt:=tt,C9:=[(63,Dl),(62,DA),(64,Hp),(65,Ej)],res:=[Go.ResultVar.cell 2 91,Go.ResultVar.tmp 3],rs:=[Ty.pair d9 (Ty.pair d9 (Ty.pair d9 (Ty.pair d9 (Ty.pair d9 (Ty.pair Y9 (Ty.pair Ty.str Ty.unit)))))),Ty.int IntKind.i64],ps:=[PK.v Ty.str],B8:=[(11,[(2,none),(6,none),(7,none),(54,none)])],nt:=72 }
theorem Jr:w7 Du:=x6 r7 ⟨SH,Tv,b8O,Uq,trivial⟩
theorem Jy:C0 Du Tryz.f46:=⟨rfl,rfl⟩
theorem Wh (x0:yY):exec Du 1000 [.code (d8 Tryz.prog 46)] (s5 Ht.ps ((x0,()))) =
  cond (decide ((231:Int)<(↑(List.length x0):Int))) (.ret ((((0:Int),(0:Int),(0:Int),(0:Int),(0:Int),[(0:Int),(0:Int),(0:Int),(0:Int),(0:Int),(0:Int)],[],()),(2:Int),()))) (cond (decide ((↑(List.length x0):Int)<(31:Int))) (.ret ((((0:Int),(0:Int),(0:Int),(0:Int),(0:Int),[(0:Int),(0:Int),(0:Int),(0:Int),(0:Int),(0:Int)],[],()),(3:Int),()))) (.f8 (r9 IntKind.i64 ((↑(List.length x0):Int) - (4:Int))) (.f8 ((0:Int)<=(0:Int)/\(0:Int)<=(↑(List.length x0):Int) - (4:Int)/\(↑(List.length x0):Int) - (4:Int)<=(↑(List.length x0):Int)) (.f8 (r9 IntKind.i64 ((↑(List.length x0):Int) - (4:Int))) (.f8 ((0:Int)<=(↑(List.length x0):Int) - (4:Int)/\(↑(List.length x0):Int) - (4:Int)<=(↑(List.length x0):Int)/\(↑(List.length x0):Int)<=(↑(List.length x0):Int)) (.f8 (True) (.f8 (True) (cond (decide (List.map (λ n=>UInt8.ofNat (Int.toNat n)) (wE (Int.toNat (↑(vH (o5 (0:Int) ((↑(List.length x0):Int) - (4:Int)) x0)):Int)))≠o5 ((↑(List.length x0):Int) - (4:Int)) (↑(List.length x0):Int) x0)) (.ret ((((0:Int),(0:Int),(0:Int),(0:Int),(0:Int),[(0:Int),(0:Int),(0:Int),(0:Int),(0:Int),(0:Int)],[],()),(5:Int),()))) (.f8 ((0:Int)<=(0:Int)/\(0:Int)<(↑(List.length (o5 (0:Int) ((↑(List.length x0):Int) - (4:Int)) x0)):Int)) (.f8 ((0:Int)<=(1:Int)/\(1:Int)<(↑(List.length (o5 (0:Int) ((↑(List.length x0):Int) - (4:Int)) x0)):Int)) (.f8 ((0:Int)<=(2:Int)/\(2:Int)<(↑(List.length (o5 (0:Int) ((↑(List.length x0):Int) - (4:Int)) x0)):Int)) (.f8 ((0:Int)<=(0:Int)/\(5:Int)+(3:Int)*(0:Int)<(↑(List.length (o5 (0:Int) ((↑(List.length x0):Int) - (4:Int)) x0)):Int)) (.f8 ((0:Int)<=(1:Int)/\(5:Int)+(3:Int)*(1:Int)<(↑(List.length (o5 (0:Int) ((↑(List.length x0):Int) - (4:Int)) x0)):Int)) (.f8 ((0:Int)<=(27:Int)/\(27:Int)<=(↑(List.length (o5 (0:Int) ((↑(List.length x0):Int) - (4:Int)) x0)):Int)/\(↑(List.length (o5 (0:Int) ((↑(List.length x0):Int) - (4:Int)) x0)):Int)<=(↑(List.length (o5 (0:Int) ((↑(List.length x0):Int) - (4:Int)) x0)):Int)) (.ctL (g8 (d8 Tryz.prog 46) 11) (St.mk [(2,AV.ptr 2 []),(6,AV.C7 64 (AV.cons (AV.ptr 4 []) AV.nil)),(7,AV.ptr 7 []),(54,AV.val d9 (0:Int))] [(2,i6.var (Ty.pair d9 (Ty.pair d9 (Ty.pair d9 (Ty.pair d9 (Ty.pair d9 (Ty.pair Y9 (Ty.pair Ty.str Ty.unit))))))) ((0:Int),(0:Int),(0:Int),(0:Int),(0:Int),[(0:Int),(0:Int),(0:Int),(0:Int),(0:Int),(0:Int)],[],())),(4,i6.var Ty.str (o5 (0:Int) ((↑(List.length x0):Int) - (4:Int)) x0)),(7,i6.var (Ty.pair d9 (Ty.pair d9 (Ty.pair d9 (Ty.pair d9 (Ty.pair d9 (Ty.pair Y9 (Ty.pair Ty.str Ty.unit))))))) (IntKind.wrap IntKind.i64 (↑(UInt8.toNat (List.getD (o5 (0:Int) ((↑(List.length x0):Int) - (4:Int)) x0) (Int.toNat (0:Int)) (0:UInt8))):Int),IntKind.wrap IntKind.i64 (↑(UInt8.toNat (List.getD (o5 (0:Int) ((↑(List.length x0):Int) - (4:Int)) x0) (Int.toNat (1:Int)) (0:UInt8))):Int),IntKind.wrap IntKind.i64 (↑(UInt8.toNat (List.getD (o5 (0:Int) ((↑(List.length x0):Int) - (4:Int)) x0) (Int.toNat (2:Int)) (0:UInt8))):Int),vm (o5 (0:Int) ((↑(List.length x0):Int) - (4:Int)) x0) (Int.toNat (0:Int)),vm (o5 (0:Int) ((↑(List.length x0):Int) - (4:Int)) x0) (Int.toNat (1:Int)),[(0:Int),(0:Int),(0:Int),(0:Int),(0:Int),(0:Int)],o5 (27:Int) (↑(List.length (o5 (0:Int) ((↑(List.length x0):Int) - (4:Int)) x0)):Int) (o5 (0:Int) ((↑(List.length x0):Int) - (4:Int)) x0),()))])))))))))))))))):=by kernel_rfl
def RE (wj:Int) (dR:Int) (cM:Int) (dQ:Int) (cV:Int) (cu:Int) (bW:List Int) (bP:yY) (o4:yY) (cL:Int) (bu:Int) (cy:Int) (bT:Int) (bG:Int) (br:List Int) (bh:yY):St:=St.mk [(2,AV.ptr 2 []),(6,AV.C7 64 (AV.cons (AV.ptr 4 []) AV.nil)),(7,AV.ptr 7 []),(54,AV.val d9 wj)] [(2,i6.var (Ty.pair d9 (Ty.pair d9 (Ty.pair d9 (Ty.pair d9 (Ty.pair d9 (Ty.pair Y9 (Ty.pair Ty.str Ty.unit))))))) (dR,cM,dQ,cV,cu,bW,bP,())),(4,i6.var Ty.str o4),(7,i6.var (Ty.pair d9 (Ty.pair d9 (Ty.pair d9 (Ty.pair d9 (Ty.pair d9 (Ty.pair Y9 (Ty.pair Ty.str Ty.unit))))))) (cL,bu,cy,bT,bG,br,bh,()))]
theorem c42 (wj:Int) (dR:Int) (cM:Int) (dQ:Int) (cV:Int) (cu:Int) (bW:List Int) (bP:yY) (o4:yY) (cL:Int) (bu:Int) (cy:Int) (bT:Int) (bG:Int) (br:List Int) (bh:yY):exec Du 1000 (.code (g8 (d8 Tryz.prog 46) 11).1::.inLoop (g8 (d8 Tryz.prog 46) 11).1::(g8 (d8 Tryz.prog 46) 11).2) (RE wj dR cM dQ cV cu bW bP o4 cL bu cy bT bG br bh) =
  cond (decide (wj<(6:Int))) (.f8 (r9 IntKind.i64 ((2:Int)+wj)) (.f8 ((0:Int)<=(2:Int)+wj/\(5:Int)+(3:Int)*((2:Int)+wj)<(↑(List.length o4):Int)) (.f8 ((0:Int)<=wj/\wj<(↑6:Int)) (.f8 (r9 IntKind.i64 (wj+(1:Int))) (.ctL (g8 (d8 Tryz.prog 46) 11) (St.mk [(2,AV.ptr 2 []),(6,AV.C7 64 (AV.cons (AV.ptr 4 []) AV.nil)),(7,AV.ptr 7 []),(54,AV.val d9 (wj+(1:Int)))] [(2,i6.var (Ty.pair d9 (Ty.pair d9 (Ty.pair d9 (Ty.pair d9 (Ty.pair d9 (Ty.pair Y9 (Ty.pair Ty.str Ty.unit))))))) (dR,cM,dQ,cV,cu,bW,bP,())),(4,i6.var Ty.str o4),(7,i6.var (Ty.pair d9 (Ty.pair d9 (Ty.pair d9 (Ty.pair d9 (Ty.pair d9 (Ty.pair Y9 (Ty.pair Ty.str Ty.unit))))))) (cL,bu,cy,bT,bG,List.set br (Int.toNat wj) (vm o4 (Int.toNat ((2:Int)+wj))),bh,()))])))))) (.f8 (True) (cond (decide (I5 (cL,bu,cy,bT,bG,br,bh,())≠(0:Int))) (.ret ((((0:Int),(0:Int),(0:Int),(0:Int),(0:Int),[(0:Int),(0:Int),(0:Int),(0:Int),(0:Int),(0:Int)],[],()),I5 (cL,bu,cy,bT,bG,br,bh,()),()))) (.ret (((cL,bu,cy,bT,bG,br,bh,()),(0:Int),()))))):=by kernel_rfl
def atL (s:yY) (i:Nat):List Int:=(List.range 6).map (λ j=>if j<i then vm s (2+j) else 0)
theorem b8J:Ht.Valid Tryz.prog 46:=by
  refine p7.n8 Jr rfl rfl Tryz.func46 (c:=d8 Tryz.prog 46) rfl rfl Jy rfl ?_;rintro ⟨(s:yY),⟨⟩⟩ - -
  refine j6 (n:=1000) Jr Jy ?_;refine i7 (Wh s) ?_;simp only [j7,Tree.holds,sL];refine ⟨λ h=>?_,λ h1=>⟨λ h=>?_,λ h2=>⟨by omega,λ _=>⟨by omega,λ _=>⟨by omega,λ _=>⟨by omega,λ _=>?_⟩⟩⟩⟩⟩⟩
  . show ((xx,2,()):C2×Int×Unit)=x7 s;rw [x7,if_pos (by omega)]
  . show ((xx,3,()):C2×Int×Unit)=x7 s;rw [x7,if_neg (by omega),if_pos (by omega)]
  obtain ⟨n,hn⟩:∃ n:Nat,(s.length:Int) - 4=n:=⟨s.length - 4,by omega⟩;have sO:s.length - 4=n:=by omega
  have b1:o5 0 ((s.length:Int) - 4) s=s.take n:=by rw [hn,o5]; simp
  have b2:o5 ((s.length:Int) - 4) (s.length:Int) s=s.drop n:=by rw [hn,o5,aCq,aAu (by rw [aAq]; omega)]
  have bO:(s.take n).length=n:=by rw [aAk]; omega
  have b3:o5 27 (n:Int) (s.take n)=(s.take n).drop 27:=by rw [o5,aAu (by rw [aAq,bO]; show n - 27<=((n:Int) - 27).toNat; omega)]; rfl
  have b4:List.map (λ n:Int=>UInt8.ofNat n.toNat) (wE (vH (s.take n)))=le4 (vH (s.take n)):=La _;have hR:x7 s=if le4 (vH (s.take n))≠s.drop n then (xx,5,()) else if I5 (parse (s.take n))≠0 then (xx,I5 (parse (s.take n)),()) else (parse (s.take n),0,()):=by
    rw [x7,if_neg (by omega),if_neg (by omega),sO]
  generalize gT:s.take n=body at *
  have w:∀ q:UInt8,IntKind.wrap .i64 (q.toNat:Int)=(q.toNat:Int):=λ q=>by have:=q.toNat_lt; exact U2 (F6.2 ⟨by omega,by omega⟩)
  simp only [j7,Tree.holds,b1,b2,b4,bO,b3,w,sL];refine ⟨λ h=>?_,λ h=>⟨by omega,λ _=>⟨by omega,λ _=>⟨by omega,λ _=>⟨by omega,λ _=>⟨by omega,λ _=>⟨by omega,λ _=>?_⟩⟩⟩⟩⟩⟩⟩
  . show ((xx,5,()):C2×Int×Unit)=x7 s;rw [hR,if_pos h]
  rw [if_neg h] at hR;refine Reach.M7 Jr Jy (λ i:Nat=>RE (i:Int) 0 0 0 0 0 [0,0,0,0,0,0] [] body (wk body 0) (wk body 1) (wk body 2) (vm body 0) (vm body 1) (atL body i) (body.drop 27)) (λ i=>i<=6)
    (λ i=>6 - i) 1000 (λ _=>⟨s9 rfl,s9 rfl⟩) ?_ 0 (aAz _)
  rintro i k1 - ih;have k1:i<=6:=k1;refine i7 (c42 ..) ?_;simp only [j7,Tree.holds,bO,sL];refine ⟨λ c=>⟨by omega,λ _=>⟨by omega,λ _=>⟨by omega,λ _=>⟨by omega,λ _=>?_⟩⟩⟩⟩,λ c=>?_⟩
  . have hi:i<6:=by omega
    have:=ih (i+1) (by show i+1<=6; omega) (by omega);have e2:Int.toNat (2+(i:Int))=2+i:=by omega
    have:(atL body i).set i (vm body (2+i))=atL body (i+1):=by
      rw [atL,b4X _ _ hi,atL];refine List.map_congr_left (λ j hj=>?_);by_cases e:j=i
      . rw [if_pos e,if_pos (by omega),e]
      . rw [if_neg e];by_cases e2:j<i
        . rw [if_pos e2,if_pos (by omega)]
        . rw [if_neg e2,if_neg (by omega)]
    rw [e2,this]
    assumption
  . obtain rfl:i=6:=by omega
    have hp:(wk body 0,wk body 1,wk body 2,vm body 0,vm body 1,atL body 6,body.drop 27,())=parse body:=rfl;rw [hp];refine ⟨λ h=>?_,λ h=>?_⟩
    . show ((xx,I5 (parse body),()):C2×Int×Unit)=x7 s;rw [hR,if_pos h]
    . show ((parse body,0,()):C2×Int×Unit)=x7 s;rw [hR,if_neg h]
abbrev vK:=Int×Int×Unit
def outside (m:Int):Bool:=decide (64<=m)
def half (p o:Int):Bool:=decide (vR o<2*vR (T4 .u8 p o))
def Q7 (v:vK):Int:=if v.1<0\/16777215<v.1\/v.2.1=0\/64<=v.2.1 then 1 else 0
def R5 (v:vK) (g c:Int):vK×Int×Unit :=
  if Q7 v≠0 then ((0,0,()),Q7 v,()) else if outside (bOr .u8 g c)=true then ((0,0,()),1,()) else if T4 .u8 g c≠0 then ((0,0,()),1,())
  else if v.1=16777215 then ((0,0,()),8,()) else if (!half (S8 .u8 v.2.1 g) v.2.1)=true then ((0,0,()),11,()) else ((v.1+1,bOr .u8 (S8 .u8 v.2.1 g) c,()),0,())
def EH:p7:={ ps:=[.v U8],rs:=[.bool],pre:=λ _=>True,fn:=λ x=>(outside x.1,()),out:=λ _=>() }
def BR:p7:={ ps:=[.v View],rs:=[d9],pre:=λ _=>True,fn:=λ x=>(Q7 x.1,()),out:=λ _=>() }
def Hq:p7:={ ps:=[.v U8],rs:=[d9],pre:=λ _=>True,fn:=λ x=>(vR x.1,()),out:=λ _=>() }
def GK:p7:={ ps:=[.v U8,.v U8],rs:=[.bool],pre:=λ _=>True,fn:=λ x=>(half x.1 x.2.1,()),out:=λ _=>() }
def BP:p7:={ ps:=[.v View,.v U8,.v U8],rs:=[View,d9],pre:=λ _=>True,fn:=λ x=>R5 x.1 x.2.1 x.2.2.1,out:=λ _=>() }
noncomputable def JP:Env:={ P:=Tryz.prog,tt:=tt,C9:=[],res:=[Go.ResultVar.tmp 2],rs:=[Ty.bool],ps:=[PK.v U8],B8:=[],nt:=6 }
theorem TS:w7 JP:=x6 r7 trivial
theorem TT:C0 JP Tryz.f71:=⟨rfl,rfl⟩
theorem c2N (x0:Int):exec JP 1000 [.code (d8 Tryz.prog 71)] (s5 EH.ps ((x0,()))) =
  .f8 ((0:Int)<=(6:Int)) (.ret ((decide (x0 / (2:Int)^min (Int.toNat (6:Int)) (IntKind.bits IntKind.u8)≠(0:Int)),()))):=by kernel_rfl
theorem UL:EH.Valid Tryz.prog 71:=by
  refine p7.n8 TS rfl rfl Tryz.func71 (c:=d8 Tryz.prog 71) rfl rfl TT rfl ?_;rintro ⟨(x0:Int),⟨⟩⟩ - ⟨h0,-⟩;refine j6 (n:=1000) TS TT ?_;refine i7 (c2N x0) ?_;refine ⟨by decide,λ _=>?_⟩;have h:0<=x0/\x0<=255:=h0;show (decide (x0 / 2^6≠0),())=(outside x0,());unfold outside;congr 1;exact decide_eq_decide.2 (by omega)
noncomputable def IF:Env:={ P:=Tryz.prog,tt:=tt,C9:=[(71,EH)],res:=[Go.ResultVar.tmp 2],rs:=[Ty.int IntKind.i64],ps:=[PK.v View],B8:=[],nt:=21 }
theorem SP:w7 IF:=x6 r7 ⟨UL,trivial⟩
theorem SV:C0 IF Tryz.f70:=⟨rfl,rfl⟩
theorem c40 (aO:Int) (ab:Int):exec IF 1000 [.code (d8 Tryz.prog 70)] (s5 BR.ps (((aO,ab,()),()))) =
  cond (decide (aO<(0:Int))) (.ret (((1:Int),()))) (cond (decide ((16777215:Int)<aO)) (.ret (((1:Int),()))) (cond (decide (ab=(0:Int))) (.ret (((1:Int),()))) (.f8 (True) (cond (outside ab) (.ret (((1:Int),()))) (.ret (((0:Int),()))))))):=by kernel_rfl
theorem Up:BR.Valid Tryz.prog 70:=by
  refine p7.n8 SP rfl rfl Tryz.func70 (c:=d8 Tryz.prog 70) rfl rfl SV rfl ?_;rintro ⟨⟨(x0:Int),(x1:Int),⟨⟩⟩,⟨⟩⟩ - ⟨⟨h0,h1,-⟩,-⟩;refine j6 (n:=1000) SP SV ?_;refine i7 (c40 x0 x1) ?_;have g0:-9223372036854775808<=x0/\x0<=9223372036854775807:=h0;have g1:0<=x1/\x1<=255:=h1;simp only [j7,Tree.holds,decide_eq_true_eq,decide_eq_false_iff_not];have key:∀ r:Int,r=Q7 (x0,x1,())->((r,()):DL [Ty.int .i64])=BR.fn ((x0,x1,()),()):=by rintro r rfl; rfl
  refine ⟨λ a=>key _ ?_,λ a=>⟨λ b=>key _ ?_,λ b=>⟨λ c=>key _ ?_,λ c=>⟨trivial,λ _=>⟨λ d=>key _ ?_,λ d=>key _ ?_⟩⟩⟩⟩⟩
  all_goals simp only [Q7,outside,decide_eq_true_eq,decide_eq_false_iff_not] at *
  all_goals (first|rw [if_pos (by omega)]|rw [if_neg (by omega)])
noncomputable def GW:Env:={ P:=Tryz.prog,tt:=tt,C9:=[],res:=[Go.ResultVar.tmp 2],rs:=[Ty.int IntKind.i64],ps:=[PK.v U8],B8:=[],nt:=6 }
theorem PX:w7 GW:=x6 r7 trivial
theorem PE:C0 GW Tryz.f88:=⟨rfl,rfl⟩
theorem We (x0:Int):exec GW 1000 [.code (d8 Tryz.prog 88)] (s5 Hq.ps ((x0,()))) =
  .f8 ((0:Int)<=x0/\x0<(↑(List.length (Array.toList (ByteArray.data (ByteArray.mk (List.toArray (List.append (List.append ([0,1,1,2,1,2,2,3,1,2,2,3,2,3,3,4,1,2,2,3,2,3,3,4,2,3,3,4,3,4,4,5,1,2,2,3,2,3,3,4,2,3,3,4,3,4,4,5,2,3,3,4,3,4,4,5,3,4,4,5,4,5,5,6]:yY) ([1,2,2,3,2,3,3,4,2,3,3,4,3,4,4,5,2,3,3,4,3,4,4,5,3,4,4,5,4,5,5,6,2,3,3,4,3,4,4,5,3,4,4,5,4,5,5,6,3,4,4,5,4,5,5,6,4,5,5,6,5,6,6,7]:yY)) (List.append ([1,2,2,3,2,3,3,4,2,3,3,4,3,4,4,5,2,3,3,4,3,4,4,5,3,4,4,5,4,5,5,6,2,3,3,4,3,4,4,5,3,4,4,5,4,5,5,6,3,4,4,5,4,5,5,6,4,5,5,6,5,6,6,7]:yY) ([2,3,3,4,3,4,4,5,3,4,4,5,4,5,5,6,3,4,4,5,4,5,5,6,4,5,5,6,5,6,6,7,3,4,4,5,4,5,5,6,4,5,5,6,5,6,6,7,4,5,5,6,5,6,6,7,5,6,6,7,6,7,7,8]:yY)))))))):Int)) (.ret ((IntKind.wrap IntKind.i64 (↑(UInt8.toNat (List.getD (Array.toList (ByteArray.data (ByteArray.mk (List.toArray (List.append (List.append ([0,1,1,2,1,2,2,3,1,2,2,3,2,3,3,4,1,2,2,3,2,3,3,4,2,3,3,4,3,4,4,5,1,2,2,3,2,3,3,4,2,3,3,4,3,4,4,5,2,3,3,4,3,4,4,5,3,4,4,5,4,5,5,6]:yY) ([1,2,2,3,2,3,3,4,2,3,3,4,3,4,4,5,2,3,3,4,3,4,4,5,3,4,4,5,4,5,5,6,2,3,3,4,3,4,4,5,3,4,4,5,4,5,5,6,3,4,4,5,4,5,5,6,4,5,5,6,5,6,6,7]:yY)) (List.append ([1,2,2,3,2,3,3,4,2,3,3,4,3,4,4,5,2,3,3,4,3,4,4,5,3,4,4,5,4,5,5,6,2,3,3,4,3,4,4,5,3,4,4,5,4,5,5,6,3,4,4,5,4,5,5,6,4,5,5,6,5,6,6,7]:yY) ([2,3,3,4,3,4,4,5,3,4,4,5,4,5,5,6,3,4,4,5,4,5,5,6,4,5,5,6,5,6,6,7,3,4,4,5,4,5,5,6,4,5,5,6,5,6,6,7,4,5,5,6,5,6,6,7,5,6,6,7,6,7,7,8]:yY))))))) (Int.toNat x0) (0:UInt8))):Int),()))):=by kernel_rfl
theorem b8N:Hq.Valid Tryz.prog 88:=by
  refine p7.n8 PX rfl rfl Tryz.func88 (c:=d8 Tryz.prog 88) rfl rfl PE rfl ?_;rintro ⟨(x0:Int),⟨⟩⟩ - ⟨h0,-⟩;refine j6 (n:=1000) PX PE ?_;refine i7 (We x0) ?_;have g0:0<=x0/\x0<=255:=h0;obtain ⟨n,rfl⟩:∃ n:Fin 256,x0=((n.val:Nat):Int):=⟨⟨x0.toNat,by omega⟩,by simp; omega⟩;refine ⟨?_,λ _=>?_⟩
  . clear h0 g0; revert n; decide +kernel
  . show ((_,()):Int×Unit)=(vR n,());clear h0 g0; revert n; decide +kernel
noncomputable def GP:Env:={ P:=Tryz.prog,tt:=tt,C9:=[(88,Hq)],res:=[Go.ResultVar.tmp 4],rs:=[Ty.bool],ps:=[PK.v U8,PK.v U8],B8:=[],nt:=13 }
theorem PO:w7 GP:=x6 r7 ⟨b8N,trivial⟩
theorem Pz:C0 GP Tryz.f72:=⟨rfl,rfl⟩
theorem VV (x0:Int) (x1:Int):exec GP 1000 [.code (d8 Tryz.prog 72)] (s5 GK.ps ((x0,x1,()))) =
  .f8 (True) (.f8 (r9 IntKind.i64 ((2:Int)*vR (T4 IntKind.u8 x0 x1))) (.f8 (True) (.ret ((decide (vR x1<(2:Int)*vR (T4 IntKind.u8 x0 x1)),()))))):=by kernel_rfl
theorem b8Y:GK.Valid Tryz.prog 72:=by
  refine p7.n8 PO rfl rfl Tryz.func72 (c:=d8 Tryz.prog 72) rfl rfl Pz rfl ?_;rintro ⟨(x0:Int),(x1:Int),⟨⟩⟩ - ⟨h0,h1,-⟩;refine j6 (n:=1000) PO Pz ?_;refine i7 (VV x0 x1) ?_;have hb:∀ a b:Int,0<=vR (T4 .u8 a b)/\vR (T4 .u8 a b)<=8:=λ a b=>OV _;refine ⟨trivial,λ _=>⟨?_,λ _=>⟨trivial,λ _=>rfl⟩⟩⟩;have:=hb x0 x1;show -9223372036854775808<=_/\_<=9223372036854775807;omega
theorem c0H {v:vK} (h:Q7 v=0):0<=v.1/\v.1<=16777215/\v.2.1≠0/\v.2.1<64:=by
  unfold Q7 at h;split at h
  . cases h
  . omega
noncomputable def HW:Env:={ P:=Tryz.prog,tt:=tt,C9:=[(71,EH),(70,BR),(72,GK)],res:=[Go.ResultVar.cell 6 57,Go.ResultVar.tmp 7],rs:=[Ty.pair d9 (Ty.pair U8 Ty.unit),Ty.int IntKind.i64],ps:=[PK.v View,PK.v U8,PK.v U8],B8:=[],nt:=52 }
theorem RD:w7 HW:=x6 r7 ⟨UL,Up,b8Y,trivial⟩
theorem QZ:C0 HW Tryz.f53:=⟨rfl,rfl⟩
theorem XV (aO:Int) (ab:Int) (x1:Int) (x2:Int):exec HW 1000 [.code (d8 Tryz.prog 53)] (s5 BP.ps (((aO,ab,()),x1,x2,()))) =
  .f8 (True) (cond (decide (Q7 (aO,ab,())≠(0:Int))) (.ret ((((0:Int),(0:Int),()),Q7 (aO,ab,()),()))) (.f8 (True) (cond (outside (bOr IntKind.u8 x1 x2)) (.ret ((((0:Int),(0:Int),()),(1:Int),()))) (cond (decide (T4 IntKind.u8 x1 x2≠(0:Int))) (.ret ((((0:Int),(0:Int),()),(1:Int),()))) (cond (decide (aO=(16777215:Int))) (.ret ((((0:Int),(0:Int),()),(8:Int),()))) (.f8 (True) (cond (!half (S8 IntKind.u8 ab x1) ab) (.ret ((((0:Int),(0:Int),()),(11:Int),()))) (.f8 (r9 IntKind.i64 (aO+(1:Int))) (.ret (((aO+(1:Int),bOr IntKind.u8 (S8 IntKind.u8 ab x1) x2,()),(0:Int),()))))))))))):=by kernel_rfl
theorem UH:BP.Valid Tryz.prog 53:=by
  refine p7.n8 RD rfl rfl Tryz.func53 (c:=d8 Tryz.prog 53) rfl rfl QZ rfl ?_;rintro ⟨⟨(x0:Int),(x1:Int),⟨⟩⟩,(g:Int),(c:Int),⟨⟩⟩ - ⟨⟨h0,h1,-⟩,h2,h3,-⟩;refine j6 (n:=1000) RD QZ ?_;refine i7 (XV x0 x1 g c) ?_;have g0:-9223372036854775808<=x0/\x0<=9223372036854775807:=h0;have key:∀ r:vK×Int×Unit,R5 (x0,x1,()) g c=r->((r:DL [View,.int .i64])=BP.fn ((x0,x1,()),g,c,())):=by rintro r rfl; rfl
  simp only [j7,Tree.holds,decide_eq_true_eq,decide_eq_false_iff_not];refine ⟨trivial,λ _=>⟨λ a=>key _ ?_,λ a=>⟨trivial,λ _=>⟨λ b=>key _ ?_,λ b=>⟨λ d=>key _ ?_,λ d=>⟨λ e=>key _ ?_,λ e=>⟨trivial,λ _=>⟨λ f=>key _ ?_,λ f=>⟨⟨?_,?_⟩,λ _=>key _ ?_⟩⟩⟩⟩⟩⟩⟩⟩⟩
  . rw [R5,if_pos a]; rfl
  . rw [R5,if_neg a,if_pos b]; rfl
  . rw [R5,if_neg a,if_neg (by simpa using b),if_pos d]; rfl
  . rw [R5,if_neg a,if_neg (by simpa using b),if_neg d,if_pos e]; rfl
  . rw [R5,if_neg a,if_neg (by simpa using b),if_neg d,if_neg e,if_pos f]; rfl
  . show -9223372036854775808<=_; omega
  . have:=(c0H (v:=(x0,x1,())) (by simpa using a)).2.1;show x0+1<=9223372036854775807; simp only at this; omega
  . rw [R5,if_neg a,if_neg (by simpa using b),if_neg d,if_neg e,if_neg (by simpa using f)]; rfl
def T8 (f:Nat->Int):Nat->Int
  | 0=>0
  | k+1=>if T8 f k≠0 then T8 f k else f k
theorem TJ {f:Nat->Int} {k:Nat} (h0:T8 f k=0) (h1:f k≠0):∀ {n:Nat},k<n->T8 f n=f k
  | 0,h=>by omega
  | n+1,h=>by
    by_cases e:k=n
    . subst e; simp [T8,h0]
    . have:=TJ h0 h1 (n:=n) (by omega);simp [T8,this,h1]
theorem TH {f:Nat->Int} {k:Nat} (h0:T8 f k=0) (h1:f k=0):T8 f (k+1)=0:=by simp [T8,h0,h1]
theorem FD {f:Nat->Int}:∀ {n:Nat},T8 f n=0↔∀ k,k<n->f k=0
  | 0=>by simp [T8]
  | n+1=>by
    constructor
    . intro h k hk;have h2:T8 f n=0:=by
        by_cases e:T8 f n=0
        . exact e
        . rw [T8,if_pos e] at h; exact absurd h e
      by_cases e:k=n
      . subst e; simpa [T8,h2] using h
      . exact FD.1 h2 k (by omega)
    . intro h;exact TH (FD.2 (λ k hk=>h k (by omega))) (h n (by omega))
abbrev w4:=Int×yY×Unit
abbrev vV:=Int×List yY×Unit
abbrev ToD:=Int×List w4×Unit
def Bc:p7:={ ps:=[.v d9,.v d9,.v d9],rs:=[.bool],pre:=λ _=>True,fn:=λ x=>(Z4 x.1 x.2.1 x.2.2.1,()),out:=λ _=>() }
noncomputable def FQ:Env:={ P:=Tryz.prog,tt:=tt,C9:=[],res:=[Go.ResultVar.tmp 6],rs:=[Ty.bool],ps:=[PK.v d9,PK.v d9,PK.v d9],B8:=[],nt:=15 }
theorem NI:w7 FQ:=x6 r7 trivial
theorem NS:C0 FQ Tryz.f75:=⟨rfl,rfl⟩
theorem VD (x0:Int) (x1:Int) (x2:Int):exec FQ 1000 [.code (d8 Tryz.prog 75)] (s5 Bc.ps ((x0,x1,x2,()))) =
  cond (decide (x1<=x0)) (.ret ((decide (x0<=x2),()))) (.ret ((false,()))):=by kernel_rfl
theorem Ld:Bc.Valid Tryz.prog 75:=by
  refine p7.n8 NI rfl rfl Tryz.func75 (c:=d8 Tryz.prog 75) rfl rfl NS rfl ?_;rintro ⟨(a:Int),(b:Int),(c:Int),⟨⟩⟩ - -
  refine j6 (n:=1000) NI NS ?_;refine i7 (VD a b c) ?_;simp only [j7,Tree.holds,sL]
  repeat' first|exact trivial|(refine And.intro ?_ ?_)|(intro _)
  all_goals (show ((_,()):Bool×Unit)=(Z4 a b c,()); simp [Z4, *])
def E7 (s:yY):Bool:=decide ((200:Int)<s.length)
def Ag:p7:={ ps:=[.v .str],rs:=[.bool],pre:=λ _=>True,fn:=λ x=>(E7 x.1,()),out:=λ _=>() }
noncomputable def HV:Env:={ P:=Tryz.prog,tt:=tt,C9:=[],res:=[Go.ResultVar.tmp 2],rs:=[Ty.bool],ps:=[PK.v Ty.str],B8:=[],nt:=6 }
theorem RC:w7 HV:=x6 r7 trivial
theorem QY:C0 HV Tryz.f59:=⟨rfl,rfl⟩
theorem XT (x0:yY):exec HV 1000 [.code (d8 Tryz.prog 59)] (s5 Ag.ps ((x0,()))) =
  .ret ((decide ((200:Int)<(↑(List.length x0):Int)),())):=by kernel_rfl
theorem FB:Ag.Valid Tryz.prog 59:=by
  refine p7.n8 RC rfl rfl Tryz.func59 (c:=d8 Tryz.prog 59) rfl rfl QY rfl ?_;rintro ⟨(s:yY),⟨⟩⟩ - -
  refine j6 (n:=1000) RC QY ?_;refine i7 (XT s) ?_;rfl
def Hl:p7:={ ps:=[.v (.d0 false .str),.C7 59 []],rs:=[d9],pre:=λ x=>True,fn:=λ x=>(idxOf (E7) x.1,()),out:=λ _=>() }
noncomputable def DR:Env:={ P:=Tryz.prog,tt:=tt,C9:=[(59,Ag)],res:=[Go.ResultVar.tmp 4],rs:=[Ty.int IntKind.i64],ps:=[PK.v (Ty.d0 false Ty.str),PK.C7 59 []],B8:=[(2,[(0,none),(1,none),(7,none),(8,none)])],nt:=19 }
theorem JO:w7 DR:=x6 r7 ⟨FB,trivial⟩
theorem Jw:C0 DR Tryz.f94:=⟨rfl,rfl⟩
theorem VZ (x0:List yY):exec DR 1000 [.code (d8 Tryz.prog 94)] (s5 Hl.ps ((x0,(),()))) =
  .ctL (g8 (d8 Tryz.prog 94) 2) (St.mk [(0,AV.val (Ty.d0 false Ty.str) x0),(1,AV.C7 59 AV.nil),(7,AV.val d9 (↑(List.length x0):Int)),(8,AV.val d9 (0:Int))] []):=by kernel_rfl
def PS (v0:List yY) (v7:Int) (v8:Int):St:=St.mk [(0,AV.val (Ty.d0 false Ty.str) v0),(1,AV.C7 59 AV.nil),(7,AV.val d9 v7),(8,AV.val d9 v8)] []
theorem YE (v0:List yY) (v7:Int) (v8:Int):exec DR 1000 (.code (g8 (d8 Tryz.prog 94) 2).1::.inLoop (g8 (d8 Tryz.prog 94) 2).1::(g8 (d8 Tryz.prog 94) 2).2) (PS v0 v7 v8) =
  cond (decide (v8<v7)) (.f8 ((0:Int)<=v8/\v8<(↑(List.length v0):Int)) (.f8 (True) (cond (E7 (List.getD v0 (Int.toNat v8) [])) (.ret ((v8,()))) (.f8 (r9 IntKind.i64 (v8+(1:Int))) (.ctL (g8 (d8 Tryz.prog 94) 2) (St.mk [(0,AV.val (Ty.d0 false Ty.str) v0),(1,AV.C7 59 AV.nil),(7,AV.val d9 v7),(8,AV.val d9 (v8+(1:Int)))] [])))))) (.ret (((-1:Int),()))):=by kernel_rfl
theorem b8U:Hl.Valid Tryz.prog 94:=by
  refine p7.n8 JO rfl rfl Tryz.func94 (c:=d8 Tryz.prog 94) rfl rfl Jw rfl ?_;rintro ⟨(l:List yY),⟨⟩,⟨⟩⟩ - ⟨⟨hl,-⟩,-⟩;have hl:l.length<=9223372036854775807:=hl;refine j6 (n:=1000) JO Jw ?_;refine i7 (VZ l ) ?_;refine Reach.M7 JO Jw (λ i:Nat=>PS l  (l.length:Int) (i:Int)) (λ i=>i<=l.length/\idxOf (E7) l=T7 (E7) (l.drop i) i)
    (λ i=>l.length - i) 1000 (λ _=>⟨s9 rfl,s9 rfl⟩) ?_ 0 ⟨by omega,rfl⟩
  rintro i ⟨k1,k2⟩ - ih;refine i7 (YE ..) ?_;simp only [j7,Tree.holds,sL];refine ⟨λ h=>?_,λ h=>?_⟩
  . rw [Fe (show i<l.length by omega) [],T7] at k2;refine ⟨by omega,λ _=>⟨λ c=>?_,λ c=>⟨by omega,λ _=>ih (i+1) ⟨by omega,?_⟩ (by omega)⟩⟩⟩
    . show (((i:Int),()):Int×Unit)=(idxOf (E7) l,());rw [k2,if_pos (show (E7) (l.getD i [])=true from c)]
    . rw [k2,if_neg (show ¬ (E7) (l.getD i [])=true from λ h9=>Bool.noConfusion (Eq.trans (Eq.symm h9) c))]
  . rw [aDr (by omega)] at k2;show (((-1:Int),()):Int×Unit)=(idxOf (E7) l,());rw [k2]; rfl
def Im:p7:={ ps:=[.v (.d0 false .str),.C7 59 []],rs:=[.bool],pre:=λ x=>True,fn:=λ x=>(List.any (α:=yY) x.1 (E7),()),out:=λ _=>() }
noncomputable def HX:Env:={ P:=Tryz.prog,tt:=tt,C9:=[(94,Hl)],res:=[Go.ResultVar.tmp 4],rs:=[Ty.bool],ps:=[PK.v (Ty.d0 false Ty.str),PK.C7 59 []],B8:=[],nt:=9 }
theorem Rs:w7 HX:=x6 r7 ⟨b8U,trivial⟩
theorem RJ:C0 HX Tryz.f76:=⟨rfl,rfl⟩
theorem Yp (x0:List yY):exec HX 1000 [.code (d8 Tryz.prog 76)] (s5 Im.ps ((x0,(),()))) =
  .f8 (True) (.ret ((decide ((0:Int)<=idxOf E7 x0),()))):=by kernel_rfl
theorem b6M:Im.Valid Tryz.prog 76:=by
  refine p7.n8 Rs rfl rfl Tryz.func76 (c:=d8 Tryz.prog 76) rfl rfl RJ rfl ?_;rintro ⟨(l:List yY),⟨⟩,⟨⟩⟩ - -
  refine j6 (n:=1000) Rs RJ ?_;refine i7 (Yp l ) ?_;refine ⟨trivial,λ _=>?_⟩;show ((decide (0<=idxOf (E7) l),()):Bool×Unit)=(l.any (E7),());rw [Jg]
theorem Vs:Ty.wb .str=16:=rfl
def Dk:p7:={ ps:=[.v (.d0 false .str)],rs:=[.d0 true .str],pre:=λ x=>List.length (α:=yY) x.1<=1048576,fn:=λ x=>x,out:=λ _=>() }
noncomputable def FU:Env:={ P:=Tryz.prog,tt:=tt,C9:=[],res:=[Go.ResultVar.tmp 2],rs:=[Ty.d0 true Ty.str],ps:=[PK.v (Ty.d0 false Ty.str)],B8:=[],nt:=8 }
theorem NL:w7 FU:=x6 r7 trivial
theorem NV:C0 FU Tryz.f32:=⟨rfl,rfl⟩
theorem VG (x0:List yY):exec FU 1000 [.code (d8 Tryz.prog 32)] (s5 Dk.ps ((x0,()))) =
  .both (x0=[]) (.ret (([],()))) (.f8 ((0:Nat)+List.length x0<=140737488355328/\((0:Nat)+List.length x0)*Ty.wb Ty.str<=140737488355328) (.ret (([]++x0,())))):=by kernel_rfl
theorem SG:Dk.Valid Tryz.prog 32:=by
  refine p7.n8 NL rfl rfl Tryz.func32 (c:=d8 Tryz.prog 32) rfl rfl NV rfl ?_;rintro ⟨(l:List yY),⟨⟩⟩ hp -
  have hp:l.length<=1048576:=hp;refine j6 (n:=1000) NL NV ?_;refine i7 (VG l) ?_;simp only [j7,Tree.holds,Vs,sL];refine ⟨λ h=>?_,by omega,λ _=>rfl⟩;show (([],()):List yY×Unit)=(l,());rw [show l=[] from h]
def f00:vV:=(0,[],())
def I7 (s:vV):Int:=if Z4 s.1 0 16777215=false then 1 else if (16:Int)<s.2.1.length then 1 else if s.2.1.any E7=true then 2 else 0
def BD:p7:={ ps:=[.v R6],rs:=[d9],pre:=λ _=>True,fn:=λ x=>(I7 x.1,()),out:=λ _=>() }
noncomputable def HZ:Env:={ P:=Tryz.prog,tt:=tt,C9:=[(75,Bc),(76,Im)],res:=[Go.ResultVar.tmp 2],rs:=[Ty.int IntKind.i64],ps:=[PK.v R6],B8:=[],nt:=18 }
theorem Rv:w7 HZ:=x6 r7 ⟨Ld,b6M,trivial⟩
theorem RM:C0 HZ Tryz.f58:=⟨rfl,rfl⟩
theorem Ys (aO:Int) (ab:List yY):exec HZ 1000 [.code (d8 Tryz.prog 58)] (s5 BD.ps (((aO,ab,()),()))) =
  .f8 (True) (cond (!Z4 aO (0:Int) (16777215:Int)) (.ret (((1:Int),()))) (cond (decide ((16:Int)<(↑(List.length ab):Int))) (.ret (((1:Int),()))) (.f8 (True) (cond (List.any ab E7) (.ret (((2:Int),()))) (.ret (((0:Int),()))))))):=by kernel_rfl
theorem lnf {b:Bool} (h:b=true):¬ b=false:=by rw [h]; simp
theorem LN:BD.Valid Tryz.prog 58:=by
  refine p7.n8 Rv rfl rfl Tryz.func58 (c:=d8 Tryz.prog 58) rfl rfl RM rfl ?_;rintro ⟨⟨(b:Int),(l:List yY),⟨⟩⟩,⟨⟩⟩ - -
  refine j6 (n:=1000) Rv RM ?_;refine i7 (Ys b l) ?_;have key:∀ {x:Int},I7 (b,l,())=x->((x,()):Int×Unit)=(I7 (b,l,()),()):=by rintro x rfl; rfl
  have hd:I7 (b,l,())=if Z4 b 0 16777215=false then 1 else if (16:Int)<l.length then 1 else if l.any E7=true then 2 else 0:=rfl
  simp only [j7,Tree.holds,sL];refine ⟨λ a=>key (by rw [hd,if_pos a]),λ a=>⟨λ c=>key (by rw [hd,if_neg (lnf a),if_pos c]),λ c=>⟨λ d=>key (by rw [hd,if_neg (lnf a),if_neg c,if_pos d]),λ d=>key (by rw [hd,if_neg (lnf a),if_neg c,if_neg (by rw [d]; simp)])⟩⟩⟩
theorem xY {s:vV} (h:I7 s=0):(0<=s.1/\s.1<=16777215)/\s.2.1.length<=16/\s.2.1.any E7=false:=by
  unfold I7 at h;split at h
  . cases h
  rename_i c1;split at h
  . cases h
  rename_i c2;split at h
  . cases h
  rename_i c3;exact ⟨xb.1 (aEm _▸c1),by omega,by simpa using c3⟩
def R9 (s:vV) (x:yY):vV×Int×Unit :=
  if I7 s≠0 then (f00,I7 s,()) else if E7 x=true then (f00,2,()) else if (s.2.1.length:Int)=16\/16777215<=s.1+s.2.1.length then (f00,8,()) else ((s.1,s.2.1++[x],()),0,())
def Hn:p7:={ ps:=[.v R6,.v .str],rs:=[Mu,d9],pre:=λ _=>True,fn:=λ x=>R9 x.1 x.2.1,out:=λ _=>() }
noncomputable def GS:Env:={ P:=Tryz.prog,tt:=tt,C9:=[(58,BD),(59,Ag),(32,Dk)],res:=[Go.ResultVar.cell 4 78,Go.ResultVar.tmp 5],rs:=[Ty.pair d9 (Ty.pair (Ty.d0 true Ty.str) Ty.unit),Ty.int IntKind.i64],ps:=[PK.v R6,PK.v Ty.str],B8:=[],nt:=41 }
theorem PV:w7 GS:=x6 r7 ⟨LN,FB,SG,trivial⟩
theorem PC:C0 GS Tryz.f42:=⟨rfl,rfl⟩
theorem Wc (aO:Int) (ab:List yY) (x1:yY):exec GS 1000 [.code (d8 Tryz.prog 42)] (s5 Hn.ps (((aO,ab,()),x1,()))) =
  .f8 (True) (cond (decide (I7 (aO,ab,())≠(0:Int))) (.ret ((((0:Int),[],()),I7 (aO,ab,()),()))) (.f8 (True) (cond (E7 x1) (.ret ((((0:Int),[],()),(2:Int),()))) (cond (decide ((↑(List.length ab):Int)=(16:Int))) (.ret ((((0:Int),[],()),(8:Int),()))) (.f8 (r9 IntKind.i64 (aO+(↑(List.length ab):Int))) (cond (decide ((16777215:Int)<=aO+(↑(List.length ab):Int))) (.ret ((((0:Int),[],()),(8:Int),()))) (.f8 (List.length ab<=1048576) (.f8 (List.length ab+List.length (List.set [[]] (Int.toNat (↑0:Int)) x1)<=140737488355328/\(List.length ab+List.length (List.set [[]] (Int.toNat (↑0:Int)) x1))*Ty.wb Ty.str<=140737488355328) (.ret (((aO,ab++List.set [[]] (Int.toNat (↑0:Int)) x1,()),(0:Int),()))))))))))):=by kernel_rfl
theorem b8Q:Hn.Valid Tryz.prog 42:=by
  refine p7.n8 PV rfl rfl Tryz.func42 (c:=d8 Tryz.prog 42) rfl rfl PC rfl ?_;rintro ⟨⟨(b:Int),(l:List yY),⟨⟩⟩,(x:yY),⟨⟩⟩ - -
  refine j6 (n:=1000) PV PC ?_;refine i7 (Wc b l x) ?_;have key:∀ {y:vV×Int×Unit},R9 (b,l,()) x=y->y=R9 (b,l,()) x:=λ h=>h.symm;have hd:R9 (b,l,()) x=if I7 (b,l,())≠0 then (f00,I7 (b,l,()),()) else if E7 x=true then (f00,2,()) else if (l.length:Int)=16\/16777215<=b+l.length then (f00,8,()) else ((b,l++[x],()),0,()):=rfl
  have hw:Ty.wb .str=16:=rfl;simp only [j7,Tree.holds,hw,sL];refine ⟨λ a=>key (by rw [hd,if_pos a]<;>rfl),λ a=>?_⟩;have aM:=xY (aBq.1 a);simp only at aM;rw [if_neg a] at hd;refine ⟨λ c=>key (by rw [hd,if_pos c]<;>rfl),λ c=>?_⟩;rw [if_neg (by rw [c]; simp)] at hd;refine ⟨λ d=>key (by rw [hd,if_pos (.inl d)]<;>rfl),λ d=>⟨by omega,λ _=>⟨λ e=>key (by rw [hd,if_pos (.inr e)]<;>rfl),λ e=>⟨by omega,λ _=>⟨⟨by omega,by omega⟩,λ _=>key ?_⟩⟩⟩⟩⟩;rw [hd,if_neg (by rintro (h|h); exact d h; exact e h)]; rfl
def ahd (b x:Int):Int:=if x - b<0 then 0 else x - b
def S7 (s:vV) (x:Int):vV×Int×Unit :=
  if I7 s≠0 then (f00,I7 s,()) else if s.1+s.2.1.length<x then (f00,1,()) else ((s.1+ahd s.1 x,s.2.1.drop (ahd s.1 x).toNat,()),0,())
def IN:p7:={ ps:=[.v R6,.v d9],rs:=[Mu,d9],pre:=λ x=>LE.le (α:=Int) 0 x.2.1,fn:=λ x=>S7 x.1 x.2.1,out:=λ _=>() }
noncomputable def IC:Env:={ P:=Tryz.prog,tt:=tt,C9:=[(58,BD),(32,Dk)],res:=[Go.ResultVar.cell 4 78,Go.ResultVar.tmp 5],rs:=[Ty.pair d9 (Ty.pair (Ty.d0 true Ty.str) Ty.unit),Ty.int IntKind.i64],ps:=[PK.v R6,PK.v d9],B8:=[],nt:=38 }
theorem SA:w7 IC:=x6 r7 ⟨LN,SG,trivial⟩
theorem SS:C0 IC Tryz.f86:=⟨rfl,rfl⟩
theorem c45 (aO:Int) (ab:List yY) (x1:Int):exec IC 1000 [.code (d8 Tryz.prog 86)] (s5 IN.ps (((aO,ab,()),x1,()))) =
  .f8 (True) (cond (decide (I7 (aO,ab,())≠(0:Int))) (.ret ((((0:Int),[],()),I7 (aO,ab,()),()))) (.f8 (r9 IntKind.i64 (aO+(↑(List.length ab):Int))) (cond (decide (aO+(↑(List.length ab):Int)<x1)) (.ret ((((0:Int),[],()),(1:Int),()))) (.f8 (r9 IntKind.i64 (x1 - aO)) (.f8 (r9 IntKind.i64 (aO+if x1 - aO<(0:Int) then (0:Int) else x1 - aO)) (.f8 (((0:Int)<=if x1 - aO<(0:Int) then (0:Int) else x1 - aO)/\(if x1 - aO<(0:Int) then (0:Int) else x1 - aO)<=(↑(List.length ab):Int)/\(↑(List.length ab):Int)<=(↑(List.length ab):Int)) (.f8 (List.length (o5 (if x1 - aO<(0:Int) then (0:Int) else x1 - aO) (↑(List.length ab):Int) ab)<=1048576) (.ret (((aO+if x1 - aO<(0:Int) then (0:Int) else x1 - aO,o5 (if x1 - aO<(0:Int) then (0:Int) else x1 - aO) (↑(List.length ab):Int) ab,()),(0:Int),())))))))))):=by kernel_rfl
theorem b5d:IN.Valid Tryz.prog 86:=by
  refine p7.n8 SA rfl rfl Tryz.func86 (c:=d8 Tryz.prog 86) rfl rfl SS rfl ?_;rintro ⟨⟨(b:Int),(l:List yY),⟨⟩⟩,(x:Int),⟨⟩⟩ (h0:0<=x) -
  refine j6 (n:=1000) SA SS ?_;refine i7 (c45 b l x) ?_;have key:∀ {y:vV×Int×Unit},S7 (b,l,()) x=y->y=S7 (b,l,()) x:=λ h=>h.symm;have hd:S7 (b,l,()) x=if I7 (b,l,())≠0 then (f00,I7 (b,l,()),()) else if b+l.length<x then (f00,1,()) else ((b+ahd b x,l.drop (ahd b x).toNat,()),0,()):=rfl
  have ha:(if x - b<0 then 0 else x - b)=ahd b x:=rfl;have tQ:0<=ahd b x/\(x<=b+l.length->ahd b x<=l.length)/\(ahd b x=0\/ahd b x=x - b):=by rw [ahd]; split<;>omega
  have jG:0<=ahd b x->o5 (ahd b x) (l.length:Int) l=l.drop (ahd b x).toNat:=λ h=>by
    rw [o5,aAu (by rw [aAq]; omega)]
  rw [ha];generalize ahd b x=n at *
  rw [jG tQ.1];simp only [j7,Tree.holds,sL];refine ⟨λ a=>key (by rw [hd,if_pos a]<;>rfl),λ a=>?_⟩;have aM:=xY (aBq.1 a);simp only at aM;rw [if_neg a] at hd;refine ⟨by omega,λ _=>⟨λ c=>key (by rw [hd,if_pos c]<;>rfl),λ c=>?_⟩⟩;rw [if_neg c] at hd;refine ⟨by omega,λ _=>⟨by omega,λ _=>⟨by omega,λ _=>⟨?_,λ _=>key (by rw [hd]<;>rfl)⟩⟩⟩⟩;rw [aAq]; omega
def xS (b most:Int) (l:List yY):Nat->List w4
  | 0=>[]
  | i+1=>xS b most l i++(if (i:Int)<most then [(b+i,l.getD i [],())] else [])
theorem KU {b most:Int} {l:List yY}:∀ {i:Nat},(xS b most l i).length<=i
  | 0=>aAj _
  | i+1=>by
    have:=KU (b:=b) (most:=most) (l:=l) (i:=i);rw [xS,aAe]
    split<;>simp<;>omega
def wX (s:vV) (most:Int):List w4×Int×Unit:=if I7 s≠0 then ([],I7 s,()) else (xS s.1 most s.2.1 s.2.1.length,0,())
def IP:p7:={ ps:=[.v R6,.v d9],rs:=[.d0 true r8,d9],pre:=λ _=>True,fn:=λ x=>wX x.1 x.2.1,out:=λ _=>() }
noncomputable def Ev:Env:={ P:=Tryz.prog,tt:=tt,C9:=[(58,BD)],res:=[Go.ResultVar.tmp 4,Go.ResultVar.tmp 5],rs:=[Ty.d0 true r8,Ty.int IntKind.i64],ps:=[PK.v R6,PK.v d9],B8:=[(6,[(1,none),(2,none),(7,some (Ty.d0 true r8)),(16,none),(17,none),(18,none)])],nt:=37 }
theorem Ln:w7 Ev:=x6 r7 ⟨LN,trivial⟩
theorem Lq:C0 Ev Tryz.f54:=⟨rfl,rfl⟩
theorem c44 (aO:Int) (ab:List yY) (x1:Int):exec Ev 1000 [.code (d8 Tryz.prog 54)] (s5 IP.ps (((aO,ab,()),x1,()))) =
  .f8 (True) (cond (decide (I7 (aO,ab,())≠(0:Int))) (.ret (([],I7 (aO,ab,()),()))) (.ctL (g8 (d8 Tryz.prog 54) 6) (St.mk [(1,AV.val d9 x1),(2,AV.ptr 2 []),(7,AV.at_ 1000007 []),(16,AV.val (Ty.d0 false Ty.str) ab),(17,AV.val d9 (↑(List.length ab):Int)),(18,AV.val d9 (0:Int))] [(2,i6.var R6 (aO,ab,())),(1000007,i6.own (Ty.d0 true r8) [])]))):=by kernel_rfl
def SB (v1:Int) (xz:List yY) (vG:Int) (vi:Int) (dR:Int) (cM:List yY) (bo:List (Int×yY×Unit)):St:=St.mk [(1,AV.val d9 v1),(2,AV.ptr 2 []),(7,AV.at_ 1000007 []),(16,AV.val (Ty.d0 false Ty.str) xz),(17,AV.val d9 vG),(18,AV.val d9 vi)] [(2,i6.var R6 (dR,cM,())),(1000007,i6.own (Ty.d0 true r8) bo)]
theorem c2R (v1:Int) (xz:List yY) (vG:Int) (vi:Int) (dR:Int) (cM:List yY) (bo:List (Int×yY×Unit)):exec Ev 1000 (.code (g8 (d8 Tryz.prog 54) 6).1::.inLoop (g8 (d8 Tryz.prog 54) 6).1::(g8 (d8 Tryz.prog 54) 6).2) (SB v1 xz vG vi dR cM bo) =
  cond (decide (vi<vG)) (.f8 ((0:Int)<=vi/\vi<(↑(List.length xz):Int)) (cond (decide (vi<v1)) (.f8 (r9 IntKind.i64 (dR+vi)) (.f8 (List.length bo+List.length (List.set [((0:Int),[],())] (Int.toNat (↑0:Int)) (dR+vi,List.getD xz (Int.toNat vi) [],()))<=140737488355328/\(List.length bo+List.length (List.set [((0:Int),[],())] (Int.toNat (↑0:Int)) (dR+vi,List.getD xz (Int.toNat vi) [],())))*Ty.wb r8<=140737488355328) (.f8 (r9 IntKind.i64 (vi+(1:Int))) (.ctL (g8 (d8 Tryz.prog 54) 6) (St.mk [(1,AV.val d9 v1),(2,AV.ptr 2 []),(7,AV.at_ 1000007 []),(16,AV.val (Ty.d0 false Ty.str) xz),(17,AV.val d9 vG),(18,AV.val d9 (vi+(1:Int)))] [(2,i6.var R6 (dR,cM,())),(1000007,i6.own (Ty.d0 true r8) (bo++List.set [((0:Int),[],())] (Int.toNat (↑0:Int)) (dR+vi,List.getD xz (Int.toNat vi) [],())))]))))) (.f8 (r9 IntKind.i64 (vi+(1:Int))) (.ctL (g8 (d8 Tryz.prog 54) 6) (St.mk [(1,AV.val d9 v1),(2,AV.ptr 2 []),(7,AV.at_ 1000007 []),(16,AV.val (Ty.d0 false Ty.str) xz),(17,AV.val d9 vG),(18,AV.val d9 (vi+(1:Int)))] [(2,i6.var R6 (dR,cM,())),(1000007,i6.own (Ty.d0 true r8) bo)]))))) (.ret ((bo,(0:Int),()))):=by kernel_rfl
theorem b5c:IP.Valid Tryz.prog 54:=by
  refine p7.n8 Ln rfl rfl Tryz.func54 (c:=d8 Tryz.prog 54) rfl rfl Lq rfl ?_;rintro ⟨⟨(b:Int),(l:List yY),⟨⟩⟩,(m:Int),⟨⟩⟩ - -
  refine j6 (n:=1000) Ln Lq ?_;refine i7 (c44 b l m) ?_;have key:∀ {y:List w4×Int×Unit},wX (b,l,()) m=y->y=wX (b,l,()) m:=λ h=>h.symm;have hd:wX (b,l,()) m=if I7 (b,l,())≠0 then ([],I7 (b,l,()),()) else (xS b m l l.length,0,()):=rfl
  have hw:Ty.wb r8=24:=rfl;simp only [j7,Tree.holds,sL];refine ⟨λ a=>key (by rw [hd,if_pos a]<;>rfl),λ a=>?_⟩;have aM:=xY (aBq.1 a);simp only at aM;rw [if_neg a] at hd;refine Reach.M7 Ln Lq (λ i:Nat=>SB m l (l.length:Int) (i:Int) b l (xS b m l i)) (λ i=>i<=l.length) (λ i=>l.length - i) 1000 (λ _=>⟨s9 rfl,s9 rfl⟩) ?_ 0 (by omega);rintro i k1 - ih;have k1:i<=l.length:=k1;refine i7 (c2R ..) ?_;have nV:=KU (b:=b) (most:=m) (l:=l) (i:=i);simp only [j7,Tree.holds,hw,sL];refine ⟨λ c=>⟨by omega,λ _=>?_⟩,λ c=>key (by rw [hd,show i=l.length by omega]<;>rfl)⟩;have next:=ih (i+1) (by show i+1<=l.length; omega) (by omega)
  rw [xS] at next
  refine ⟨λ d=>⟨by omega,λ _=>⟨⟨by omega,by omega⟩,λ _=>⟨by omega,λ _=>?_⟩⟩⟩,λ d=>⟨by omega,λ _=>?_⟩⟩
  . rw [if_pos d] at next; exact next
  . rw [if_neg d,aBc] at next; exact next
def p00:w4:=(0,[],())
def t00:ToD:=(0,[],())
def zJ (r:Int) (l:List w4):Nat->Int
  | 0=>r
  | i+1=>(l.getD i p00).1
def xP (r:Int) (l:List w4) (i:Nat):Int:=if (l.getD i p00).1<=zJ r l i then 4 else if r+16<=(l.getD i p00).1 then 4 else if E7 (l.getD i p00).2.1=true then 4 else 0
def toE (s:ToD):Int:=if Z4 s.1 0 16777215=false then 1 else if (16:Int)<s.2.1.length then 2 else T8 (xP s.1 s.2.1) s.2.1.length
def Gs:p7:={ ps:=[.v ToT],rs:=[d9],pre:=λ _=>True,fn:=λ x=>(toE x.1,()),out:=λ _=>() }
noncomputable def Dd:Env:={ P:=Tryz.prog,tt:=tt,C9:=[(75,Bc),(59,Ag)],res:=[Go.ResultVar.tmp 2],rs:=[Ty.int IntKind.i64],ps:=[PK.v ToT],B8:=[(7,[(1,none),(3,none),(19,none),(20,none),(21,none)])],nt:=45 }
theorem IE:w7 Dd:=x6 r7 ⟨Ld,FB,trivial⟩
theorem IJ:C0 Dd Tryz.f96:=⟨rfl,rfl⟩
theorem VJ (aO:Int) (ab:List (Int×yY×Unit)):exec Dd 1000 [.code (d8 Tryz.prog 96)] (s5 Gs.ps (((aO,ab,()),()))) =
  .f8 (True) (cond (!Z4 aO (0:Int) (16777215:Int)) (.ret (((1:Int),()))) (cond (decide ((16:Int)<(↑(List.length ab):Int))) (.ret (((2:Int),()))) (.ctL (g8 (d8 Tryz.prog 96) 7) (St.mk [(1,AV.ptr 1 []),(3,AV.val d9 aO),(19,AV.val M6 ab),(20,AV.val d9 (↑(List.length ab):Int)),(21,AV.val d9 (0:Int))] [(1,i6.var ToT (aO,ab,()))])))):=by kernel_rfl
def NN (v3:Int) (ve:List (Int×yY×Unit)) (v20:Int) (v21:Int) (eG:Int) (cX:List (Int×yY×Unit)):St:=St.mk [(1,AV.ptr 1 []),(3,AV.val d9 v3),(19,AV.val M6 ve),(20,AV.val d9 v20),(21,AV.val d9 v21)] [(1,i6.var ToT (eG,cX,()))]
theorem Wk (v3:Int) (ve:List (Int×yY×Unit)) (v20:Int) (v21:Int) (eG:Int) (cX:List (Int×yY×Unit)):exec Dd 1000 (.code (g8 (d8 Tryz.prog 96) 7).1::.inLoop (g8 (d8 Tryz.prog 96) 7).1::(g8 (d8 Tryz.prog 96) 7).2) (NN v3 ve v20 v21 eG cX) =
  cond (decide (v21<v20)) (.f8 ((0:Int)<=v21/\v21<(↑(List.length ve):Int)) (cond (decide (Prod.fst (List.getD ve (Int.toNat v21) ((0:Int),[],()))<=v3)) (.ret (((4:Int),()))) (.f8 (r9 IntKind.i64 (eG+(16:Int))) (cond (decide (eG+(16:Int)<=Prod.fst (List.getD ve (Int.toNat v21) ((0:Int),[],())))) (.ret (((4:Int),()))) (.f8 (True) (cond (E7 (List.getD ve (Int.toNat v21) ((0:Int),[],())).2.1) (.ret (((4:Int),()))) (.f8 (r9 IntKind.i64 (v21+(1:Int))) (.ctL (g8 (d8 Tryz.prog 96) 7) (St.mk [(1,AV.ptr 1 []),(3,AV.val d9 (List.getD ve (Int.toNat v21) ((0:Int),[],())).1),(19,AV.val M6 ve),(20,AV.val d9 v20),(21,AV.val d9 (v21+(1:Int)))] [(1,i6.var ToT (eG,cX,()))]))))))))) (.ret (((0:Int),()))):=by kernel_rfl
theorem c1D:Gs.Valid Tryz.prog 96:=by
  refine p7.n8 IE rfl rfl Tryz.func96 (c:=d8 Tryz.prog 96) rfl rfl IJ rfl ?_;rintro ⟨⟨(r:Int),(l:List w4),⟨⟩⟩,⟨⟩⟩ - -
  refine j6 (n:=1000) IE IJ ?_;refine i7 (VJ r l) ?_;have key:∀ {x:Int},toE (r,l,())=x->((x,()):Int×Unit)=(toE (r,l,()),()):=by rintro x rfl; rfl
  have hd:toE (r,l,())=if Z4 r 0 16777215=false then 1 else if (16:Int)<l.length then 2 else T8 (xP r l) l.length:=rfl
  simp only [j7,Tree.holds,sL];refine ⟨λ a=>key (by rw [hd,if_pos a]),λ a=>?_⟩;have hr:=xb.1 a;rw [if_neg (lnf a)] at hd;refine ⟨λ a=>key (by rw [hd,if_pos a]),λ a=>?_⟩;rw [if_neg a] at hd;refine Reach.M7 IE IJ (λ i:Nat=>NN (zJ r l i) l (l.length:Int) (i:Int) r l) (λ i=>i<=l.length/\T8 (xP r l) i=0) (λ i=>l.length - i) 1000 (λ _=>⟨s9 rfl,s9 rfl⟩) ?_ 0 ⟨by omega,rfl⟩;rintro i ⟨k1,k2⟩ - ih;have k1:i<=l.length:=k1;refine i7 (Wk ..) ?_;simp only [j7,Tree.holds,sL];have hE:xP r l i=if (l.getD i (0,[],())).1<=zJ r l i then 4 else if r+16<=(l.getD i (0,[],())).1 then 4 else if E7 (l.getD i (0,[],())).2.1=true then 4 else 0:=rfl
  have hB:zJ r l (i+1)=(l.getD i (0,[],())).1:=rfl;have stop:xP r l i=4->i<l.length->toE (r,l,())=4:=λ h9 hi=>by rw [hd,TJ k2 (by rw [h9]; decide) hi,h9]
  have next:=λ(h:xP r l i=0) (hi:i<l.length)=>ih (i+1) ⟨by omega,TH k2 h⟩ (by omega)
  rw [hB] at next
  generalize l.getD i (0,[],())=w at *
  obtain ⟨q,x,u⟩:=w;simp only at hE next ⊢
  refine ⟨λ c=>⟨by omega,λ _=>⟨λ c1=>key (stop (by rw [hE,if_pos c1]) (by omega)),λ c1=>⟨by omega,λ _=>⟨λ c2=>key (stop (by rw [hE,if_neg c1,if_pos c2]) (by omega)),λ c2=>⟨λ c3=>key (stop (by rw [hE,if_neg c1,if_neg c2,if_pos c3]) (by omega)),λ c3=>⟨by omega,λ _=>next (by rw [hE,if_neg c1,if_neg c2,if_neg (by rw [c3]; simp)]) (by omega)⟩⟩⟩⟩⟩⟩,λ c=>key (by rw [hd,show l.length=i by omega,k2])⟩
def Gj (p:w4) (n:Int):Int:=p.1 - n
def Hm:p7:={ ps:=[.v r8,.v d9],rs:=[d9],pre:=λ x=>(LE.le (α:=Int) (-100000000) x.1.1/\LE.le (α:=Int) x.1.1 100000000)/\(LE.le (α:=Int) (-100000000) x.2.1/\LE.le (α:=Int) x.2.1 100000000),fn:=λ x=>(Gj x.1 x.2.1,()),out:=λ _=>() }
noncomputable def GR:Env:={ P:=Tryz.prog,tt:=tt,C9:=[],res:=[Go.ResultVar.tmp 4],rs:=[Ty.int IntKind.i64],ps:=[PK.v r8,PK.v d9],B8:=[],nt:=9 }
theorem PU:w7 GR:=x6 r7 trivial
theorem PB:C0 GR Tryz.f99:=⟨rfl,rfl⟩
theorem Wb (aO:Int) (ab:yY) (x1:Int):exec GR 1000 [.code (d8 Tryz.prog 99)] (s5 Hm.ps (((aO,ab,()),x1,()))) =
  .f8 (r9 IntKind.i64 (aO - x1)) (.ret ((aO - x1,()))):=by kernel_rfl
theorem b8S:Hm.Valid Tryz.prog 99:=by
  refine p7.n8 PU rfl rfl Tryz.func99 (c:=d8 Tryz.prog 99) rfl rfl PB rfl ?_;rintro ⟨⟨(q:Int),(s:yY),⟨⟩⟩,(n:Int),⟨⟩⟩ ⟨⟨(h1:-100000000<=q),(h2:q<=100000000)⟩,(h3:-100000000<=n),(h4:n<=100000000)⟩ -
  refine j6 (n:=1000) PU PB ?_;refine i7 (Wb q s n) ?_;simp only [j7,Tree.holds,sL];exact ⟨by omega,λ _=>rfl⟩
def atF (n:Int) (l:List w4):Nat:=(l.takeWhile λ p=>decide (p.1<n)).length
theorem Ni {n:Int}:∀ {l:List w4} {i:Nat},i<=l.length->(∀ k,k<i->(l.getD k p00).1<n)->(i<l.length->n<=(l.getD i p00).1)->atF n l=i
  | [],i,hi,_,_=>by simp at hi; subst hi; rfl
  | p::l,0,_,_,h=>by
    have:=h (by simp);rw [atF,aHv,if_neg]
    . rfl
    . rw [decide_eq_true_eq]; show ¬ p.1<n; exact Int.not_lt.2 this
  | p::l,i+1,hi,h1,h2=>by
    have h0:p.1<n:=h1 0 (by omega);have:=Ni (l:=l) (i:=i) (by simpa using hi) (λ k hk=>h1 (k+1) (by omega)) (λ hk=>h2 (by simpa using hk));rw [atF,aHv,if_pos (decide_eq_true h0),aAh];rw [atF] at this; omega
def sorted (l:List w4):Prop:=(∀ i j,i<j->j<l.length->(l.getD i p00).1<(l.getD j p00).1)/\(∀ i,i<l.length->-100000000<=(l.getD i p00).1/\(l.getD i p00).1<=100000000)
def Z9 (n:Int) (l:List w4):Bool:=decide (atF n l<l.length) && decide ((l.getD (atF n l) p00).1 - n=0)
def FX:p7:={ ps:=[.v (.d0 false r8),.v d9,.C7 99 []],rs:=[d9,.bool],pre:=λ x=>(List.length (α:=w4) x.1<=1000/\sorted x.1)/\(LE.le (α:=Int) (-100000000) x.2.1/\LE.le (α:=Int) x.2.1 100000000),fn:=λ x=>((atF x.2.1 x.1:Int),Z9 x.2.1 x.1,()),out:=λ _=>() }
noncomputable def Db:Env:={ P:=Tryz.prog,tt:=tt,C9:=[(99,Hm)],res:=[Go.ResultVar.tmp 6,Go.ResultVar.tmp 7],rs:=[Ty.int IntKind.i64,Ty.bool],ps:=[PK.v M6,PK.v d9,PK.C7 99 []],B8:=[(3,[(0,none),(1,none),(2,none),(8,none),(9,none),(10,none)])],nt:=49 }
theorem IA:w7 Db:=x6 r7 ⟨b8S,trivial⟩
theorem II:C0 Db Tryz.f98:=⟨rfl,rfl⟩
theorem Vy (x0:List (Int×yY×Unit)) (x1:Int):exec Db 1000 [.code (d8 Tryz.prog 98)] (s5 FX.ps ((x0,x1,(),()))) =
  .ctL (g8 (d8 Tryz.prog 98) 3) (St.mk [(0,AV.val M6 x0),(1,AV.val d9 x1),(2,AV.C7 99 AV.nil),(8,AV.val d9 (↑(List.length x0):Int)),(9,AV.val d9 (0:Int)),(10,AV.val d9 (↑(List.length x0):Int))] []):=by kernel_rfl
def Oi (v0:List (Int×yY×Unit)) (v1:Int) (v8:Int) (v9:Int) (v10:Int):St:=St.mk [(0,AV.val M6 v0),(1,AV.val d9 v1),(2,AV.C7 99 AV.nil),(8,AV.val d9 v8),(9,AV.val d9 v9),(10,AV.val d9 v10)] []
theorem WJ (v0:List (Int×yY×Unit)) (v1:Int) (v8:Int) (v9:Int) (v10:Int):exec Db 1000 (.code (g8 (d8 Tryz.prog 98) 3).1::.inLoop (g8 (d8 Tryz.prog 98) 3).1::(g8 (d8 Tryz.prog 98) 3).2) (Oi v0 v1 v8 v9 v10) =
  cond (decide (v9<v10)) (.f8 (r9 IntKind.i64 (v9+v10)) (.f8 ((0:Int)<=(1:Int)) (.f8 ((0:Int)<=IntKind.wrap IntKind.i64 (IntKind.wrap IntKind.u64 (v9+v10) / (2:Int)^min (Int.toNat (1:Int)) (IntKind.bits IntKind.u64))/\IntKind.wrap IntKind.i64 (IntKind.wrap IntKind.u64 (v9+v10) / (2:Int)^min (Int.toNat (1:Int)) (IntKind.bits IntKind.u64))<(↑(List.length v0):Int)) (.f8 (((-100000000:Int)<=Prod.fst (List.getD v0 (Int.toNat (IntKind.wrap IntKind.i64 (IntKind.wrap IntKind.u64 (v9+v10) / (2:Int)^min (Int.toNat (1:Int)) (IntKind.bits IntKind.u64)))) ((0:Int),[],()))/\Prod.fst (List.getD v0 (Int.toNat (IntKind.wrap IntKind.i64 (IntKind.wrap IntKind.u64 (v9+v10) / (2:Int)^min (Int.toNat (1:Int)) (IntKind.bits IntKind.u64)))) ((0:Int),[],()))<=(100000000:Int))/\(-100000000:Int)<=v1/\v1<=(100000000:Int)) (cond (decide (Gj (List.getD v0 (Int.toNat (IntKind.wrap IntKind.i64 (IntKind.wrap IntKind.u64 (v9+v10) / (2:Int)^min (Int.toNat (1:Int)) (IntKind.bits IntKind.u64)))) ((0:Int),[],())) v1<(0:Int))) (.f8 (r9 IntKind.i64 (IntKind.wrap IntKind.i64 (IntKind.wrap IntKind.u64 (v9+v10) / (2:Int)^min (Int.toNat (1:Int)) (IntKind.bits IntKind.u64))+(1:Int))) (.ctL (g8 (d8 Tryz.prog 98) 3) (St.mk [(0,AV.val M6 v0),(1,AV.val d9 v1),(2,AV.C7 99 AV.nil),(8,AV.val d9 v8),(9,AV.val d9 (IntKind.wrap IntKind.i64 (IntKind.wrap IntKind.u64 (v9+v10) / (2:Int)^min (Int.toNat (1:Int)) (IntKind.bits IntKind.u64))+(1:Int))),(10,AV.val d9 v10)] []))) (.ctL (g8 (d8 Tryz.prog 98) 3) (St.mk [(0,AV.val M6 v0),(1,AV.val d9 v1),(2,AV.C7 99 AV.nil),(8,AV.val d9 v8),(9,AV.val d9 v9),(10,AV.val d9 (IntKind.wrap IntKind.i64 (IntKind.wrap IntKind.u64 (v9+v10) / (2:Int)^min (Int.toNat (1:Int)) (IntKind.bits IntKind.u64))))] []))))))) (cond (decide (v9<v8)) (.f8 ((0:Int)<=v9/\v9<(↑(List.length v0):Int)) (.f8 (((-100000000:Int)<=Prod.fst (List.getD v0 (Int.toNat v9) ((0:Int),[],()))/\Prod.fst (List.getD v0 (Int.toNat v9) ((0:Int),[],()))<=(100000000:Int))/\(-100000000:Int)<=v1/\v1<=(100000000:Int)) (.ret ((v9,decide (Gj (List.getD v0 (Int.toNat v9) ((0:Int),[],())) v1=(0:Int)),()))))) (.ret ((v9,false,())))):=by kernel_rfl
theorem c2m:FX.Valid Tryz.prog 98:=by
  refine p7.n8 IA rfl rfl Tryz.func98 (c:=d8 Tryz.prog 98) rfl rfl II rfl ?_;rintro ⟨(l:List w4),(n:Int),⟨⟩,⟨⟩⟩ ⟨⟨(h0:l.length<=1000),(hs:sorted l)⟩,(h1:-100000000<=n),(h2:n<=100000000)⟩ -
  refine j6 (n:=1000) IA II ?_;refine i7 (Vy l n) ?_;refine Reach.M7 IA II (λ s:Nat×Nat=>Oi l n (l.length:Int) (s.1:Int) (s.2:Int)) (λ s=>s.1<=s.2/\s.2<=l.length/\(∀ k,k<s.1->(l.getD k p00).1<n)/\(∀ k,s.2<=k->k<l.length->n<=(l.getD k p00).1)) (λ s=>s.2 - s.1) 1000 (λ _=>⟨s9 rfl,s9 rfl⟩) ?_ (0,l.length) ⟨aAz _,aAj _,λ k hk=>by omega,λ k hk eW=>by omega⟩;rintro ⟨i,j⟩ ⟨k1,k2,k3,k4⟩ - ih;have k1:i<=j:=k1;have k2:j<=l.length:=k2;have k3:∀ k,k<i->(l.getD k p00).1<n:=k3;have k4:∀ k,j<=k->k<l.length->n<=(l.getD k p00).1:=k4;refine i7 (WJ ..) ?_;have hh:IntKind.wrap .i64 (IntKind.wrap .u64 ((i:Int)+(j:Int)) / 2^min (Int.toNat 1) (IntKind.bits .u64))=(((i+j) / 2:Nat):Int):=by
    rw [U2 (k:=.u64) (by show (0:Int)<=_/\_<=(18446744073709551615:Int); omega)];rw [show (2:Int)^min (Int.toNat 1) (IntKind.bits .u64)=2 from rfl];rw [U2 (k:=.i64) (by show (-9223372036854775808:Int)<=_/\_<=(9223372036854775807:Int); omega)];omega
  rw [show ((i,j):Nat×Nat).1=i from rfl,show ((i,j):Nat×Nat).2=j from rfl,hh];simp only [j7,Tree.holds,sL];refine ⟨λ c=>⟨by omega,λ _=>⟨by omega,λ _=>?_⟩⟩,λ c=>?_⟩
  . have hm:(i+j) / 2<l.length:=by omega
    have lJ:=hs.2 _ hm;have e0:l.getD ((i+j) / 2) (0,[],())=l.getD ((i+j) / 2) p00:=rfl;rw [e0];refine ⟨⟨by omega,by omega⟩,λ _=>⟨⟨lJ,h1,h2⟩,λ _=>⟨λ d=>⟨by omega,λ _=>?_⟩,λ d=>?_⟩⟩⟩
    . have d:(l.getD ((i+j) / 2) p00).1 - n<0:=d;exact ih ((i+j) / 2+1,j) ⟨by show (i+j) / 2+1<=j; omega,k2,λ k hk=>(by
        have hk:k<(i+j) / 2+1:=hk;by_cases e:k=(i+j) / 2
        . subst e; omega
        . have:=hs.1 k ((i+j) / 2) (by omega) hm; omega),k4⟩ (by show j - ((i+j) / 2+1)<j - i; omega)
    . have d:¬ (l.getD ((i+j) / 2) p00).1 - n<0:=d;exact ih (i,(i+j) / 2) ⟨by show i<=(i+j) / 2; omega,by show (i+j) / 2<=l.length; omega,k3,λ k hk eW=>(by
        have hk:(i+j) / 2<=k:=hk;by_cases e:k=(i+j) / 2
        . subst e; omega
        . have:=hs.1 ((i+j) / 2) k (by omega) eW; omega)⟩ (by show (i+j) / 2 - i<j - i; omega)
  . have e:j=i:=by omega
    subst e;have jI:atF n l=j:=Ni k2 k3 (λ h=>k4 j (aAj _) h);have key:∀ {x:Bool},Z9 n l=x->(((j:Int),x,()):Int×Bool×Unit)=((atF n l:Int),Z9 n l,()):=by rintro x rfl; rw [jI]
    have hk:Z9 n l=(decide (j<l.length) && decide ((l.getD j p00).1 - n=0)):=by rw [Z9,jI]
    refine ⟨λ d=>⟨by omega,λ _=>⟨⟨hs.2 j (by omega),h1,h2⟩,λ _=>key ?_⟩⟩,λ d=>key ?_⟩
    . rw [hk,decide_eq_true (show j<l.length by omega),aEj]; rfl
    . rw [hk,decide_eq_false (show ¬ j<l.length by omega)]; rfl
theorem Qf {a b:w4}:F5 r8 a b=true↔a=b:=by
  obtain ⟨a1,a2,a3⟩:=a;obtain ⟨b1,b2,b3⟩:=b;show (decide (a1=b1) && (decide ((a2:yY)=b2) && decide ((a3:Unit)=b3)))=true↔_;rw [aAa,aAa,decide_eq_true_eq,decide_eq_true_eq];constructor
  . rintro ⟨rfl,rfl,_⟩; rfl
  . intro h; cases h; exact ⟨rfl,rfl,by simp⟩
theorem ZE {a b:w4} (d:F5 r8 a b=false):¬ a=b:=λ h=>by rw [Qf.2 h] at d; cases d
end Go.Proofs.YtijlnmgondibnaaGreatDoor
namespace Go.Proofs.YtijlnmgondibnaaGreatDoor
open Go.Ex
def E4:List w4->Int->Int×List w4×List yY
  | [],n=>(n,[],[])
  | p::l,n=>if p.1=n then ((E4 l (n+1)).1,(E4 l (n+1)).2.1,p.2.1::(E4 l (n+1)).2.2) else (n,p::l,[])
def ym (b:Int):List w4->Prop
  | []=>True
  | p::l=>b<p.1/\ym p.1 l
theorem JT {b:Int}:∀ {l:List w4} {p:w4},ym b l->p∈l->b<p.1
  | q::l,p,⟨h1,h2⟩,hp=>by
    rcases aAp.1 hp with rfl|hp
    . exact h1
    . have:=JT h2 hp; omega
theorem Pa:∀ {l:List w4} {n:Int},ym (n - 1) l->ym (E4 l n).1 (E4 l n).2.1/\(E4 l n).1=n+(E4 l n).2.2.length/\(E4 l n).2.1.length+(E4 l n).2.2.length=l.length/\(∀ p∈(E4 l n).2.1,p∈l)
  | [],n,_=>⟨trivial,by simp [E4],by simp [E4],by simp [E4]⟩
  | p::l,n,⟨h1,h2⟩=>by
    rw [E4];by_cases e:p.1=n
    . rw [if_pos e];obtain ⟨a1,a2,a3,a4⟩:=Pa (l:=l) (n:=n+1) (by rw [show n+1 - 1=p.1 by omega]; exact h2);refine ⟨a1,?_,?_,λ q hq=>aBd _ (a4 q hq)⟩
      . show (E4 l (n+1)).1=n+((p.2.1::(E4 l (n+1)).2.2).length:Int);rw [aAh]; omega
      . show (E4 l (n+1)).2.1.length+(p.2.1::(E4 l (n+1)).2.2).length=(p::l).length;rw [aAh,aAh]; omega
    . rw [if_neg e];exact ⟨⟨by show n<p.1; omega,h2⟩,by simp,by simp,λ q hq=>hq⟩
theorem QF {c:Int}:∀ {l:List w4} {b:Int},ym b l->(∀ p∈l,p.1<c)->l≠[]->(l.length:Int)+b<c
  | [p],b,⟨h1,_⟩,h,_=>by have:=h p aBp; show ((1:Nat):Int)+b<c; omega
  | p::x::l,b,⟨h1,h2⟩,h,_=>by
    have:=QF (l:=x::l) h2 (λ y hy=>h y (aBd _ hy)) (by simp);rw [aAh]; omega
def xk (p:w4) (l:List w4):List w4:=l.take (atF p.1 l)++p::l.drop (atF p.1 l)
theorem Zn {p y:w4} {l:List w4}:y∈xk p l↔y=p\/y∈l:=by
  have h:y∈l↔y∈l.take (atF p.1 l)\/y∈l.drop (atF p.1 l):=by rw [<- aAi,aBv]
  rw [xk,aAi,aAp,h];constructor
  . rintro (a|a|a)
    . exact .inr (.inl a)
    . exact .inl a
    . exact .inr (.inr a)
  . rintro (a|a|a)
    . exact .inr (.inl a)
    . exact .inl a
    . exact .inr (.inr a)
theorem Zm {p:w4} {l:List w4}:(xk p l).length=l.length+1:=by
  rw [xk,aAe,aAh,aAk,aAq]; omega
theorem Co:∀ {l:List w4} {b:Int},ym b l↔∀ i,i<l.length->zJ b l i<(l.getD i p00).1
  | [],b=>⟨λ _ i hi=>absurd hi (Nat.not_lt_zero _),λ _=>trivial⟩
  | p::l,b=>by
    constructor
    . rintro ⟨h1,h2⟩ i hi
      match i,hi with
      | 0,_=>exact h1
      | 1,hi=>exact (Co.1 h2) 0 (by simpa using hi)
      | i+2,hi=>exact (Co.1 h2) (i+1) (by rw [aAh] at hi; omega)
    . intro h;refine ⟨h 0 (by simp),Co.2 λ i hi=>?_⟩
      match i,hi with
      | 0,hi=>exact h 1 (by simpa using hi)
      | i+1,hi=>exact h (i+2) (by rw [aAh]; omega)
structure AZ (r:Int) (l:List w4):Prop where
  rg:0<=r/\r<=16777215
  len:l.length<=16
  up:ym r l
  b:∀ p∈l,p.1<r+16/\E7 p.2.1=false
theorem IX {r:Int} {l:List w4} {u:Unit}:toE (r,l,u)=0↔AZ r l:=by
  have hd:toE (r,l,u)=if Z4 r 0 16777215=false then 1 else if (16:Int)<l.length then 2 else T8 (xP r l) l.length:=rfl
  rw [hd];constructor
  . intro h;split at h
    . cases h
    rename_i c1;split at h
    . cases h
    rename_i c2;have h:=FD.1 h;have hE:∀ i,i<l.length->zJ r l i<(l.getD i p00).1/\(l.getD i p00).1<r+16/\E7 (l.getD i p00).2.1=false:=λ i hi=>by
      have:=h i hi;unfold xP at this;split at this
      . cases this
      split at this
      . cases this
      split at this
      . cases this
      rename_i d1 d2 d3;exact ⟨by omega,by omega,by simpa using d3⟩
    refine ⟨xb.1 (aEm _▸c1),by omega,Co.2 λ i hi=>(hE i hi).1,λ p hp=>?_⟩;obtain ⟨i,hi,rfl⟩:=aHx hp;have:=hE i hi;rw [aAb,aAf hi] at this;exact this.2
  . intro h;rw [if_neg (by rw [xb.2 h.rg]; simp),if_neg (by have:=h.len; omega)];refine FD.2 λ i hi=>?_;have h1:=Co.1 h.up i hi;obtain ⟨h2,h3⟩:=h.b (l.getD i p00) (EJ hi);rw [xP,if_neg (by omega),if_neg (by omega),if_neg (by rw [h3]; simp)]
theorem b8m {l:List w4}:∀ {b:Int},ym b l->∀ i j,i<j->j<l.length->(l.getD i p00).1<(l.getD j p00).1:=by
  induction l with
  | nil=>intro b _ i j _ h; exact absurd h (Nat.not_lt_zero _)
  | cons p l ih =>
    rintro b ⟨h1,h2⟩ i j bS hj
    match i,j,bS,hj with
    | 0,j+1,_,hj=>exact JT h2 (EJ (by simpa using hj))
    | i+1,j+1,bS,hj=>exact ih h2 i j (by omega) (by simpa using hj)
end Go.Proofs.YtijlnmgondibnaaGreatDoor
namespace Go.Proofs.YtijlnmgondibnaaGreatDoor
open Go.Ex
def D9 (s:ToD) (p:w4):ToD×List yY×Int×Unit :=
  if toE s≠0 then (t00,[],toE s,()) else if Z4 p.1 0 16777214=false then (t00,[],1,()) else if E7 p.2.1=true then (t00,[],2,()) else
  if p.1<s.1\/s.1+16<=p.1\/Z9 p.1 s.2.1=true then (s,[],0,()) else if s.1<p.1 then ((s.1,xk p s.2.1,()),[],0,()) else
  (((E4 s.2.1 (s.1+1)).1,(E4 s.2.1 (s.1+1)).2.1,()),p.2.1::(E4 s.2.1 (s.1+1)).2.2,0,())
theorem Zu {r:Int} {l:List w4} {p:w4} (h:AZ r l) (h1:0<=p.1/\p.1<=16777214) (h2:E7 p.2.1=false):D9 (r,l,()) p =
    if p.1<r\/r+16<=p.1\/Z9 p.1 l=true then ((r,l,()),[],0,()) else if r<p.1 then ((r,xk p l,()),[],0,()) else
    (((E4 l (r+1)).1,(E4 l (r+1)).2.1,()),p.2.1::(E4 l (r+1)).2.2,0,()):=by
  rw [D9,if_neg (by simp [IX.2 h]),if_neg (by rw [xb.2 h1]; simp),if_neg (by rw [h2]; simp)]
theorem c36 {s:ToD} {p:w4} (h:(D9 s p).2.2.1≠0):(D9 s p).2.1=[]:=by
  by_cases c1:toE s≠0
  . rw [D9,if_pos c1]
  by_cases c2:Z4 p.1 0 16777214=false
  . rw [D9,if_neg c1,if_pos c2]
  by_cases c3:E7 p.2.1=true
  . rw [D9,if_neg c1,if_neg c2,if_pos c3]
  by_cases c4:p.1<s.1\/s.1+16<=p.1\/Z9 p.1 s.2.1=true
  . rw [D9,if_neg c1,if_neg c2,if_neg c3,if_pos c4]
  by_cases c5:s.1<p.1
  . rw [D9,if_neg c1,if_neg c2,if_neg c3,if_neg c4,if_pos c5]
  . rw [D9,if_neg c1,if_neg c2,if_neg c3,if_neg c4,if_neg c5] at h; exact absurd rfl h
end Go.Proofs.YtijlnmgondibnaaGreatDoor
set_option linter.unusedVariables false
set_option linter.unusedSimpArgs false
namespace Go.Proofs.YtijlnmgondibnaaGreatDoor
open Go Go.Shelf Go.RowKit Go.Lib
theorem b5F {P:Program} (w:World) {o:Oper} {a:Act} {K:Act->World->Prop} {Q:Exit->Act->World->Prop} (d s:Operand) (t t':TypeId)
    (ho:o.op=.call { callee:=.builtin .copy,args:=#[d,s],argTypes:=#[t,t'] }) (v u:Value) (hd:a.eval d=v) (hs:a.eval s=u) {v':Value} {w':World}
    (hr:(Builtin.copy_ #[t,t'] o.type #[v,u]).run P w=.ok v' w') (h:K (a.put o.dst v') w'):o.wp P a w K Q:=by
  unfold Oper.wp execOp;simp only [ho,resolve,invoke,builtin,Sem.run_bind,Sem.run_pure,Result.andThen_ok,List.map_toArray,aDb,aHj,hd,hs,hr];exact h
theorem UO {P:Program} (w:World) {ops:Array Oper} {rest:List Oper} {o:Oper} {a:Act} {Q:Exit->Act->World->Prop} (ng:o.guard=none) (d s:Operand) (t t':TypeId)
    (ho:o.op=.call { callee:=.builtin .copy,args:=#[d,s],argTypes:=#[t,t'] }) (v u:Value) (hd:a.eval d=v) (hs:a.eval s=u) {v':Value} {w':World}
    (hr:(Builtin.copy_ #[t,t'] o.type #[v,u]).run P w=.ok v' w') (h:wpList P ops Q rest (a.put o.dst v') w'):wpList P ops Q (o::rest) a w :=
  wpList_plain ng λ _ hK=>b5F w d s t t' ho v u hd hs hr (hK _ _ h)
theorem UM {P:Program} {ops:Array Oper} {o:Oper} {a:Act} {w:World} {K:Act->World->Prop} {Q:Exit->Act->World->Prop} {E:Prop}
    (hg:o.guard=none) (d x:Operand) (dT sT:TypeId) (cw:o.op=Op.call { callee:=Callee.builtin Builtin.copy,args:=#[d,x],argTypes:=#[dT,sT] })
    (v u:Value) (hd:a.eval d=v) (hx:a.eval x=u) {v':Value} {w':World} (hr:(Builtin.copy_ #[dT,sT] o.type #[v,u]).run P w=.ok v' w') (hK:K (a.put o.dst v') w') :
    if Region.wanted o (yielded ops a.tmps)=true then Oper.wp P o a w K Q else E:=by
  have hw:Region.wanted o (yielded ops a.tmps)=true:=by simp [Region.wanted,hg]
  rw [if_pos hw];unfold Oper.wp;simp [execOp,cw,resolve,invoke,builtin,hd,hx,hr,Result.andThen];exact hK
theorem FN (b:Nat) (vs:List Value) (o:Nat) (w:World) (h:∀ j,j<vs.length->(w.cell? ⟨b,o+j,none⟩).isSome=true) (k:Nat) (hk:(w.cell? ⟨b,k,none⟩).isSome=true):((w.setCells b o vs).cell? ⟨b,k,none⟩).isSome=true:=by
  by_cases cT:o<=k/\k<o+vs.length
  . have:=World.cell?_setCells_in b vs o w h (k - o) (by omega);rw [show o+(k - o)=k by omega] at this;rw [this]; rfl
  . rw [World.cell?_setCells_out b vs o w ⟨b,k,none⟩ (λ _ _=>by show k<o\/o+vs.length<=k; omega)];exact hk
theorem Ft {P:Program} (w:World) (dT sT ty elem:TypeId) (k b o dLen dCap:Nat) (a:Addr) (sLen sCap:Nat) (cs:List Value)
    (hu:P.underlying dT=some (.slice elem)) (hs:(P.info? elem).map (·.size)=some k) (hn:cs.length=Nat.min sLen dLen*k)
    (eI:∀ j v,cs[j]?=some v->w.cell? (a.add j)=some v) (hc:∀ j,j<cs.length->(w.cell? ⟨b,o+j,none⟩).isSome=true) (hf:∀ j,j<cs.length->w.frozen? ⟨b,o+j,none⟩=false) (h1:∀ v∈cs,v.oneCell'=true) :
    (Builtin.copy_ #[dT,sT] ty #[.slice (some ⟨b,o,none⟩) dLen dCap,.slice (some a) sLen sCap]).run P w=.ok (goInt (Nat.min sLen dLen)) (w.setCells b o cs):=by
  have hl:=run_loadCells_list (P:=P) w a cs eI;have bQ:=run_storeCells_cells (P:=P) b o cs 0 w (by simpa using hc) (by simpa using hf) h1;cases hq:P.info? elem with
  | none=>simp [hq] at hs
  | some i =>
    have hi:i.size=k:=by simpa [hq] using hs
    rw [hn] at hl;simp [Builtin.copy_,run_underlying hu,Builtin.lenOf,Builtin.firstCells,sizeOf,typeInfo,hq,hi,hl,bQ]
set_option maxHeartbeats 4000000 in
set_option maxRecDepth 100000 in
theorem ZK (b off n c i vb voff vc:Nat) (cs vs:List Value) (w:World) (hi:i<n) (cr:n+1<=c) (tL:c<=9223372036854775807) (nR:vb≠b)
    (cD:cs.length=n*2) (iv:vs.length=2)
    (hcs:∀ j v,cs[j]?=some v->w.cell? ⟨b,off+j,none⟩=some v) (fA:∀ j,j<(n+1)*2->(w.cell? ⟨b,off+j,none⟩).isSome=true) (rA:∀ j,j<(n+1)*2->w.frozen? ⟨b,off+j,none⟩=false)
    (iU:∀ j v,vs[j]?=some v->w.cell? ⟨vb,voff+j,none⟩=some v) (lE:∀ v∈cs,v.oneCell'=true) (qQ:∀ v∈vs,v.oneCell'=true)
    (tA tB:TypeId) (kA kB:Nat) (ss:w.shape? vb=some (tA,kA)) (sr:w.shape? b=some (tB,kB)) (sZ:kB≠0) (tw:w.frozen? ⟨vb,voff,none⟩=false) (pZ:w.frozen? ⟨vb,kA,none⟩=false) :
    Calls Tryz.prog 100 #[.slice (some ⟨b,off,none⟩) n c,.int .i64 i,.slice (some ⟨vb,voff,none⟩) 1 vc] w λ e w' =>
      e=.returned (.slice (some ⟨b,off,none⟩) (n+1) c)/\w'=(w.drew.setCells b (off+(i+1)*2) (cs.drop (i*2))).setCells b (off+i*2) vs:=by
  have oI:¬ ((i:Int)=(n:Int)):=by omega
  have aW:(Tryz.prog.info? 104).map (·.size)=some 2:=by kernel_rfl
  have nX:∀ lb cb,(callFunc 111 #[.slice (some ⟨vb,voff,none⟩) 1 vc,.slice (some ⟨b,off+(i+1)*2,none⟩) lb cb]).run Tryz.prog w=.ok (.value (.bool false)) w:=λ lb cb=>by
    rw [run_callFunc_extern Tryz.func111 (by kernel_rfl) (by kernel_rfl) (by kernel_rfl) (e:=Extern.SlicesOverlaps.overlaps #[81,81] #[4]) (by kernel_rfl),
      Lib.run_overlaps_apart w 81 4 104 Tryz.underlying81 2 Tryz.sizeOf104 ⟨vb,voff,none⟩ ⟨b,off+(i+1)*2,none⟩ 1 vc lb cb nR tA tB kA kB ss sr sZ tw pZ]
    rfl
  have ik:(cs.drop (i*2)).length=(n - i)*2:=by rw [aAq,cD]; omega
  have jN:IntKind.i64.wrap ((i:Int)+(1:Int))=(i:Int)+(1:Int):=by rw [IntKind.wrap_i64]; omega
  have dE:(0:Int)<=(i:Int)+(1:Int):=by omega
  have cT:i<=n:=by omega
  have qZ:((i:Int)+(1:Int)).toNat=i+1:=by omega
  have fx:¬ (c=i+1):=by omega
  have qx:(i:Int)<=(n:Int)+(1:Int):=by omega
  have uW:¬ (c=i):=by omega
  have nu:∀ ty dc sc,(Builtin.copy_ #[81,81] ty #[.slice (some ⟨b,off+(i+1)*2,none⟩) (n - i) dc,.slice (some ⟨b,off+i*2,none⟩) (n+1 - i) sc]).run Tryz.prog w.drew=.ok (goInt (Nat.min (n+1 - i) (n - i))) (w.drew.setCells b (off+(i+1)*2) (cs.drop (i*2))):=λ ty dc sc =>
    Ft w.drew _ _ ty 104 2 b (off+(i+1)*2) (n - i) dc ⟨b,off+i*2,none⟩ (n+1 - i) sc (cs.drop (i*2)) Tryz.underlying81 aW (by rw [ik]; simp only [aGn]; split<;>omega)
      (λ j v hj=>by rw [Addr.add_lit,aBk]; exact hcs (i*2+j) v (by rwa [aBi] at hj))
      (λ j hj=>by rw [aBk]; exact fA _ (by omega)) (λ j hj=>by rw [aBk]; exact rA _ (by omega)) (λ v hv=>lE v (aEt hv))
  obtain ⟨W1,gr⟩:∃ W1,W1=w.drew.setCells b (off+(i+1)*2) (cs.drop (i*2)):=⟨_,rfl⟩;have oT:∀ k,k<(n+1)*2->(W1.cell? ⟨b,off+k,none⟩).isSome=true:=λ k hk=>by
    rw [gr];exact FN b _ _ _ (λ j hj=>by rw [aBk]; exact fA _ (by omega)) _ (fA k hk)
  have qi:∀ (W:World),(∀ x,W.cell? x=W1.cell? x)->(∀ x,W.frozen? x=W1.frozen? x)->∀ ty dc,(Builtin.copy_ #[81,81] ty #[.slice (some ⟨b,off+i*2,none⟩) (n+1 - i) dc,.slice (some ⟨vb,voff,none⟩) 1 vc]).run Tryz.prog W=.ok (goInt (Nat.min 1 (n+1 - i))) (W.setCells b (off+i*2) vs):=λ W kv nE ty dc =>
    Ft W _ _ ty 104 2 b (off+i*2) (n+1 - i) dc ⟨vb,voff,none⟩ 1 vc vs Tryz.underlying81 aW (by rw [iv]; simp only [aGn]; split<;>omega)
      (λ j v hj=>by
        rw [Addr.add_lit,kv,gr,World.cell?_setCells_out b _ _ _ _ (λ h _=>absurd h nR)];exact iU j v hj)
      (λ j hj=>by rw [kv,aBk]; exact oT _ (by omega)) (λ j hj=>by rw [nE,gr,World.frozen?_setCells,aBk]; exact rA _ (by omega)) qQ
  rw [<- gr] at nu;have mixed:Tryz.prog.follows .mixedOrders=true:=by kernel_rfl
  go_enter Tryz.func100,Tryz.ntmps100
  go_wp2_with (simp only [nX])
  go_region_law_o (refine UM rfl _ _ 81 81 rfl _ _ (by simp [Act.eval,Act.put]) (by simp [Act.eval,Act.put]) (nu _ _ _) ?_)
  go_wp2_with (at_builtin; refine UO _ rfl _ _ 81 81 rfl _ _ rfl rfl (qi _ (λ _=>rfl) (λ _=>rfl) _ _) ?_)
  go_ret
  first|exact ⟨rfl,rfl⟩|exact ⟨rfl,by rw [gr]⟩
end Go.Proofs.YtijlnmgondibnaaGreatDoor
namespace Go.Proofs.YtijlnmgondibnaaGreatDoor
open Go Go.Shelf Go.RowKit Go.Lib
set_option linter.unusedVariables false
set_option linter.unusedSimpArgs false
theorem RO {z:Array Value} {k m:Nat} (h:z.size=k):(Builtin.zeroCells z m).size=m*k:=by
  simp [Builtin.zeroCells,h]
set_option maxHeartbeats 4000000 in
set_option maxRecDepth 100000 in
theorem Zo (b off n c i vb voff vc:Nat) (cs vs:List Value) (w:World) (hi:i<n) (uO:n<=c) (cr:c<n+1) (qv:(n+1)*24<=140737488355328)
    (cD:cs.length=n*2) (iv:vs.length=2)
    (hcs:∀ j v,cs[j]?=some v->w.cell? ⟨b,off+j,none⟩=some v)
    (iU:∀ j v,vs[j]?=some v->w.cell? ⟨vb,voff+j,none⟩=some v) (lE:∀ v∈cs,v.oneCell'=true) (qQ:∀ v∈vs,v.oneCell'=true) :
    Calls Tryz.prog 100 #[.slice (some ⟨b,off,none⟩) n c,.int .i64 i,.slice (some ⟨vb,voff,none⟩) 1 vc] w λ e w' =>
      ∃ G Z,n+1<=G/\G<=maxLen/\Z.size=(G - i)*2/\e=.returned (.slice (some ⟨w.heap.size,0,none⟩) (n+1) G) /\
      w'=(((w.alloc (.cells ((cs.take (i*2)).toArray++Z) 104)).drew.setCells w.heap.size (i*2) vs).drew).setCells w.heap.size ((i+1)*2) (cs.drop (i*2)):=by
  have aW:(Tryz.prog.info? 104).map (·.size)=some 2:=by kernel_rfl
  have eP:(Tryz.prog.info? 104).map (λ i=>(i.size,i.bytes,i.zero.map (λ z=>z.cells.size)))=some (2,24,some 2):=by kernel_rfl
  have mixed:Tryz.prog.follows .mixedOrders=true:=by kernel_rfl
  obtain ⟨i0,nd,nN,oH,z,ji,kz⟩:∃ i0,Tryz.prog.info? 104=some i0/\i0.size=2/\i0.bytes=24/\∃ z,i0.zero=some z/\z.cells.size=2:=by
    cases h:Tryz.prog.info? 104 with
    | none=>rw [h] at eP; cases eP
    | some i0 =>
      rw [h] at eP;simp only [aBe,aAc,aAx,aCl] at eP;obtain ⟨h1,h2,z,h3,h4⟩:=eP;exact ⟨i0,rfl,h1,h2,z,h3,h4⟩
  have oI:¬ ((i:Int)=(n:Int)):=by omega
  have uM:(c:Int)<(n:Int)+(1:Int):=by omega
  have tM:b<w.heap.size:=block_lt_of_cell (hcs 0 _ (aAf (by omega)));have dX:vb<w.heap.size:=block_lt_of_cell (iU 0 _ (aAf (by omega)));have mW:(n:Int)+(1:Int) - (i:Int)=((n+1 - i:Nat):Int):=by omega
  have kZ:i+(n+1 - i)=n+1:=by omega
  have jm:(cs.take (i*2)).length=i*2:=by rw [aAk,cD]; omega
  have hold:(Builtin.firstCells i0.size i (.slice (some ⟨b,off,none⟩) i c)).run Tryz.prog w.drew=.ok (cs.take (i*2)).toArray w.drew:=by
    rw [nN];exact run_firstCells_some w.drew 2 i ⟨b,off,none⟩ i c (cs.take (i*2)) jm (λ j v hj=>by
      rw [Addr.add_lit];rw [aBn] at hj;split at hj
      . exact hcs j v hj
      . cases hj)
  obtain ⟨G,hG⟩:∃ G,G=grownCap w (n+1) c 104:=⟨_,rfl⟩;have ui:n+1<=G:=by rw [hG]; exact grownCap_ge w _ _ _
  have oE:G<=maxLen:=by
    rw [hG]; exact grownCap_le_maxLen w (n+1) c 104 (by unfold maxLen; omega)
  have uk:G<=9223372036854775807:=oE;obtain ⟨Z,hZ⟩:∃ Z:Array Value,Z=Builtin.zeroCells z.cells (n+1 - i)++Builtin.zeroCells z.cells (G - (n+1)):=⟨_,rfl⟩;have qC:Z.size=(G - i)*2:=by rw [hZ,aFj,RO kz,RO kz]; omega
  have oV:∀ ty,(Builtin.append_ #[81,3] ty #[.slice (some ⟨b,off,none⟩) i c,.int .i64 ((n:Int)+(1:Int) - (i:Int))]).run Tryz.prog w =
      .ok (.slice (some ⟨w.heap.size,0,none⟩) (n+1) G) (w.drew.alloc (.cells ((cs.take (i*2)).toArray++Z) 104)):=λ ty=>by
    have h:=Lib.run_append_grow_zeros w 81 3 ty 104 i0 z .i64 .i64 Tryz.underlying81 Tryz.underlying3 nd ji (some ⟨b,off,none⟩) i c (cs.take (i*2)) hold (n+1 - i) (by omega) (by omega) (by omega) (by omega) (by rw [oH]; omega) (by rw [oH,kZ]; exact growslice_fits cr qv);rw [kZ,<- hG,Array.append_assoc,<- hZ] at h;rw [mW];exact h
  obtain ⟨ROW,jJ⟩:∃ ROW:Array Value,ROW=(cs.take (i*2)).toArray++Z:=⟨_,rfl⟩;rw [<- jJ] at oV;have qH:(n+1)*2<=ROW.size:=by
    rw [jJ,aFj,qC,aFh,jm];omega
  obtain ⟨W1,gr⟩:∃ W1,W1=w.drew.alloc (.cells ROW 104):=⟨_,rfl⟩;rw [<- gr] at oV;have hN:∀ j,j<(n+1)*2->(W1.cell? ⟨w.heap.size,j,none⟩).isSome=true:=λ j hj=>by
    rw [gr,World.cell?_alloc_at (w:=w.drew) ROW _ w.heap.size j rfl,aBy (by omega)]; rfl
  have rM:∀ j,W1.frozen? ⟨w.heap.size,j,none⟩=false:=λ j=>by rw [gr]; exact World.frozen?_alloc_at (w:=w.drew) ROW _ w.heap.size j rfl
  have oz:∀ j v,w.cell? ⟨b,j,none⟩=some v->W1.cell? ⟨b,j,none⟩=some v:=λ j v h=>by rw [gr,World.cell?_alloc_past (w:=w.drew) _ b j tM]; exact h
  have ua:∀ j v,w.cell? ⟨vb,j,none⟩=some v->W1.cell? ⟨vb,j,none⟩=some v:=λ j v h=>by rw [gr,World.cell?_alloc_past (w:=w.drew) _ vb j dX]; exact h
  have qh:∀ (W:World),(∀ x,W.cell? x=W1.cell? x)->(∀ x,W.frozen? x=W1.frozen? x)->∀ ty dc,(Builtin.copy_ #[81,81] ty #[.slice (some ⟨w.heap.size,i*2,none⟩) (n+1 - i) dc,.slice (some ⟨vb,voff,none⟩) 1 vc]).run Tryz.prog W=.ok (goInt (Nat.min 1 (n+1 - i))) (W.setCells w.heap.size (i*2) vs):=λ W kv nE ty dc =>
    Ft W _ _ ty 104 2 w.heap.size (i*2) (n+1 - i) dc ⟨vb,voff,none⟩ 1 vc vs Tryz.underlying81 aW (by rw [iv]; simp only [aGn]; split<;>omega)
      (λ j v hj=>by rw [Addr.add_lit,kv]; exact ua _ v (iU j v hj))
      (λ j hj=>by rw [kv]; exact hN _ (by omega)) (λ j hj=>by rw [nE]; exact rM _) qQ
  have uX:¬ (G=i):=by omega
  have uj:¬ (G=i+1):=by omega
  have kr:¬ (c=i):=by omega
  have tO:b≠w.heap.size:=by omega
  have ik:(cs.drop (i*2)).length=(n - i)*2:=by rw [aAq,cD]; omega
  have qg:∀ (W:World),(∀ x,W.cell? x=(W1.setCells w.heap.size (i*2) vs).cell? x)->(∀ x,W.frozen? x=(W1.setCells w.heap.size (i*2) vs).frozen? x)->∀ ty dc sc,(Builtin.copy_ #[81,81] ty #[.slice (some ⟨w.heap.size,(i+1)*2,none⟩) (n - i) dc,.slice (some ⟨b,off+i*2,none⟩) (n - i) sc]).run Tryz.prog W=.ok (goInt (Nat.min (n - i) (n - i))) (W.setCells w.heap.size ((i+1)*2) (cs.drop (i*2))):=λ W kv nE ty dc sc =>
    Ft W _ _ ty 104 2 w.heap.size ((i+1)*2) (n - i) dc ⟨b,off+i*2,none⟩ (n - i) sc (cs.drop (i*2)) Tryz.underlying81 aW (by rw [ik]; simp only [aGn]; split<;>omega)
      (λ j v hj=>by
        rw [Addr.add_lit,kv,World.cell?_setCells_out _ _ _ _ _ (λ h _=>absurd h tO),aBk];exact oz _ v (hcs (i*2+j) v (by rwa [aBi] at hj)))
      (λ j hj=>by rw [kv]; exact FN _ _ _ _ (λ t ht=>hN _ (by omega)) _ (hN _ (by omega)))
      (λ j hj=>by rw [nE,World.frozen?_setCells]; exact rM _) (λ v hv=>lE v (aEt hv))
  subst gr;have uo:∀ x,((w.alloc (.cells ROW 104)).drew).cell? x=(w.drew.alloc (.cells ROW 104)).cell? x:=λ x=>rfl;have um:∀ x,((w.alloc (.cells ROW 104)).drew).frozen? x=(w.drew.alloc (.cells ROW 104)).frozen? x:=λ x=>rfl;have nL:∀ x,(((w.alloc (.cells ROW 104)).drew.setCells w.heap.size (i*2) vs).drew).cell? x=((w.drew.alloc (.cells ROW 104)).setCells w.heap.size (i*2) vs).cell? x:=λ x=>rfl;have nK:∀ x,(((w.alloc (.cells ROW 104)).drew.setCells w.heap.size (i*2) vs).drew).frozen? x=((w.drew.alloc (.cells ROW 104)).setCells w.heap.size (i*2) vs).frozen? x:=λ x=>rfl;have jN:IntKind.i64.wrap ((i:Int)+(1:Int))=(i:Int)+(1:Int):=by rw [IntKind.wrap_i64]; omega
  have dE:(0:Int)<=(i:Int)+(1:Int):=by omega
  have cT:i<=n:=by omega
  have qZ:((i:Int)+(1:Int)).toNat=i+1:=by omega
  have qx:(i:Int)<=(n:Int):=by omega
  suffices eN:Calls Tryz.prog 100 #[.slice (some ⟨b,off,none⟩) n c,.int .i64 i,.slice (some ⟨vb,voff,none⟩) 1 vc] w λ e w'=>e=.returned (.slice (some ⟨w.heap.size,0,none⟩) (n+1) G) /\
      w'=(((w.alloc (.cells ROW 104)).drew.setCells w.heap.size (i*2) vs).drew).setCells w.heap.size ((i+1)*2) (cs.drop (i*2)) by
    refine eN.mono ?_;rintro e w' ⟨rfl,rfl⟩;exact ⟨G,Z,ui,oE,qC,rfl,by rw [<- jJ]⟩
  clear mW kZ hold qH eP aW nd ji nN oH kz hG hZ jJ qC
  go_enter Tryz.func100,Tryz.ntmps100
  go_wp2_with (first
    | (at_builtin; refine Lib.wpList_append_run _ rfl _ _ _ _ rfl _ _ rfl rfl _ _ (oV _) ?_)
    | (at_builtin; refine UO _ rfl _ _ 81 81 rfl _ _ rfl rfl (qh _ uo um _ _) ?_))
  go_region_law_o (refine UM rfl _ _ 81 81 rfl (.slice (some ⟨w.heap.size,(i+1)*2,none⟩) (n - i) (G - (i+1))) (.slice (some ⟨b,off+i*2,none⟩) (n - i) (c - i)) (by simp [Act.eval,Act.put]) (by simp [Act.eval,Act.put]) (qg _ nL nK 3 (G - (i+1)) (c - i)) ?_)
  go_wp2
  go_ret
  exact ⟨rfl,rfl⟩
end Go.Proofs.YtijlnmgondibnaaGreatDoor
namespace Go.Proofs.YtijlnmgondibnaaGreatDoor
open Go.Ex
set_option maxRecDepth 100000
abbrev D7:=Int×yY×Unit
def yX (l:List D7) (i:Int) (m:List D7):List D7:=l.take i.toNat++m++l.drop i.toNat
theorem CU (b:Nat):∀ (vs:List Value) (o:Nat) (w:World),(w.setCells b o vs).heap.size=w.heap.size/\(w.setCells b o vs).os=w.os/\(w.setCells b o vs).output=w.output/\(w.setCells b o vs).tape=w.tape/\(w.setCells b o vs).drawn=w.drawn /\
    (∀ c,c≠b->(w.setCells b o vs).heap[c]?=w.heap[c]?)/\∀ arr T fz,w.heap[b]?=some (.cells arr T fz)->∃ cZ,(w.setCells b o vs).heap[b]?=some (.cells cZ T fz)/\cZ.size=arr.size
  | [],_,_=>⟨rfl,rfl,rfl,rfl,rfl,λ _ _=>rfl,λ arr _ _ h=>⟨arr,h,rfl⟩⟩
  | v::r,o,w=>by
    obtain ⟨h1,h2,h3,h4,h5,h6,h7⟩:=CU b r (o+1) (w.setCell ⟨b,o,none⟩ v);have e1:(w.setCell ⟨b,o,none⟩ v).heap.size=w.heap.size:=by simp [World.setCell]
    have e2:∀ c,c≠b->(w.setCell ⟨b,o,none⟩ v).heap[c]?=w.heap[c]?:=λ c hc=>by
      simp only [World.setCell,aEq,if_neg (Ne.symm hc)]
    refine ⟨h1.trans e1,h2,h3,h4,h5,λ c hc=>(h6 c hc).trans (e2 c hc),λ arr T fz h=>?_⟩;have:(w.setCell ⟨b,o,none⟩ v).heap[b]?=some (.cells (arr.setIfInBounds o v) T fz):=by
      simp [World.setCell,aEq,h]
    obtain ⟨cZ,g1,g2⟩:=h7 _ T fz this;exact ⟨cZ,g1,by rw [g2,aGv]⟩
theorem Tb {w:World} {b off:Nat} {arr:Array Value} {T:TypeId} {fz:Nat×Nat} (h:w.heap[b]?=some (.cells arr T fz)) {F:List Value} {n:Nat} (hn:F.length=n) (hc:∀ j,j<n->w.cell? ⟨b,off+j,none⟩=F[j]?):e8 w.heap b off n=F:=by
  have bN:∀ k,w.cell? ⟨b,k,none⟩=arr[k]?:=λ k=>by simp [World.cell?,h]
  simp only [e8,w6,h];apply aDu;intro j;rw [aBn,aBi];by_cases hj:j<n
  . rw [if_pos hj,<- hc j hj,bN,aHm]
  . rw [if_neg hj,aBx (by omega)]
theorem Ta {α:Type} (A B C:List α) (j:Nat):(A++B++C)[j]?=if j<A.length then A[j]? else if j<A.length+B.length then B[j - A.length]? else C[j - (A.length+B.length)]?:=by
  rw [aHq,aHq,aAe]
  split<;>split<;>first|rfl|omega|(split<;>first|rfl|omega)
theorem OY {w:World} {S:Nat->Prop} {t:Ty} (ht:t.shared=true) {L:List Nat} {cs:List Value} {l:List t.den} (h:g9 w.heap S (.d0 true t) L cs l) (hl:0<l.length) :
    ∃ b off cap,L=[b]/\cs=[.slice (some ⟨b,off,none⟩) l.length cap]/\l.length<=cap/\zX true cap/\j5 (g9 w.heap S t) t.size [] (e8 w.heap b off (l.length*t.size)) l/\V4 t.isB w.heap b (off+cap*t.size):=by
  rcases h with ⟨_,_,rfl⟩|⟨b,off,cap,O',h1,h2,h3,h4,h5,h6,h7⟩
  . simp at hl
  have hO:O'=[]:=j5.O7 (λ _ _ _ hr=>g9.O7 ht hr) h5;subst hO;exact ⟨b,off,cap,h6,h1,h2,h3,h5,h7⟩
def Af:p7:={ ps:=[.own (.d0 true r8),.v d9,.own (.d0 true r8)],rs:=[.d0 true r8],pre:=λ x=>(LE.le (α:=Int) 0 x.2.1/\LT.lt (α:=Int) x.2.1 (List.length (α:=D7) x.1))/\List.length (α:=D7) x.1<=1000/\List.length (α:=D7) x.2.2.1=1,fn:=λ x=>(yX x.1 x.2.1 x.2.2.1,()),out:=λ _=>() }
theorem OZ {w w':World} {L:List Nat} (h1:w'.os=w.os) (h2:w'.tape=w.tape) (h3:w.drawn<=w'.drawn) (h4:w'.output=w.output) (h5:w.heap.size<=w'.heap.size) (h6:∀ c,c<w.heap.size->c∉L->w'.heap[c]?=w.heap[c]?):D0 L w w':=⟨h1,⟨h2,h3⟩,h4,h5,h6⟩
theorem Tz:Af.Valid Tryz.prog 100:=by
  refine ⟨⟨_,Tryz.func100,by kernel_rfl,by kernel_rfl⟩,?_,λ h=>by cases h⟩;rintro w S vs ⟨(l:List D7),(i0:Int),(m:List D7),⟨⟩⟩ L hS - ⟨⟨(p0:0<=i0),(p1:i0<(l.length:Int))⟩,(p2:l.length<=1000),(p3:m.length=1)⟩ lS - aJ hL;obtain ⟨v1,us,L1,L2,rfl,rfl,⟨cs1,rfl,r1⟩,v2,us,L3,L4,rfl,rfl,⟨rfl,cs2,rfl,r2⟩,v3,us,L5,L6,rfl,rfl,⟨cs3,rfl,r3⟩,rfl,rfl⟩:=lS;obtain ⟨i,rfl⟩:∃ i:Nat,i0=i:=⟨i0.toNat,by omega⟩;have r1:g9 w.heap S (.d0 true r8) L1 cs1 l:=r1;have r3:g9 w.heap S (.d0 true r8) L5 cs3 m:=r3;obtain ⟨b,off,cap,rfl,rfl,c2,c3,c4,c5⟩:=OY rfl r1 (by omega);obtain ⟨vb,voff,vc,rfl,rfl,d2,d3,d4,d5⟩:=OY rfl r3 (by omega);obtain ⟨-,rfl,-⟩:=r2;have aW:Ty.size r8=2:=rfl;have c4:j5 (g9 w.heap S r8) 2 [] (e8 w.heap b off (l.length*2)) l:=c4;have c5:V4 false w.heap b (off+cap*2):=c5;have d5:V4 false w.heap vb (voff+vc*2):=d5;have d4:j5 (g9 w.heap S r8) 2 [] (e8 w.heap vb voff (1*2)) m:=by rw [<- p3]; exact d4
  have nR:vb≠b:=by
    rintro rfl;simp at aJ
  have ot:=hL b (by simp);have kF:=hL vb (by simp);obtain ⟨arr,T,⟨fz,e1,ef⟩,en⟩:=c5;obtain rfl:fz=(0,0):=ef.elim id (λ h=>by cases h.1);obtain ⟨varr,vT,⟨vfz,g1,gf⟩,gn⟩:=d5;obtain rfl:vfz=(0,0):=gf.elim id (λ h=>by cases h.1);rw [p3];have cO:cap<=maxLen:=c3.1;have cD:(e8 w.heap b off (l.length*2)).length=l.length*2:=j5.length (λ _ _ _ h=>h.length) c4;have iv:(e8 w.heap vb voff (1*2)).length=2:=by have:=j5.length (λ _ _ _ h=>h.length) d4; rw [p3] at this; exact this
  have cd:=j5.plain (λ _ _ _ hr=>hr.plain) c4;have rj:=j5.plain (λ _ _ _ hr=>hr.plain) d4;have bN:∀ k,w.cell? ⟨b,k,none⟩=arr[k]?:=λ k=>by simp [World.cell?,e1]
  have lf:∀ k,w.frozen? ⟨b,k,none⟩=false:=λ k=>by simp [World.frozen?,e1]
  have nh:∀ k,w.frozen? ⟨vb,k,none⟩=false:=λ k=>by simp [World.frozen?,g1]
  have hcs:∀ j v,(e8 w.heap b off (l.length*2))[j]?=some v->w.cell? ⟨b,off+j,none⟩=some v:=λ j v h=>N3 h;have iU:∀ j v,(e8 w.heap vb voff (1*2))[j]?=some v->w.cell? ⟨vb,voff+j,none⟩=some v:=λ j v h=>N3 h;have jF:Af.fn (l,(i:Int),m,())=(l.take i++m++l.drop i,()):=rfl;have kj:i<l.length:=by omega
  obtain ⟨q1,q2⟩:j5 (g9 w.heap S r8) 2 [] ((e8 w.heap b off (l.length*2)).take (i*2)) (l.take i)/\j5 (g9 w.heap S r8) 2 [] ((e8 w.heap b off (l.length*2)).drop (i*2)) (l.drop i):=by
    obtain ⟨P1,P2,P3,e,k1,k2,k3⟩:=j5.split (d:=((0:Int),([]:yY),())) kj c4;have e:=e.symm;simp only [aBm] at e;obtain ⟨rfl,rfl,rfl⟩:=e;refine ⟨k1,?_⟩;have h9:l.drop i=l.getD i (0,[],())::l.drop (i+1):=by
      rw [aDy kj,aAb,aAf kj]; rfl
    rw [h9];refine ⟨[],[],rfl,k2,?_⟩;rw [aBj,show i*2+2=(i+1)*2 by omega];exact k3
  have oX:j5 (g9 w.heap S r8) 2 [] ((e8 w.heap b off (l.length*2)).take (i*2)++e8 w.heap vb voff (1*2)++(e8 w.heap b off (l.length*2)).drop (i*2)) (l.take i++m++l.drop i):=by
    have h1:=j5.append (λ _ _ _ h=>h.length) q1 d4;exact j5.append (λ _ _ _ h=>h.length) h1 q2
  have hlen:(l.take i++m++l.drop i).length=l.length+1:=by simp only [aAe,aAk,aAq]; omega
  have jm:((e8 w.heap b off (l.length*2)).take (i*2)).length=i*2:=by rw [aAk,cD]; omega
  have ik:((e8 w.heap b off (l.length*2)).drop (i*2)).length=(l.length - i)*2:=by rw [aAq,cD]; omega
  have fin:∀ {w':World} {c o G:Nat} {cZ:Array Value} {T':TypeId},D0 [b,vb] w w'->(c=b\/w.heap.size<=c)->l.length+1<=G->G<=maxLen->w'.heap[c]?=some (.cells cZ T' (0,0))->o+G*2<=cZ.size ->
      e8 w'.heap c o ((l.length+1)*2)=(e8 w.heap b off (l.length*2)).take (i*2)++e8 w.heap vb voff (1*2)++(e8 w.heap b off (l.length*2)).drop (i*2) ->
      xK w S Af.rs Af.ps [l5 (.d0 true r8) [.slice (some ⟨b,off,none⟩) l.length cap],l5 d9 [.int .i64 i],l5 (.d0 true r8) [.slice (some ⟨vb,voff,none⟩) 1 vc]] [b,vb] (Af.fn (l,(i:Int),m,())) (Af.out (l,(i:Int),m,())) (.returned (.slice (some ⟨c,o,none⟩) (l.length+1) G)) w':=by
    intro w' c o G cZ T' hp hc hG oE ha hs qo;have cg:∀ {cs:List Value} {l':List D7},j5 (g9 w.heap S r8) 2 [] cs l'->j5 (g9 w'.heap S r8) 2 [] cs l':=λ hr=>j5.mono (L:=[]) (λ _ h=>h) (λ O cs x hO hr=>hr.u5 (λ d hd=>by
      rcases hd with hd|hd
      . exact absurd (hO d hd) (by simp)
      . refine hp.frame d (hS d hd) (λ hm=>?_);rcases aAp.1 hm with rfl|hm
        . exact ot.1 hd
        . rw [aBg] at hm; subst hm; exact kF.1 hd) (λ _ h=>h)) hr
    refine ⟨[.slice (some ⟨c,o,none⟩) (l.length+1) G],[c],[],S,rfl,hp,λ _ h=>h,λ _ h=>.inl h,⟨_,[],[c],[],[.slice (some ⟨c,o,none⟩) (l.length+1) G],rfl,rfl,rfl,?_,rfl,rfl⟩,⟨_,_,rfl,_,_,rfl,_,_,rfl,rfl,rfl⟩,by simp,?_⟩
    . rw [jF];refine .inr ⟨c,o,G,[],by rw [hlen],by rw [hlen]; exact hG,⟨oE,λ _=>by omega⟩,?_,?_,rfl,cZ,T',⟨(0,0),ha,.inl rfl⟩,hs⟩
      . rw [hlen,aW]; simp only [w6,ha,aCw]; omega
      . rw [hlen,aW,qo]; exact cg oX
    . intro d hd;simp only [aBc,aBg] at hd;subst hd;refine ⟨λ h=>?_,?_,?_⟩
      . rcases hc with rfl|hc
        . exact ot.1 h
        . have:=hS d h; omega
      . rcases hc with rfl|hc
        . right; simp
        . left; exact hc
      . exact (aAo.1 ha).1
  by_cases cr:l.length+1<=cap
  . have jZ:(l.length+1)*2<=cap*2:=aAm _ cr;refine (ZK b off l.length cap i vb voff vc (e8 w.heap b off (l.length*2)) (e8 w.heap vb voff (1*2)) w kj cr cO nR cD iv hcs
      (λ j hj=>by rw [bN,aBy (by omega)]; rfl) (λ j _=>lf _) iU (λ v hv=>(cd v hv).1) (λ v hv=>(rj v hv).1)
      vT T varr.size arr.size (by simp [World.shape?,g1]) (by simp [World.shape?,e1]) (by omega) (nh _) (nh _)).mono ?_
    rintro e w' ⟨rfl,rfl⟩;obtain ⟨A1,A2,A3,A4,A5,A6,A7⟩:=CU b ((e8 w.heap b off (l.length*2)).drop (i*2)) (off+(i+1)*2) w.drew;obtain ⟨B1,B2,B3,B4,B5,B6,B7⟩:=CU b (e8 w.heap vb voff (1*2)) (off+i*2) (w.drew.setCells b (off+(i+1)*2) ((e8 w.heap b off (l.length*2)).drop (i*2)));obtain ⟨arr1,x1,x2⟩:=A7 arr T (0,0) e1;obtain ⟨arr2,y1,y2⟩:=B7 arr1 T (0,0) x1;have cm:∀ k,off+k<off+cap*2->(w.drew.cell? ⟨b,off+k,none⟩).isSome=true:=λ k hk=>by
      show (w.cell? ⟨b,off+k,none⟩).isSome=true;rw [bN,aBy (by omega)]; rfl
    have gx:∀ k,off+k<off+cap*2->((w.drew.setCells b (off+(i+1)*2) ((e8 w.heap b off (l.length*2)).drop (i*2))).cell? ⟨b,off+k,none⟩).isSome=true:=λ k hk =>
      FN b _ _ _ (λ j hj=>by rw [ik] at hj; rw [aBk]; exact cm _ (by omega)) _ (cm k hk)
    refine fin (T':=T) (cZ:=arr2) ?_ (.inl rfl) cr cO y1 (by rw [y2,x2]; exact en) ?_
    . refine OZ (B2.trans A2) (B4.trans A4) (by rw [B5,A5]; exact aGo _) (B3.trans A3) (by rw [B1,A1]; exact aAj _) (λ c hc hn=>?_);have cx:c≠b:=λ e=>hn (by simp [e]);exact (B6 c cx).trans (A6 c cx)
    . refine Tb y1 (by rw [aAe,aAe,jm,iv,ik]; omega) (λ j hj=>?_);rw [Ta,jm,iv];by_cases k1:j<i*2
      . rw [if_pos k1,World.cell?_setCells_out b _ _ _ _ (λ _ _=>.inl (by show off+j<_; omega)),World.cell?_setCells_out b _ _ _ _ (λ _ _=>.inl (by show off+j<_; omega)),aBn,if_pos k1];have ja:j<(e8 w.heap b off (l.length*2)).length:=by omega
        rw [aAf ja];exact hcs j _ (aAf ja)
      . rw [if_neg k1];by_cases k2:j<i*2+2
        . rw [if_pos k2];have:=World.cell?_setCells_in b (e8 w.heap vb voff (1*2)) (off+i*2) (w.drew.setCells b (off+(i+1)*2) ((e8 w.heap b off (l.length*2)).drop (i*2))) (λ j hj=>by rw [aBk]; exact gx _ (by omega)) (j - i*2) (by omega);rw [show off+i*2+(j - i*2)=off+j by omega] at this;rw [this,aAf]
        . rw [if_neg k2,World.cell?_setCells_out b _ _ _ _ (λ _ _=>.inr (by show _<=off+j; rw [iv]; omega))];have:=World.cell?_setCells_in b ((e8 w.heap b off (l.length*2)).drop (i*2)) (off+(i+1)*2) w.drew (λ j hj=>by rw [ik] at hj; rw [aBk]; exact cm _ (by omega)) (j - (i*2+2)) (by omega);rw [show off+(i+1)*2+(j - (i*2+2))=off+j by omega] at this;rw [this,aAf]
  . refine (Zo b off l.length cap i vb voff vc (e8 w.heap b off (l.length*2)) (e8 w.heap vb voff (1*2)) w kj c2 (by omega) (by omega) cD iv hcs iU (λ v hv=>(cd v hv).1) (λ v hv=>(rj v hv).1)).mono ?_;rintro e w' ⟨G,Z,z1,z2,z3,rfl,rfl⟩;generalize jS:((e8 w.heap b off (l.length*2)).take (i*2)).toArray++Z=ROW;have tX:ROW.size=G*2:=by rw [<- jS,aFj,aFh,jm,z3]; omega
    generalize hN:w.heap.size=N;have n1:((w.alloc (.cells ROW 104)).drew).heap[N]?=some (.cells ROW 104 (0,0)):=by
      show (w.heap.push _)[N]?=_;rw [<- hN]; simp
    have n2:∀ c,c<N->((w.alloc (.cells ROW 104)).drew).heap[c]?=w.heap[c]?:=λ c hc=>by
      show (w.heap.push _)[c]?=_;rw [aEc,if_neg (by omega)]
    have n3:((w.alloc (.cells ROW 104)).drew).heap.size=N+1:=by show (w.heap.push _).size=_; rw [Array.size_push,hN]
    obtain ⟨A1,A2,A3,A4,A5,A6,A7⟩:=CU N (e8 w.heap vb voff (1*2)) (i*2) ((w.alloc (.cells ROW 104)).drew);generalize gr:((w.alloc (.cells ROW 104)).drew).setCells N (i*2) (e8 w.heap vb voff (1*2))=W1 at *
    obtain ⟨B1,B2,B3,B4,B5,B6,B7⟩:=CU N ((e8 w.heap b off (l.length*2)).drop (i*2)) ((i+1)*2) W1.drew;obtain ⟨arr1,x1,x2⟩:=A7 ROW 104 (0,0) n1;obtain ⟨arr2,y1,y2⟩:=B7 arr1 104 (0,0) x1;have rC:∀ k,((w.alloc (.cells ROW 104)).drew).cell? ⟨N,k,none⟩=ROW[k]?:=λ k=>by simp only [World.cell?,n1]; rfl
    have cm:∀ k,k<G*2->(((w.alloc (.cells ROW 104)).drew).cell? ⟨N,k,none⟩).isSome=true:=λ k hk=>by
      rw [rC,aBy (by omega)]; rfl
    have gx:∀ k,k<G*2->(W1.drew.cell? ⟨N,k,none⟩).isSome=true:=λ k hk=>by
      show (W1.cell? ⟨N,k,none⟩).isSome=true;rw [<- gr];exact FN N _ _ _ (λ j hj=>cm _ (by omega)) _ (cm k hk)
    refine fin (c:=N) (o:=0) (G:=G) (T':=104) (cZ:=arr2) ?_ (.inr (by omega)) z1 z2 y1 (by rw [y2,x2,tX]; omega) ?_
    . refine OZ (B2.trans A2) (B4.trans A4) (by rw [B5]; show _<=W1.drawn+1; rw [A5]; show w.drawn<=w.drawn+1+1; omega) (B3.trans A3) (by rw [B1]; show _<=W1.heap.size; rw [A1,n3]; omega) (λ c hc hn=>?_);have cx:c≠N:=by omega
      exact (B6 c cx).trans ((A6 c cx).trans (n2 c (by omega)))
    . refine Tb y1 (by rw [aAe,aAe,jm,iv,ik]; omega) (λ j hj=>?_);rw [Ta,jm,iv,aEo];by_cases k1:j<i*2
      . rw [if_pos k1,World.cell?_setCells_out N _ _ _ _ (λ _ _=>.inl (by show j<_; omega))];show W1.cell? ⟨N,j,none⟩=_;rw [<- gr,World.cell?_setCells_out N _ _ _ _ (λ _ _=>.inl (by show j<_; omega)),rC,<- jS];rw [aHn,if_pos (by rw [aFh,jm]; exact k1),List.getElem?_toArray]
      . rw [if_neg k1];by_cases k2:j<i*2+2
        . rw [if_pos k2,World.cell?_setCells_out N _ _ _ _ (λ _ _=>.inl (by show j<_; omega))];show W1.cell? ⟨N,j,none⟩=_;have:=World.cell?_setCells_in N (e8 w.heap vb voff (1*2)) (i*2) ((w.alloc (.cells ROW 104)).drew) (λ j hj=>cm _ (by omega)) (j - i*2) (by omega);rw [gr,show i*2+(j - i*2)=j by omega] at this;rw [this,aAf]
        . rw [if_neg k2];have:=World.cell?_setCells_in N ((e8 w.heap b off (l.length*2)).drop (i*2)) ((i+1)*2) W1.drew (λ j hj=>by rw [ik] at hj; exact gx _ (by omega)) (j - (i*2+2)) (by omega);rw [show (i+1)*2+(j - (i*2+2))=j by omega] at this;rw [this,aAf]
def Mz:p7:={ ps:=[.own (.d0 true r8),.v d9,.own (.d0 true r8)],rs:=[.d0 true r8],pre:=λ x=>x.2.1=(List.length (α:=D7) x.1:Int)/\List.length (α:=D7) x.1<=1000/\List.length (α:=D7) x.2.2.1=1,fn:=λ x=>(yX x.1 x.2.1 x.2.2.1,()),out:=λ _=>() }
noncomputable def GQ:Env:={ P:=Tryz.prog,tt:=tt,C9:=[],res:=[Go.ResultVar.tmp 6],rs:=[Ty.d0 true r8],ps:=[PK.own (Ty.d0 true r8),PK.v d9,PK.own (Ty.d0 true r8)],B8:=[],nt:=95 }
theorem PT:w7 GQ:=x6 r7 trivial
theorem PA:C0 GQ Tryz.f100:=⟨rfl,rfl⟩
theorem Wa (x0:List (Int×yY×Unit)) (x1:Int) (x2:List (Int×yY×Unit)):exec GQ 1000 [.code (d8 Tryz.prog 100)] (s5 Mz.ps ((x0,x1,x2,()))) =
  .f8 ((0:Int)<=x1/\x1<=(↑(List.length x0):Int)/\(↑(List.length x0):Int)<=(↑(List.length x0):Int)) (cond (decide ((↑(List.length x2):Int)=(0:Int))) (.ret ((x0,()))) (cond (decide (x1=(↑(List.length x0):Int))) (.f8 (List.length x0+List.length x2<=140737488355328/\(List.length x0+List.length x2)*Ty.wb r8<=140737488355328) (.ret ((x0++x2,())))) (.f8 (r9 IntKind.i64 ((↑(List.length x0):Int)+(↑(List.length x2):Int))) (.stuck "cap")))):=by kernel_rfl
theorem b8T:Mz.Valid Tryz.prog 100:=by
  refine p7.n8 PT rfl rfl Tryz.func100 (c:=d8 Tryz.prog 100) rfl rfl PA rfl ?_;rintro ⟨(l:List D7),(i:Int),(m:List D7),⟨⟩⟩ ⟨(p1:i=(l.length:Int)),(p2:l.length<=1000),(p3:m.length=1)⟩ -
  subst p1;refine j6 (n:=1000) PT PA ?_;refine i7 (Wa l (l.length:Int) m) ?_;have UQ:Ty.wb r8=24:=rfl;simp only [j7,Tree.holds,UQ,sL];refine ⟨by omega,λ _=>⟨λ h=>absurd h (by omega),λ _=>⟨⟨⟨by omega,by omega⟩,λ _=>?_⟩,λ h=>absurd trivial h⟩⟩⟩;show ((l++m,()):List D7×Unit)=(yX l (l.length:Int) m,());unfold yX;rw [aCq,aDo,List.drop_length,aBc]
def Mm:p7:={ ps:=[.own (.d0 true r8),.v d9,.own (.d0 true r8)],rs:=[.d0 true r8],pre:=λ x=>(LE.le (α:=Int) 0 x.2.1/\LE.le (α:=Int) x.2.1 (List.length (α:=D7) x.1))/\List.length (α:=D7) x.1<=1000/\List.length (α:=D7) x.2.2.1=1,fn:=λ x=>(yX x.1 x.2.1 x.2.2.1,()),out:=λ _=>() }
theorem c1X:Mm.Valid Tryz.prog 100:=by
  refine ⟨Tz.ent,?_,λ h=>by cases h⟩;rintro w S vs ⟨(l:List D7),(i:Int),(m:List D7),⟨⟩⟩ L hS dI ⟨⟨(p0:0<=i),(p1:i<=(l.length:Int))⟩,(p2:l.length<=1000),(p3:m.length=1)⟩ lS df aJ hL;by_cases h:i<(l.length:Int)
  . exact Tz.run w S vs (l,i,m,()) L hS dI ⟨⟨p0,h⟩,p2,p3⟩ lS df aJ hL
  . exact b8T.run w S vs (l,i,m,()) L hS dI ⟨by show i=(l.length:Int); omega,p2,p3⟩ lS df aJ hL
theorem WD:Ty.wb r8=24:=rfl
def Hs:p7:={ ps:=[.v (.d0 false r8)],rs:=[.d0 true r8],pre:=λ x=>List.length (α:=w4) x.1<=1048576,fn:=λ x=>x,out:=λ _=>() }
noncomputable def GX:Env:={ P:=Tryz.prog,tt:=tt,C9:=[],res:=[Go.ResultVar.tmp 2],rs:=[Ty.d0 true r8],ps:=[PK.v M6],B8:=[],nt:=8 }
theorem PY:w7 GX:=x6 r7 trivial
theorem PF:C0 GX Tryz.f97:=⟨rfl,rfl⟩
theorem Wg (x0:List (Int×yY×Unit)):exec GX 1000 [.code (d8 Tryz.prog 97)] (s5 Hs.ps ((x0,()))) =
  .both (x0=[]) (.ret (([],()))) (.f8 ((0:Nat)+List.length x0<=140737488355328/\((0:Nat)+List.length x0)*Ty.wb r8<=140737488355328) (.ret (([]++x0,())))):=by kernel_rfl
theorem b8K:Hs.Valid Tryz.prog 97:=by
  refine p7.n8 PY rfl rfl Tryz.func97 (c:=d8 Tryz.prog 97) rfl rfl PF rfl ?_;rintro ⟨(l:List (w4)),⟨⟩⟩ hp -
  have hp:l.length<=1048576:=hp;refine j6 (n:=1000) PY PF ?_;refine i7 (Wg l) ?_;simp only [j7,Tree.holds,WD,sL];refine ⟨λ h=>?_,by omega,λ _=>rfl⟩;show (([],()):List (w4)×Unit)=(l,());rw [show l=[] from h]
def Ip:p7:={ ps:=[.v ToT,.v r8],rs:=[ToO,.d0 true .str,d9],pre:=λ _=>True,fn:=λ x=>D9 x.1 x.2.1,out:=λ _=>() }
noncomputable def DS:Env:={ P:=Tryz.prog,tt:=tt,C9:=[(96,Gs),(75,Bc),(59,Ag),(97,Hs),(98,FX),(100,Mm)],res:=[Go.ResultVar.cell 4 83,Go.ResultVar.tmp 5,Go.ResultVar.tmp 6],rs:=[Ty.pair d9 (Ty.pair (Ty.d0 true r8) Ty.unit),Ty.d0 true Ty.str,Ty.int IntKind.i64],ps:=[PK.v ToT,PK.v r8],B8:=[(17,[(4,none),(8,none),(11,some (Ty.d0 true Ty.str))])],nt:=116 }
theorem Kk:w7 DS:=x6 r7 ⟨c1D,Ld,FB,b8K,c2m,c1X,trivial⟩
theorem Ko:C0 DS Tryz.f83:=⟨rfl,rfl⟩
theorem XU (aO:Int) (ab:List (Int×yY×Unit)) (bA:Int) (aG:yY):exec DS 1000 [.code (d8 Tryz.prog 83)] (s5 Ip.ps (((aO,ab,()),(bA,aG,()),()))) =
  .f8 (True) (cond (decide (toE (aO,ab,())≠(0:Int))) (.ret ((((0:Int),[],()),[],toE (aO,ab,()),()))) (.f8 (True) (cond (!Z4 bA (0:Int) (16777214:Int)) (.ret ((((0:Int),[],()),[],(1:Int),()))) (.f8 (True) (cond (E7 aG) (.ret ((((0:Int),[],()),[],(2:Int),()))) (.f8 (List.length ab<=1048576) (.f8 ((List.length ab<=1000/\sorted ab)/\(-100000000:Int)<=bA/\bA<=(100000000:Int)) (cond (decide (bA<aO)) (.ret (((aO,ab,()),[],(0:Int),()))) (.f8 (r9 IntKind.i64 (aO+(16:Int))) (cond (decide (aO+(16:Int)<=bA)) (.ret (((aO,ab,()),[],(0:Int),()))) (cond (Z9 bA ab) (.ret (((aO,ab,()),[],(0:Int),()))) (cond (decide (aO<bA)) (.f8 (((0:Int)<=(↑(atF bA ab):Int)/\(↑(atF bA ab):Int)<=(↑(List.length ab):Int))/\List.length ab<=1000/\List.length (List.set [((0:Int),[],())] (Int.toNat (↑0:Int)) (bA,aG,()))=1) (.ret (((aO,yX ab (↑(atF bA ab):Int) (List.set [((0:Int),[],())] (Int.toNat (↑0:Int)) (bA,aG,())),()),[],(0:Int),())))) (.f8 (r9 IntKind.i64 (aO+(1:Int))) (.ctL (g8 (d8 Tryz.prog 83) 17) (St.mk [(4,AV.ptr 4 []),(8,AV.ptr 8 []),(11,AV.at_ 1000011 [])] [(4,i6.var ToO ((0:Int),[],())),(8,i6.var ToO (aO+(1:Int),ab,())),(1000011,i6.own (Ty.d0 true Ty.str) (List.set [[]] (Int.toNat (↑0:Int)) aG))]))))))))))))))):=by kernel_rfl
def SC (jg:Int) (fh:List (Int×yY×Unit)) (fI:Int) (bF:List (Int×yY×Unit)) (bs:List yY):St:=St.mk [(4,AV.ptr 4 []),(8,AV.ptr 8 []),(11,AV.at_ 1000011 [])] [(4,i6.var ToO (jg,fh,())),(8,i6.var ToO (fI,bF,())),(1000011,i6.own (Ty.d0 true Ty.str) bs)]
theorem c2Q (jg:Int) (fh:List (Int×yY×Unit)) (fI:Int) (bF:List (Int×yY×Unit)) (bs:List yY):exec DS 1000 (.code (g8 (d8 Tryz.prog 83) 17).1::.inLoop (g8 (d8 Tryz.prog 83) 17).1::(g8 (d8 Tryz.prog 83) 17).2) (SC jg fh fI bF bs) =
  cond (decide ((0:Int)<(↑(List.length bF):Int))) (.f8 ((0:Int)<=(0:Int)/\(0:Int)<(↑(List.length bF):Int)) (cond (decide (Prod.fst (List.getD bF (Int.toNat (0:Int)) ((0:Int),[],()))=fI)) (.f8 ((0:Int)<=(0:Int)/\(0:Int)<(↑(List.length bF):Int)) (.f8 (List.length bs+List.length (List.set [[]] (Int.toNat (↑0:Int)) (List.getD bF (Int.toNat (0:Int)) ((0:Int),[],())).2.1)<=140737488355328/\(List.length bs+List.length (List.set [[]] (Int.toNat (↑0:Int)) (List.getD bF (Int.toNat (0:Int)) ((0:Int),[],())).2.1))*Ty.wb Ty.str<=140737488355328) (.f8 ((0:Int)<=(1:Int)/\(1:Int)<=(↑(List.length bF):Int)/\(↑(List.length bF):Int)<=(↑(List.length bF):Int)) (.f8 ([]++[Step.l8 1]=[]++[Step.l8 1]/\True) (.f8 (r9 IntKind.i64 (fI+(1:Int))) (.ctL (g8 (d8 Tryz.prog 83) 17) (St.mk [(4,AV.ptr 4 []),(8,AV.ptr 8 []),(11,AV.at_ 1000011 [])] [(4,i6.var ToO (jg,fh,())),(8,i6.var ToO (fI+(1:Int),o5 (1:Int) (↑(List.length bF):Int) bF,())),(1000011,i6.own (Ty.d0 true Ty.str) (bs++List.set [[]] (Int.toNat (↑0:Int)) (List.getD bF (Int.toNat (0:Int)) ((0:Int),[],())).2.1))]))))))) (.f8 (List.length bF<=1048576) (.ret (((fI,bF,()),bs,(0:Int),())))))) (.f8 (List.length bF<=1048576) (.ret (((fI,bF,()),bs,(0:Int),())))):=by kernel_rfl
theorem Vg {n:Int} {l:List w4}:atF n l<=l.length:=by
  rw [atF]; exact (List.takeWhile_sublist _).length_le
theorem AZ.sorted {r:Int} {l:List w4} (h:AZ r l):sorted l:=⟨b8m h.up,λ i hi=>by
  have h1:=JT h.up (EJ (d:=p00) hi);have h2:=(h.b _ (EJ (d:=p00) hi)).1;have:=h.rg;omega⟩
theorem b6D:Ip.Valid Tryz.prog 83:=by
  refine p7.n8 Kk rfl rfl Tryz.func83 (c:=d8 Tryz.prog 83) rfl rfl Ko rfl ?_;rintro ⟨⟨(r:Int),(l:List w4),⟨⟩⟩,⟨(q:Int),(x:yY),⟨⟩⟩,⟨⟩⟩ - -
  refine j6 (n:=1000) Kk Ko ?_;refine i7 (XU r l q x) ?_;have key:∀ {y:ToD×List yY×Int×Unit},D9 (r,l,()) (q,x,())=y->y=D9 (r,l,()) (q,x,()):=λ h=>h.symm;have hd:D9 (r,l,()) (q,x,())=if toE (r,l,())≠0 then (t00,[],toE (r,l,()),()) else if Z4 q 0 16777214=false then (t00,[],1,()) else if E7 x=true then (t00,[],2,()) else
    if q<r\/r+16<=q\/Z9 q l=true then ((r,l,()),[],0,()) else if r<q then ((r,xk (q,x,()) l,()),[],0,()) else
    (((E4 l (r+1)).1,(E4 l (r+1)).2.1,()),x::(E4 l (r+1)).2.2,0,()):=rfl
  have hw:Ty.wb .str=16:=rfl;simp only [j7,Tree.holds,hw,sL];refine ⟨λ a=>key (by rw [hd,if_pos a]<;>rfl),λ a=>?_⟩;have aM:=IX.1 (aBq.1 a);have lJ:=aM.rg;have hlen:=aM.len;rw [if_neg a] at hd;refine ⟨λ c=>key (by rw [hd,if_pos c]<;>rfl),λ c=>?_⟩;have hq:=xb.1 c;rw [if_neg (lnf c)] at hd;refine ⟨λ d=>key (by rw [hd,if_pos d]<;>rfl),λ d=>⟨by omega,λ _=>⟨⟨⟨by omega,aM.sorted⟩,by omega,by omega⟩,λ _=>?_⟩⟩⟩;rw [if_neg (by rw [d]; simp)] at hd;refine ⟨λ e=>key (by rw [hd,if_pos (.inl e)]<;>rfl),λ e=>⟨by omega,λ _=>⟨λ f=>key (by rw [hd,if_pos (.inr (.inl f))]<;>rfl),λ f=>⟨λ g=>key (by rw [hd,if_pos (.inr (.inr g))]<;>rfl),λ g=>?_⟩⟩⟩⟩;rw [if_neg (by rintro (h|h|h); exact e h; exact f h; rw [g] at h; cases h)] at hd;have jI:=Vg (n:=q) (l:=l);refine ⟨λ k=>⟨⟨⟨by omega,by omega⟩,by omega,trivial⟩,λ _=>key (by rw [hd,if_pos k]; simp [yX,xk]; rfl)⟩,λ k=>⟨by omega,λ _=>?_⟩⟩;rw [if_neg k] at hd;refine Reach.M7 Kk Ko (λ s:Int×List w4×List yY=>SC 0 [] s.1 s.2.1 s.2.2) (λ s=>((E4 s.2.1 s.1).1=(E4 l (r+1)).1/\(E4 s.2.1 s.1).2.1=(E4 l (r+1)).2.1/\s.2.2++(E4 s.2.1 s.1).2.2=x::(E4 l (r+1)).2.2)/\s.2.1.length<=16/\s.2.2.length+s.2.1.length<=17/\0<=s.1/\s.1+s.2.1.length<=20000000)
    (λ s=>s.2.1.length) 1000 (λ _=>⟨s9 rfl,s9 rfl⟩) ?_ (r+1,l,[x]) ⟨⟨rfl,rfl,rfl⟩,hlen,by show 1+l.length<=17; omega,by show 0<=r+1; omega,by show r+1+(l.length:Int)<=20000000; omega⟩
  rintro ⟨n,m,ts⟩ ⟨⟨k1,k2,k3⟩,k4,k5,k6,k7⟩ - ih;have k1:(E4 m n).1=(E4 l (r+1)).1:=k1;have k2:(E4 m n).2.1=(E4 l (r+1)).2.1:=k2;have k3:ts++(E4 m n).2.2=x::(E4 l (r+1)).2.2:=k3;have k4:m.length<=16:=k4;have k5:ts.length+m.length<=17:=k5;have k6:0<=n:=k6;have k7:n+(m.length:Int)<=20000000:=k7;rw [<- k1,<- k2,<- k3] at hd;refine i7 (c2Q ..) ?_;rw [show ((n,m,ts):Int×List w4×List yY).1=n from rfl,show ((n,m,ts):Int×List w4×List yY).2.1=m from rfl,show ((n,m,ts):Int×List w4×List yY).2.2=ts from rfl];cases m with
  | nil =>
    simp only [j7,Tree.holds,hw,sL];refine ⟨λ c2=>absurd c2 (by simp),λ _=>⟨by omega,λ _=>key ?_⟩⟩;rw [hd,E4,aBc]; rfl
  | cons p m =>
    have g0:List.getD (p::m) (Int.toNat 0) (0,[],())=p:=rfl;have jG:o5 1 ((p::m).length:Int) (p::m)=m:=by
      rw [o5,aAu (by simp)]; rfl
    simp only [aAh] at k4 k5 k7;have js:E4 (p::m) n=if p.1=n then ((E4 m (n+1)).1,(E4 m (n+1)).2.1,p.2.1::(E4 m (n+1)).2.2) else (n,p::m,[]):=rfl
    simp only [j7,Tree.holds,hw,g0,jG,sL];refine ⟨λ c2=>⟨by omega,λ _=>⟨λ c3=>?_,λ c3=>⟨by omega,λ _=>key ?_⟩⟩⟩,λ c2=>absurd (by omega) c2⟩
    . rw [if_pos c3] at js;rw [js] at k1 k2 k3;have next:=ih (n+1,m,ts++[p.2.1]) ⟨⟨k1,k2,by rw [aAl]; exact k3⟩,by show m.length<=16; omega,by show (ts++[p.2.1]).length+m.length<=17; rw [aAe,aBw]; omega,by show 0<=n+1; omega,by show n+1+(m.length:Int)<=20000000; omega⟩ (by show m.length<(p::m).length; simp)
      have nr:o5 1 ((m.length+1:Nat):Int) (p::m)=m:=jG;rw [nr];exact ⟨by omega,λ _=>⟨⟨by omega,by omega⟩,λ _=>⟨by omega,λ _=>⟨by omega,λ _=>next⟩⟩⟩⟩
    . rw [if_neg c3] at js;rw [hd,js,aBc]; rfl
attribute [local irreducible] Go.Ex.exec
abbrev FrD:=Int×List yY×Unit
abbrev n9:=Bool×List D7×FrD×ToD×ToD×Unit
abbrev f9:=vK×List n9×List yY×List yY×Unit
def j8:n9:=(false,[],(0,[],()),(0,[],()),(0,[],()),())
def zL:p7:={ ps:=[.v d9,.v d9,.v d9],rs:=[.bool],pre:=λ _=>True,fn:=λ x=>(J3 x.1 x.2.1 x.2.2.1,()),out:=λ _=>() }
noncomputable def Gb:Env:={ P:=Tryz.prog,tt:=tt,C9:=[],res:=[Go.ResultVar.tmp 6],rs:=[Ty.bool],ps:=[PK.v d9,PK.v d9,PK.v d9],B8:=[],nt:=15 }
theorem NH:w7 Gb:=x6 r7 trivial
theorem NR:C0 Gb Tryz.f40:=⟨rfl,rfl⟩
theorem VC (x0:Int) (x1:Int) (x2:Int):exec Gb 1000 [.code (d8 Tryz.prog 40)] (s5 zL.ps ((x0,x1,x2,()))) =
  cond (decide (x1<=x0)) (.ret ((decide (x0<=x2),()))) (.ret ((false,()))):=by kernel_rfl
theorem Fm:zL.Valid Tryz.prog 40:=by
  refine p7.n8 NH rfl rfl Tryz.func40 (c:=d8 Tryz.prog 40) rfl rfl NR rfl ?_;rintro ⟨(n:Int),(a:Int),(b:Int),⟨⟩⟩ - -
  refine j6 (n:=1000) NH NR ?_;refine i7 (VC n a b) ?_;simp only [j7,Tree.holds,sL];refine ⟨λ c=>?_,λ c=>?_⟩
  . show ((decide _,()):Bool×Unit)=(J3 n a b,()); rw [J3,decide_eq_true c,aEj]
  . show ((false,()):Bool×Unit)=(J3 n a b,()); rw [J3,decide_eq_false c,aGt]
def tz (m:Int):Int:=(((List.range 8).find? (λ i=>decide (m / 2^i % 2=1))).getD 8:Nat)
def ctz:p7:={ ps:=[.v U8],rs:=[d9],pre:=λ _=>True,fn:=λ x=>(tz x.1,()),out:=λ _=>() }
noncomputable def Etz:Env:={ P:=Tryz.prog,tt:=tt,C9:=[],res:=[Go.ResultVar.tmp 2],rs:=[Ty.int IntKind.i64],ps:=[PK.v U8],B8:=[],nt:=6 }
theorem No:w7 Etz:=x6 r7 trivial
theorem Nb:C0 Etz Tryz.f78:=⟨rfl,rfl⟩
theorem VL (x0:Int):exec Etz 1000 [.code (d8 Tryz.prog 78)] (s5 ctz.ps ((x0,()))) =
  .f8 ((0:Int)<=x0/\x0<(↑(List.length (Array.toList (ByteArray.data (ByteArray.mk (List.toArray (List.append (List.append ([8,0,1,0,2,0,1,0,3,0,1,0,2,0,1,0,4,0,1,0,2,0,1,0,3,0,1,0,2,0,1,0,5,0,1,0,2,0,1,0,3,0,1,0,2,0,1,0,4,0,1,0,2,0,1,0,3,0,1,0,2,0,1,0]:yY) ([6,0,1,0,2,0,1,0,3,0,1,0,2,0,1,0,4,0,1,0,2,0,1,0,3,0,1,0,2,0,1,0,5,0,1,0,2,0,1,0,3,0,1,0,2,0,1,0,4,0,1,0,2,0,1,0,3,0,1,0,2,0,1,0]:yY)) (List.append ([7,0,1,0,2,0,1,0,3,0,1,0,2,0,1,0,4,0,1,0,2,0,1,0,3,0,1,0,2,0,1,0,5,0,1,0,2,0,1,0,3,0,1,0,2,0,1,0,4,0,1,0,2,0,1,0,3,0,1,0,2,0,1,0]:yY) ([6,0,1,0,2,0,1,0,3,0,1,0,2,0,1,0,4,0,1,0,2,0,1,0,3,0,1,0,2,0,1,0,5,0,1,0,2,0,1,0,3,0,1,0,2,0,1,0,4,0,1,0,2,0,1,0,3,0,1,0,2,0,1,0]:yY)))))))):Int)) (.ret ((IntKind.wrap IntKind.i64 (↑(UInt8.toNat (List.getD (Array.toList (ByteArray.data (ByteArray.mk (List.toArray (List.append (List.append ([8,0,1,0,2,0,1,0,3,0,1,0,2,0,1,0,4,0,1,0,2,0,1,0,3,0,1,0,2,0,1,0,5,0,1,0,2,0,1,0,3,0,1,0,2,0,1,0,4,0,1,0,2,0,1,0,3,0,1,0,2,0,1,0]:yY) ([6,0,1,0,2,0,1,0,3,0,1,0,2,0,1,0,4,0,1,0,2,0,1,0,3,0,1,0,2,0,1,0,5,0,1,0,2,0,1,0,3,0,1,0,2,0,1,0,4,0,1,0,2,0,1,0,3,0,1,0,2,0,1,0]:yY)) (List.append ([7,0,1,0,2,0,1,0,3,0,1,0,2,0,1,0,4,0,1,0,2,0,1,0,3,0,1,0,2,0,1,0,5,0,1,0,2,0,1,0,3,0,1,0,2,0,1,0,4,0,1,0,2,0,1,0,3,0,1,0,2,0,1,0]:yY) ([6,0,1,0,2,0,1,0,3,0,1,0,2,0,1,0,4,0,1,0,2,0,1,0,3,0,1,0,2,0,1,0,5,0,1,0,2,0,1,0,3,0,1,0,2,0,1,0,4,0,1,0,2,0,1,0,3,0,1,0,2,0,1,0]:yY))))))) (Int.toNat x0) (0:UInt8))):Int),()))):=by kernel_rfl
theorem ZB:ctz.Valid Tryz.prog 78:=by
  refine p7.n8 No rfl rfl Tryz.func78 (c:=d8 Tryz.prog 78) rfl rfl Nb rfl ?_;rintro ⟨(x0:Int),⟨⟩⟩ - ⟨h0,-⟩;refine j6 (n:=1000) No Nb ?_;refine i7 (VL x0) ?_;have g0:0<=x0/\x0<=255:=h0;obtain ⟨n,rfl⟩:∃ n:Fin 256,x0=((n.val:Nat):Int):=⟨⟨x0.toNat,by omega⟩,by simp; omega⟩;refine ⟨?_,λ _=>?_⟩
  . clear h0 g0; revert n; decide +kernel
  . show ((_,()):Int×Unit)=(tz n,());clear h0 g0; revert n; decide +kernel
def Ak (v:vK):Int×Int×Unit:=if Q7 v≠0 then (0,Q7 v,()) else (tz v.2.1,0,())
def Ec:p7:={ ps:=[.v View],rs:=[d9,d9],pre:=λ _=>True,fn:=λ x=>Ak x.1,out:=λ _=>() }
noncomputable def HY:Env:={ P:=Tryz.prog,tt:=tt,C9:=[(70,BR),(78,ctz)],res:=[Go.ResultVar.tmp 2,Go.ResultVar.tmp 3],rs:=[Ty.int IntKind.i64,Ty.int IntKind.i64],ps:=[PK.v View],B8:=[],nt:=13 }
theorem Ru:w7 HY:=x6 r7 ⟨Up,ZB,trivial⟩
theorem RL:C0 HY Tryz.f61:=⟨rfl,rfl⟩
theorem Yr (aO:Int) (ab:Int):exec HY 1000 [.code (d8 Tryz.prog 61)] (s5 Ec.ps (((aO,ab,()),()))) =
  .f8 (True) (cond (decide (Q7 (aO,ab,())≠(0:Int))) (.ret (((0:Int),Q7 (aO,ab,()),()))) (.f8 (True) (.ret ((tz ab,(0:Int),()))))):=by kernel_rfl
theorem b6L:Ec.Valid Tryz.prog 61:=by
  refine p7.n8 Ru rfl rfl Tryz.func61 (c:=d8 Tryz.prog 61) rfl rfl RL rfl ?_;rintro ⟨⟨(x0:Int),(x1:Int),⟨⟩⟩,⟨⟩⟩ - -
  refine j6 (n:=1000) Ru RL ?_;refine i7 (Yr x0 x1) ?_;simp only [j7,Tree.holds,sL];have key:∀ r:Int×Int×Unit,Ak (x0,x1,())=r->((r:DL [Ty.int .i64,Ty.int .i64])=Ec.fn ((x0,x1,()),())):=by rintro r rfl; rfl
  refine ⟨λ a=>key _ ?_,λ a=>key _ ?_⟩
  . rw [Ak,if_pos a]; rfl
  . rw [Ak,if_neg a]; rfl
def s8 (w:f9) (p:Int):Bool:=J3 p 0 ((w.2.1.length:Int) - 1) && decide (T4 .u8 (w.1.2.1 / (2:Int)^min p.toNat IntKind.u8.bits) 1=1) && !(w.2.1.getD p.toNat j8).1
def yU:p7:={ ps:=[.rd H3,.v d9],rs:=[.bool],pre:=λ x=>List.length (α:=n9) (x.1:f9).2.1<=6,fn:=λ x=>(s8 x.1 x.2.1,()),out:=λ _=>() }
noncomputable def Gx:Env:={ P:=Tryz.prog,tt:=tt,C9:=[(40,zL)],res:=[Go.ResultVar.tmp 4],rs:=[Ty.bool],ps:=[PK.rd H3,PK.v d9],B8:=[],nt:=35 }
theorem Qd:w7 Gx:=x6 r7 ⟨Fm,trivial⟩
theorem Pt:C0 Gx Tryz.f47:=⟨rfl,rfl⟩
theorem WO (ai:Int) (af:Int) (ab:List n9) (ae:List yY) (aa:List yY) (x1:Int):exec Gx 1000 [.code (d8 Tryz.prog 47)] (s5 yU.ps ((((ai,af,()),ab,ae,aa,()),x1,()))) =
  .f8 (r9 IntKind.i64 ((↑(List.length ab):Int) - (1:Int))) (.f8 (True) (cond (J3 x1 (0:Int) ((↑(List.length ab):Int) - (1:Int))) (.f8 ((0:Int)<=x1) (cond (decide (T4 IntKind.u8 (af / (2:Int)^min (Int.toNat x1) (IntKind.bits IntKind.u8)) (1:Int)=(1:Int))) (.f8 ((0:Int)<=x1/\x1<(↑(List.length ab):Int)) (.ret ((!Prod.fst (List.getD ab (Int.toNat x1) (false,[],((0:Int),[],()),((0:Int),[],()),((0:Int),[],()),())),())))) (.ret ((false,()))))) (.ret ((false,()))))):=by kernel_rfl
theorem CG:yU.Valid Tryz.prog 47:=by
  refine p7.n8 Qd rfl rfl Tryz.func47 (c:=d8 Tryz.prog 47) rfl rfl Pt rfl ?_;rintro ⟨⟨⟨(v0:Int),(v1:Int),⟨⟩⟩,(al:List n9),(od:List yY),(wy:List yY),⟨⟩⟩,(p:Int),⟨⟩⟩ (hp:al.length<=6) -
  refine j6 (n:=1000) Qd Pt ?_;refine i7 (WO v0 v1 al od wy p) ?_;simp only [j7,Tree.holds,sL];have key:∀ r:Bool,s8 ((v0,v1,()),al,od,wy,()) p=r->(((r,()):Bool×Unit)=(s8 ((v0,v1,()),al,od,wy,()) p,())):=by rintro r rfl; rfl
  refine ⟨⟨by omega,by omega⟩,λ _=>⟨λ a=>⟨(W5.1 a).1,λ _=>⟨λ b=>⟨⟨(W5.1 a).1,by have:=(W5.1 a).2; show p<(al.length:Int); omega⟩,λ _=>key _ ?_⟩,λ b=>key _ ?_⟩⟩,λ a=>key _ ?_⟩⟩
  . show (J3 p 0 ((al.length:Int) - 1) && _ && _)=_;rw [a,aEj];exact congrArg (· && _) (decide_eq_true b)
  . show (J3 p 0 ((al.length:Int) - 1) && decide _ && _)=_;rw [a,aEj,decide_eq_false b]; rfl
  . show (J3 p 0 ((al.length:Int) - 1) && _ && _)=_;rw [a]; rfl
def known (w:f9) (p:Int):Int:=if J3 p 0 ((w.2.1.length:Int) - 1)=true then 0 else 1
def Ar:p7:={ ps:=[.rd H3,.v d9],rs:=[d9],pre:=λ x=>List.length (α:=n9) (x.1:f9).2.1<=6,fn:=λ x=>(known x.1 x.2.1,()),out:=λ _=>() }
noncomputable def IB:Env:={ P:=Tryz.prog,tt:=tt,C9:=[(40,zL)],res:=[Go.ResultVar.tmp 4],rs:=[Ty.int IntKind.i64],ps:=[PK.rd H3,PK.v d9],B8:=[],nt:=14 }
theorem Sy:w7 IB:=x6 r7 ⟨Fm,trivial⟩
theorem SR:C0 IB Tryz.f49:=⟨rfl,rfl⟩
theorem c49 (ai:Int) (af:Int) (ab:List n9) (ae:List yY) (aa:List yY) (x1:Int):exec IB 1000 [.code (d8 Tryz.prog 49)] (s5 Ar.ps ((((ai,af,()),ab,ae,aa,()),x1,()))) =
  .f8 (r9 IntKind.i64 ((↑(List.length ab):Int) - (1:Int))) (.f8 (True) (cond (!J3 x1 (0:Int) ((↑(List.length ab):Int) - (1:Int))) (.ret (((1:Int),()))) (.ret (((0:Int),()))))):=by kernel_rfl
theorem FA:Ar.Valid Tryz.prog 49:=by
  refine p7.n8 Sy rfl rfl Tryz.func49 (c:=d8 Tryz.prog 49) rfl rfl SR rfl ?_;rintro ⟨⟨⟨(v0:Int),(v1:Int),⟨⟩⟩,(al:List n9),(od:List yY),(wy:List yY),⟨⟩⟩,(p:Int),⟨⟩⟩ (hp:al.length<=6) -
  refine j6 (n:=1000) Sy SR ?_;refine i7 (c49 v0 v1 al od wy p) ?_;simp only [j7,Tree.holds,sL];have key:∀ r:Int,known ((v0,v1,()),al,od,wy,()) p=r->(((r,()):Int×Unit)=(known ((v0,v1,()),al,od,wy,()) p,())):=by rintro r rfl; rfl
  refine ⟨⟨by omega,by omega⟩,λ _=>⟨λ a=>key _ ?_,λ a=>key _ ?_⟩⟩
  . exact if_neg (by simpa using a)
  . exact if_pos (by simpa using a)
def M8 (w:f9) (p:Int):Int:=if known w p≠0 then known w p else if s8 w p=true then 0 else 11
def DE:p7:={ ps:=[.rd H3,.v d9],rs:=[d9],pre:=λ x=>List.length (α:=n9) (x.1:f9).2.1<=6,fn:=λ x=>(M8 x.1 x.2.1,()),out:=λ _=>() }
noncomputable def HU:Env:={ P:=Tryz.prog,tt:=tt,C9:=[(49,Ar),(47,yU)],res:=[Go.ResultVar.tmp 4],rs:=[Ty.int IntKind.i64],ps:=[PK.rd H3,PK.v d9],B8:=[],nt:=16 }
theorem RB:w7 HU:=x6 r7 ⟨FA,CG,trivial⟩
theorem QX:C0 HU Tryz.f41:=⟨rfl,rfl⟩
theorem YB (ai:Int) (af:Int) (ab:List n9) (ae:List yY) (aa:List yY) (x1:Int):exec HU 1000 [.code (d8 Tryz.prog 41)] (s5 DE.ps ((((ai,af,()),ab,ae,aa,()),x1,()))) =
  .f8 (List.length ab<=6) (cond (decide (known ((ai,af,()),ab,ae,aa,()) x1≠(0:Int))) (.ret ((known ((ai,af,()),ab,ae,aa,()) x1,()))) (.f8 (List.length ab<=6) (cond (!s8 ((ai,af,()),ab,ae,aa,()) x1) (.ret (((11:Int),()))) (.ret (((0:Int),())))))):=by kernel_rfl
theorem TD:DE.Valid Tryz.prog 41:=by
  refine p7.n8 RB rfl rfl Tryz.func41 (c:=d8 Tryz.prog 41) rfl rfl QX rfl ?_;rintro ⟨⟨⟨(v0:Int),(v1:Int),⟨⟩⟩,(al:List n9),(od:List yY),(wy:List yY),⟨⟩⟩,(p:Int),⟨⟩⟩ (hp:al.length<=6) -
  refine j6 (n:=1000) RB QX ?_;refine i7 (YB v0 v1 al od wy p) ?_;simp only [j7,Tree.holds,sL];have key:∀ r:Int,M8 ((v0,v1,()),al,od,wy,()) p=r->(((r,()):Int×Unit)=(M8 ((v0,v1,()),al,od,wy,()) p,())):=by rintro r rfl; rfl
  refine ⟨hp,λ _=>⟨λ a=>key _ ?_,λ a=>⟨hp,λ _=>⟨λ b=>key _ ?_,λ b=>key _ ?_⟩⟩⟩⟩
  . exact if_pos a
  . rw [M8,if_neg (by simpa using a),if_neg (by simpa using b)]
  . rw [M8,if_neg (by simpa using a),if_pos (by simpa using b)]
def M9 (w:f9):Int:=(Ak w.1).1
def zW:p7:={ ps:=[.rd H3],rs:=[d9],pre:=λ _=>True,fn:=λ x=>(M9 x.1,()),out:=λ _=>() }
noncomputable def GB:Env:={ P:=Tryz.prog,tt:=tt,C9:=[(61,Ec)],res:=[Go.ResultVar.tmp 2],rs:=[Ty.int IntKind.i64],ps:=[PK.rd H3],B8:=[],nt:=14 }
theorem PM:w7 GB:=x6 r7 ⟨b6L,trivial⟩
theorem Px:C0 GB Tryz.f44:=⟨rfl,rfl⟩
theorem WT (ai:Int) (af:Int) (ab:List n9) (ae:List yY) (aa:List yY):exec GB 1000 [.code (d8 Tryz.prog 44)] (s5 zW.ps ((((ai,af,()),ab,ae,aa,()),()))) =
  .f8 (True) (.ret ((Prod.fst (Ak (ai,af,())),()))):=by kernel_rfl
theorem Fo:zW.Valid Tryz.prog 44:=by
  refine p7.n8 PM rfl rfl Tryz.func44 (c:=d8 Tryz.prog 44) rfl rfl Px rfl ?_;rintro ⟨⟨⟨(v0:Int),(v1:Int),⟨⟩⟩,(al:List n9),(od:List yY),(wy:List yY),⟨⟩⟩,⟨⟩⟩ - -
  refine j6 (n:=1000) PM Px ?_;refine i7 (WT v0 v1 al od wy) ?_;exact ⟨trivial,λ _=>rfl⟩
def N1 (w:f9) (k f t s:Int) (x:yY):f9 :=
  let r:=V2 (k,f,t,w.1.1,s,[0,0,0,0,0,0],x,())
  if r.2.1=0/\(w.2.2.2.1.length:Int)<60 then (w.1,w.2.1,w.2.2.1,w.2.2.2.1++[r.1],()) else w
theorem Kz {w:f9} {k f t s:Int} {x:yY} (h:(V2 (k,f,t,w.1.1,s,[0,0,0,0,0,0],x,())).2.1=0) (h2:(w.2.2.2.1.length:Int)<60) :
    N1 w k f t s x=(w.1,w.2.1,w.2.2.1,w.2.2.2.1++[(V2 (k,f,t,w.1.1,s,[0,0,0,0,0,0],x,())).1],()):=by
  unfold N1; exact if_pos ⟨h,h2⟩
theorem Fa {w:f9} {k f t s:Int} {x:yY} (h:¬ ((V2 (k,f,t,w.1.1,s,[0,0,0,0,0,0],x,())).2.1=0/\(w.2.2.2.1.length:Int)<60)) :
    N1 w k f t s x=w:=by
  unfold N1; exact if_neg h
def zY:p7:={ ps:=[.rw u7,.v d9,.v d9,.v d9,.v d9,.v .str],rs:=[],pre:=λ _=>True,fn:=λ _=>(),out:=λ x=>(N1 x.1 x.2.1 x.2.2.1 x.2.2.2.1 x.2.2.2.2.1 x.2.2.2.2.2.1,()) }
noncomputable def HR:Env:={ P:=Tryz.prog,tt:=tt,C9:=[(60,Hr)],res:=[],rs:=[],ps:=[PK.rw u7,PK.v d9,PK.v d9,PK.v d9,PK.v d9,PK.v Ty.str],B8:=[],nt:=49 }
theorem Rz:w7 HR:=x6 r7 ⟨b8L,trivial⟩
theorem QV:C0 HR Tryz.f43:=⟨rfl,rfl⟩
theorem Yx (ai:Int) (af:Int) (ab:List n9) (ae:List yY) (aa:List yY) (x1:Int) (x2:Int) (x3:Int) (x4:Int) (x5:yY):exec HR 1000 [.code (d8 Tryz.prog 43)] (s5 zY.ps ((((ai,af,()),ab,ae,aa,()),x1,x2,x3,x4,x5,()))) =
  .f8 (True) (cond (decide (Prod.fst (V2 (x1,x2,x3,ai,x4,[(0:Int),(0:Int),(0:Int),(0:Int),(0:Int),(0:Int)],x5,())).2=(0:Int))) (cond (decide ((↑(List.length aa):Int)<(60:Int))) (.f8 (True/\True/\[]++[Step.l8 3]=[]++[Step.l8 3]/\List.length aa+List.length (List.set [[]] (Int.toNat (↑0:Int)) (V2 (x1,x2,x3,ai,x4,[(0:Int),(0:Int),(0:Int),(0:Int),(0:Int),(0:Int)],x5,())).1)<=140737488355328/\(List.length aa+List.length (List.set [[]] (Int.toNat (↑0:Int)) (V2 (x1,x2,x3,ai,x4,[(0:Int),(0:Int),(0:Int),(0:Int),(0:Int),(0:Int)],x5,())).1))*Ty.wb Ty.str<=140737488355328) (.ret ((((ai,af,()),ab,ae,aa++List.set [[]] (Int.toNat (↑0:Int)) (V2 (x1,x2,x3,ai,x4,[(0:Int),(0:Int),(0:Int),(0:Int),(0:Int),(0:Int)],x5,())).1,()),())))) (.ret ((((ai,af,()),ab,ae,aa,()),())))) (.ret ((((ai,af,()),ab,ae,aa,()),())))):=by kernel_rfl
attribute [local irreducible] V2 N1 in
theorem FJ:zY.Valid Tryz.prog 43:=by
  refine p7.n8 Rz rfl rfl Tryz.func43 (c:=d8 Tryz.prog 43) rfl rfl QV rfl ?_;rintro ⟨⟨⟨(v0:Int),(v1:Int),⟨⟩⟩,(al:List n9),(od:List yY),(wy:List yY),⟨⟩⟩,(k:Int),(f:Int),(t:Int),(s:Int),(x:yY),⟨⟩⟩ - -
  refine j6 (n:=1000) Rz QV ?_;refine i7 (Yx v0 v1 al od wy k f t s x) ?_;simp only [j7,Tree.holds,sL];have key:∀ r:f9,N1 ((v0,v1,()),al,od,wy,()) k f t s x=r->(((r,()):f9×Unit)=(N1 ((v0,v1,()),al,od,wy,()) k f t s x,())):=by rintro r rfl; rfl
  refine ⟨λ a=>⟨λ b=>⟨?_,λ _=>key _ ?_⟩,λ b=>key _ ?_⟩,λ a=>key _ ?_⟩
  . have b':wy.length<60:=by exact_mod_cast b
    refine ⟨?_,?_⟩
    . show wy.length+1<=140737488355328; omega
    . show (wy.length+1)*16<=140737488355328; omega
  . exact Kz a b
  . exact Fa (λ h=>b h.2)
  . exact Fa (λ h=>a h.1)
def vY (w:f9) (p:Int):f9×Int :=
  if known w p≠0 then (w,known w p) else ((w.1,w.2.1.set p.toNat (true,(w.2.1.getD p.toNat j8).2),w.2.2),0)
def GJ:p7:={ ps:=[.rw u7,.v d9],rs:=[d9],pre:=λ x=>List.length (α:=n9) (x.1:f9).2.1<=6,fn:=λ x=>((vY x.1 x.2.1).2,()),out:=λ x=>((vY x.1 x.2.1).1,()) }
noncomputable def HP:Env:={ P:=Tryz.prog,tt:=tt,C9:=[(49,Ar)],res:=[Go.ResultVar.tmp 4],rs:=[Ty.int IntKind.i64],ps:=[PK.rw u7,PK.v d9],B8:=[],nt:=19 }
theorem Rx:w7 HP:=x6 r7 ⟨FA,trivial⟩
theorem QT:C0 HP Tryz.f37:=⟨rfl,rfl⟩
theorem Yu (ai:Int) (af:Int) (ab:List n9) (ae:List yY) (aa:List yY) (x1:Int):exec HP 1000 [.code (d8 Tryz.prog 37)] (s5 GJ.ps ((((ai,af,()),ab,ae,aa,()),x1,()))) =
  .f8 (List.length ab<=6) (cond (decide (known ((ai,af,()),ab,ae,aa,()) x1≠(0:Int))) (.ret ((known ((ai,af,()),ab,ae,aa,()) x1,((ai,af,()),ab,ae,aa,()),()))) (.f8 ((0:Int)<=x1/\x1<(↑(List.length ab):Int)) (.ret (((0:Int),((ai,af,()),List.set ab (Int.toNat x1) (true,Prod.snd (List.getD ab (Int.toNat x1) (false,[],((0:Int),[],()),((0:Int),[],()),((0:Int),[],()),()))),ae,aa,()),()))))):=by kernel_rfl
theorem b8Z:GJ.Valid Tryz.prog 37:=by
  refine p7.n8 Rx rfl rfl Tryz.func37 (c:=d8 Tryz.prog 37) rfl rfl QT rfl ?_;rintro ⟨⟨⟨(v0:Int),(v1:Int),⟨⟩⟩,(al:List n9),(od:List yY),(wy:List yY),⟨⟩⟩,(p:Int),⟨⟩⟩ (hp:al.length<=6) -
  refine j6 (n:=1000) Rx QT ?_;refine i7 (Yu v0 v1 al od wy p) ?_;simp only [j7,Tree.holds,sL];have key:∀ r:f9×Int,vY ((v0,v1,()),al,od,wy,()) p=r->(((r.2,r.1,()):Int×f9×Unit)=((vY ((v0,v1,()),al,od,wy,()) p).2,(vY ((v0,v1,()),al,od,wy,()) p).1,())):=by rintro r rfl; rfl
  have cT:¬ known ((v0,v1,()),al,od,wy,()) p≠0->0<=p/\p<(al.length:Int):=by
    intro a;unfold known at a;split at a
    . rename_i hb;have:=W5.1 hb;simp only at this; omega
    . exact absurd (by decide) a
  refine ⟨hp,λ _=>⟨λ a=>key (_,_) ?_,λ a=>⟨cT a,λ _=>key (_,_) ?_⟩⟩⟩
  . rw [vY,if_pos a]; rfl
  . rw [vY,if_neg a]; rfl
def ttW:List (TypeId×TI):=(78,TI.mk R6 32)::(83,TI.mk ToT 32)::tt
theorem Ny:ttW.all (xC Tryz.prog)=true:=by kernel_rfl
def Mn:p7:={ ps:=[.v R6,.v .str],rs:=[R6,d9],new:=true,pre:=Hn.pre,fn:=λ x=>R9 x.1 x.2.1,out:=λ _=>() }
theorem c1N:Mn.Valid Tryz.prog 42:=b8Q.share (rs':=[R6,d9]) rfl rfl rfl
def Nl:p7:={ ps:=[.v R6,.v d9],rs:=[R6,d9],new:=true,pre:=IN.pre,fn:=λ x=>S7 x.1 x.2.1,out:=λ _=>() }
theorem b6J:Nl.Valid Tryz.prog 86:=b5d.share (rs':=[R6,d9]) rfl rfl rfl
def Hw:p7:={ ps:=[.v ToT,.v r8],rs:=[ToT,.d0 true .str,d9],new:=true,pre:=Ip.pre,fn:=λ x=>D9 x.1 x.2.1,out:=λ _=>() }
theorem TC:Hw.Valid Tryz.prog 83:=b6D.share (rs':=[ToT,.d0 true .str,d9]) rfl rfl rfl
end Go.Proofs.YtijlnmgondibnaaGreatDoor
