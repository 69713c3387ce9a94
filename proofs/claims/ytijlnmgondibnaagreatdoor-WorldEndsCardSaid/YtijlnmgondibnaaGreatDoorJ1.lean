import Derived.Test.YtijlnmgondibnaaGreatDoorProg
import Derived.Test.YtijlnmgondibnaaGreatDoorExW
import Derived.Test.YtijlnmgondibnaaGreatDoorRows
import Derived.Lib.LaidU8
import Derived.LaidMore
import Derived.LaidSub
import Derived.Shelf.Vars
import Derived.JoinedCond
import Derived.WalkKit
import Derived.Lib.Walk
import Derived.Shelf.RegionOpenPlain
import Derived.Lib.SliceRun
import Derived.Lib.Overlaps
import Derived.Lib.AppendZerosOnto
import Derived.Laws.Externs
import Derived.Laws.IdiomCopy
import Derived.Laws.NewBlocks
set_option linter.unusedVariables false
set_option linter.unusedSimpArgs false
set_option linter.unusedSectionVars false
namespace Go.Proofs.YtijlnmgondibnaaGreatDoor
open Go.Ex
set_option maxRecDepth 100000
abbrev f7:Ty:=.int .i64
abbrev U8:Ty:=.int .u8
abbrev Is:Ty:=.d0 true f7
abbrev Z9:Ty:=.arr 6 f7
abbrev d0e:Ty:=.arr 10 f7
abbrev View:Ty:=.pair f7 (.pair U8 .unit)
abbrev o7:Ty:=.pair f7 (.pair .str .unit)
abbrev ToT:Ty:=.pair f7 (.pair (.d0 false o7) .unit)
abbrev ToO:Ty:=.pair f7 (.pair (.d0 true o7) .unit)
abbrev T1:Ty:=.pair f7 (.pair (.d0 false .str) .unit)
abbrev Nj:Ty:=.pair f7 (.pair (.d0 true .str) .unit)
abbrev An:Ty:=.pair f7 (.pair f7 (.pair f7 (.pair f7 (.pair f7 (.pair Z9 (.pair .str .unit))))))
abbrev xL:Ty:=.pair .bool (.pair (.d0 true o7) (.pair T1 (.pair ToT (.pair ToT .unit))))
abbrev s9:Ty:=.pair View (.pair (.d0 true xL) (.pair (.d0 true .str) (.pair (.d0 true .str) .unit)))
abbrev VK:Ty:=.pair .bool (.pair (.d0 false o7) (.pair T1 (.pair ToT (.pair ToT .unit))))
abbrev I0:Ty:=.pair View (.pair (.d0 false VK) (.pair (.d0 false .str) (.pair (.d0 false .str) .unit)))
abbrev xo:Ty:=.pair f7 (.pair f7 (.pair f7 (.pair .str .unit)))
abbrev K5:Ty:=.d0 false o7
abbrev vM:Ty:=.pair .bool (.pair (.D4 o7) (.pair T1 (.pair ToT (.pair ToT .unit))))
abbrev wF:Ty:=.pair View (.pair (.d0 true vM) (.pair (.d0 true .str) (.pair (.d0 true .str) .unit)))
def tt:List (TypeId×TI):=[(2,TI.mk (Ty.int IntKind.i64) 8),(3,TI.mk (Ty.int IntKind.i64) 8),(4,TI.mk Ty.bool 1),(5,TI.mk (Ty.int IntKind.u8) 1),(6,TI.mk (Ty.int IntKind.u8) 1),(7,TI.mk (Ty.pair (Ty.int IntKind.i64) (Ty.pair (Ty.int IntKind.i64) (Ty.pair Ty.bool (Ty.pair (Ty.int IntKind.u8) Ty.unit)))) 24),(8,TI.mk (Ty.pair (Ty.int IntKind.i64) (Ty.pair (Ty.int IntKind.i64) (Ty.pair Ty.bool (Ty.pair (Ty.int IntKind.u8) Ty.unit)))) 24),(9,TI.mk Ty.str 16),(10,TI.mk Ty.str 16),(11,TI.mk Ty.str 16),(12,TI.mk (Ty.int IntKind.u64) 8),(13,TI.mk (Ty.pair Ty.str (Ty.pair (Ty.int IntKind.u64) Ty.unit)) 24),(14,TI.mk (Ty.pair Ty.str (Ty.pair (Ty.int IntKind.u64) Ty.unit)) 24),(21,TI.mk (Ty.int IntKind.i32) 4),(22,TI.mk (Ty.d0 true Ty.str) 24),(26,TI.mk (Ty.int IntKind.i64) 8),(33,TI.mk (Ty.d0 true (Ty.pair (Ty.int IntKind.i64) (Ty.pair Ty.str Ty.unit))) 24),(39,TI.mk (Ty.pair (Ty.int IntKind.i64) (Ty.pair Ty.str Ty.unit)) 24),(40,TI.mk (Ty.pair (Ty.int IntKind.i64) (Ty.pair Ty.str Ty.unit)) 24),(43,TI.mk (Ty.d0 true (Ty.pair (Ty.int IntKind.i64) (Ty.pair (Ty.int IntKind.i64) (Ty.pair (Ty.int IntKind.i64) (Ty.pair Ty.str Ty.unit))))) 24),(44,TI.mk (Ty.d0 true (Ty.d0 true Ty.str)) 24),(45,TI.mk (Ty.d0 true (Ty.int IntKind.i64)) 24),(53,TI.mk (Ty.arr 6 (Ty.d0 true Ty.str)) 144),(55,TI.mk (Ty.map true (Ty.int IntKind.i64) (Ty.int IntKind.i64)) 8),(56,TI.mk (Ty.pair (Ty.int IntKind.i64) (Ty.pair (Ty.int IntKind.u8) Ty.unit)) 16),(57,TI.mk (Ty.pair (Ty.int IntKind.i64) (Ty.pair (Ty.int IntKind.u8) Ty.unit)) 16),(59,TI.mk (Ty.arr 10 (Ty.int IntKind.i64)) 80),(60,TI.mk (Ty.arr 10 (Ty.int IntKind.i64)) 80),(68,TI.mk (Ty.d0 true (Ty.d0 true (Ty.pair (Ty.int IntKind.i64) (Ty.pair Ty.str Ty.unit)))) 24),(69,TI.mk (Ty.pair (Ty.int IntKind.i64) (Ty.pair (Ty.int IntKind.i64) (Ty.pair (Ty.int IntKind.i64) (Ty.pair Ty.str Ty.unit)))) 40),(70,TI.mk (Ty.pair (Ty.int IntKind.i64) (Ty.pair (Ty.int IntKind.i64) (Ty.pair (Ty.int IntKind.i64) (Ty.pair Ty.str Ty.unit)))) 40),(74,TI.mk (Ty.d0 true (Ty.pair Ty.bool (Ty.pair (Ty.d0 true (Ty.pair (Ty.int IntKind.i64) (Ty.pair Ty.str Ty.unit))) (Ty.pair (Ty.pair (Ty.int IntKind.i64) (Ty.pair (Ty.d0 true Ty.str) Ty.unit)) (Ty.pair (Ty.pair (Ty.int IntKind.i64) (Ty.pair (Ty.d0 true (Ty.pair (Ty.int IntKind.i64) (Ty.pair Ty.str Ty.unit))) Ty.unit)) (Ty.pair (Ty.pair (Ty.int IntKind.i64) (Ty.pair (Ty.d0 true (Ty.pair (Ty.int IntKind.i64) (Ty.pair Ty.str Ty.unit))) Ty.unit)) Ty.unit)))))) 24),(75,TI.mk (Ty.pair (Ty.pair (Ty.int IntKind.i64) (Ty.pair (Ty.int IntKind.u8) Ty.unit)) (Ty.pair (Ty.d0 true (Ty.pair Ty.bool (Ty.pair (Ty.d0 true (Ty.pair (Ty.int IntKind.i64) (Ty.pair Ty.str Ty.unit))) (Ty.pair (Ty.pair (Ty.int IntKind.i64) (Ty.pair (Ty.d0 true Ty.str) Ty.unit)) (Ty.pair (Ty.pair (Ty.int IntKind.i64) (Ty.pair (Ty.d0 true (Ty.pair (Ty.int IntKind.i64) (Ty.pair Ty.str Ty.unit))) Ty.unit)) (Ty.pair (Ty.pair (Ty.int IntKind.i64) (Ty.pair (Ty.d0 true (Ty.pair (Ty.int IntKind.i64) (Ty.pair Ty.str Ty.unit))) Ty.unit)) Ty.unit)))))) (Ty.pair (Ty.d0 true Ty.str) (Ty.pair (Ty.d0 true Ty.str) Ty.unit)))) 88),(76,TI.mk (Ty.pair (Ty.pair (Ty.int IntKind.i64) (Ty.pair (Ty.int IntKind.u8) Ty.unit)) (Ty.pair (Ty.d0 true (Ty.pair Ty.bool (Ty.pair (Ty.d0 true (Ty.pair (Ty.int IntKind.i64) (Ty.pair Ty.str Ty.unit))) (Ty.pair (Ty.pair (Ty.int IntKind.i64) (Ty.pair (Ty.d0 true Ty.str) Ty.unit)) (Ty.pair (Ty.pair (Ty.int IntKind.i64) (Ty.pair (Ty.d0 true (Ty.pair (Ty.int IntKind.i64) (Ty.pair Ty.str Ty.unit))) Ty.unit)) (Ty.pair (Ty.pair (Ty.int IntKind.i64) (Ty.pair (Ty.d0 true (Ty.pair (Ty.int IntKind.i64) (Ty.pair Ty.str Ty.unit))) Ty.unit)) Ty.unit)))))) (Ty.pair (Ty.d0 true Ty.str) (Ty.pair (Ty.d0 true Ty.str) Ty.unit)))) 88),(77,TI.mk (Ty.pair (Ty.int IntKind.i64) (Ty.pair (Ty.d0 true Ty.str) Ty.unit)) 32),(78,TI.mk (Ty.pair (Ty.int IntKind.i64) (Ty.pair (Ty.d0 true Ty.str) Ty.unit)) 32),(81,TI.mk (Ty.d0 true (Ty.pair (Ty.int IntKind.i64) (Ty.pair Ty.str Ty.unit))) 24),(82,TI.mk (Ty.pair (Ty.int IntKind.i64) (Ty.pair (Ty.d0 true (Ty.pair (Ty.int IntKind.i64) (Ty.pair Ty.str Ty.unit))) Ty.unit)) 32),(83,TI.mk (Ty.pair (Ty.int IntKind.i64) (Ty.pair (Ty.d0 true (Ty.pair (Ty.int IntKind.i64) (Ty.pair Ty.str Ty.unit))) Ty.unit)) 32),(84,TI.mk (Ty.pair Ty.bool (Ty.pair (Ty.d0 true (Ty.pair (Ty.int IntKind.i64) (Ty.pair Ty.str Ty.unit))) (Ty.pair (Ty.pair (Ty.int IntKind.i64) (Ty.pair (Ty.d0 true Ty.str) Ty.unit)) (Ty.pair (Ty.pair (Ty.int IntKind.i64) (Ty.pair (Ty.d0 true (Ty.pair (Ty.int IntKind.i64) (Ty.pair Ty.str Ty.unit))) Ty.unit)) (Ty.pair (Ty.pair (Ty.int IntKind.i64) (Ty.pair (Ty.d0 true (Ty.pair (Ty.int IntKind.i64) (Ty.pair Ty.str Ty.unit))) Ty.unit)) Ty.unit))))) 128),(85,TI.mk (Ty.pair Ty.bool (Ty.pair (Ty.d0 true (Ty.pair (Ty.int IntKind.i64) (Ty.pair Ty.str Ty.unit))) (Ty.pair (Ty.pair (Ty.int IntKind.i64) (Ty.pair (Ty.d0 true Ty.str) Ty.unit)) (Ty.pair (Ty.pair (Ty.int IntKind.i64) (Ty.pair (Ty.d0 true (Ty.pair (Ty.int IntKind.i64) (Ty.pair Ty.str Ty.unit))) Ty.unit)) (Ty.pair (Ty.pair (Ty.int IntKind.i64) (Ty.pair (Ty.d0 true (Ty.pair (Ty.int IntKind.i64) (Ty.pair Ty.str Ty.unit))) Ty.unit)) Ty.unit))))) 128),(88,TI.mk (Ty.arr 6 (Ty.int IntKind.i64)) 48),(89,TI.mk (Ty.arr 6 (Ty.int IntKind.i64)) 48),(90,TI.mk (Ty.pair (Ty.int IntKind.i64) (Ty.pair (Ty.int IntKind.i64) (Ty.pair (Ty.int IntKind.i64) (Ty.pair (Ty.int IntKind.i64) (Ty.pair (Ty.int IntKind.i64) (Ty.pair (Ty.arr 6 (Ty.int IntKind.i64)) (Ty.pair Ty.str Ty.unit))))))) 104),(91,TI.mk (Ty.pair (Ty.int IntKind.i64) (Ty.pair (Ty.int IntKind.i64) (Ty.pair (Ty.int IntKind.i64) (Ty.pair (Ty.int IntKind.i64) (Ty.pair (Ty.int IntKind.i64) (Ty.pair (Ty.arr 6 (Ty.int IntKind.i64)) (Ty.pair Ty.str Ty.unit))))))) 104),(103,TI.mk (Ty.pair (Ty.int IntKind.i64) (Ty.pair Ty.str Ty.unit)) 24),(104,TI.mk (Ty.pair (Ty.int IntKind.i64) (Ty.pair Ty.str Ty.unit)) 24),(115,TI.mk (Ty.d0 true (Ty.int IntKind.u8)) 24),(117,TI.mk (Ty.int IntKind.u32) 4),(119,TI.mk (Ty.int IntKind.u64) 8),(125,TI.mk (Ty.pair (Ty.int IntKind.i64) (Ty.pair (Ty.int IntKind.i64) (Ty.pair (Ty.int IntKind.i64) Ty.unit))) 24),(126,TI.mk (Ty.pair (Ty.int IntKind.i64) (Ty.pair (Ty.int IntKind.i64) (Ty.pair (Ty.int IntKind.i64) Ty.unit))) 24),(158,TI.mk (Ty.arr 24 (Ty.int IntKind.u8)) 24),(159,TI.mk (Ty.int IntKind.u64) 8),(169,TI.mk (Ty.int IntKind.i64) 8),(176,TI.mk (Ty.arr 20 (Ty.int IntKind.u64)) 160),(177,TI.mk (Ty.arr 65 (Ty.int IntKind.u8)) 65),(181,TI.mk (Ty.arr 256 Ty.bool) 256),(182,TI.mk (Ty.arr 256 Ty.bool) 256),(206,TI.mk (Ty.pair Ty.str Ty.unit) 16),(207,TI.mk (Ty.pair Ty.str Ty.unit) 16),(208,TI.mk (Ty.arr 32 (Ty.int IntKind.u8)) 32),(209,TI.mk (Ty.arr 64 (Ty.int IntKind.u8)) 64),(211,TI.mk (Ty.arr 256 (Ty.int IntKind.u8)) 256),(212,TI.mk (Ty.pair (Ty.int IntKind.u8) (Ty.pair (Ty.int IntKind.u8) Ty.unit)) 2),(213,TI.mk (Ty.pair (Ty.int IntKind.u8) (Ty.pair (Ty.int IntKind.u8) Ty.unit)) 2),(214,TI.mk (Ty.arr 16 (Ty.pair (Ty.int IntKind.u8) (Ty.pair (Ty.int IntKind.u8) Ty.unit))) 32),(222,TI.mk (Ty.int IntKind.u8) 1),(223,TI.mk (Ty.int IntKind.u8) 1),(225,TI.mk (Ty.int IntKind.i32) 4),(226,TI.mk (Ty.int IntKind.i32) 4),(25,{ ty:=Ty.box true none s9,by_:=8 }),(94,{ ty:=Ty.fn 79,by_:=8 })]
theorem s7:tt.all (yc Tryz.prog)=true:=by kernel_rfl
theorem own:ownKnob Tryz.prog.godebug=none:=by kernel_rfl
theorem laid:laidOutB Tryz.prog=true:=by kernel_rfl
abbrev _root_.Go.Ex.Tree.ctL {ts:List Ty} (q:Code×List Item) (s:St):Tree ts:=.cut q.1 q.2 s
end Go.Proofs.YtijlnmgondibnaaGreatDoor
namespace Go.Proofs.YtijlnmgondibnaaGreatDoor
open Go.Ex Go.ChangeShapes Go.WideShapes Go.ChangeAt Go.RowKit
set_option maxRecDepth 100000
theorem ZE {X:Type} {enc:TypeId×Value->X} {C:Checked} {os:Os} {f:FuncId} {fn:Func} {s:ChangeSpec} {conds:List PathCond} {apart fresh handsOn again:Bool} {us:List Ty} {tb:TypeId} {a:Assume} {Y:World->Array Value->Prop}
    (hX:∀ (w w':World) (args:Array Value),w.heap=w'.heap->Y w args->Y w' args)
    (own:ownKnob C.prog.godebug=none) (started:os.Started) (noInit:C.prog.inits.idxOf? f=none) (jW:C.prog.funcs[f]?=some fn)
    (witness:∃ (w:World) (tape:Tape) (i:Input),w.os=os/\(w.forCall tape i).Shaped C.prog/\i.vars=[]/\Input.okWide C.prog (w.forCall tape i) .any w.heap.size f i /\
      ((s.pre enc C.prog fn conds apart (w.forCall tape i).memory i.args/\Y (w.forCall tape i).memory i.args)/\sizedMet enc C.prog fn (OpenSpec.ofChange s) apart (w.forCall tape i).memory i.args)/\a.holds C.prog (lone (Frame.enter C.prog f i.args .normal) [] (w.forCall tape i)))
    (hl:laidOutB C.prog=true) (di:zJ C.prog fn.params.toList us=true) (hY:s.vars=[]) (hs:∀ ds:List (DataW X),ds.length=fn.params.toList.length->s.fn X ds={ results:=[.lit (.bool true)],args:=ds })
    (eO:fn.resultTypes=#[tb]) (oz:C.prog.underlying tb=some .bool) (hv:(GO us (λ _=>True)).Valid C.prog f) (ed:∀ W args,W.ShapedOpen C.prog->Y W args->vI C.prog W (λ b=>b<W.heap.size)) :
    ReturnsInHanded a C os f .any (λ w args=>(s.pre enc C.prog fn conds apart w args/\Y w args)/\sizedMet enc C.prog fn (OpenSpec.ofChange s) apart w args) (s.post enc C.prog fn apart fresh handsOn again):=by
  refine returnsInHanded_of_calls own started noInit witness ?_;intro w tape i _ cj _ aH bc qf;obtain ⟨_,_,_,fn',jb,_,_,_,_,dH⟩:=aH;have e:fn'=fn:=aEe (jb.symm.trans jW);subst e;obtain ⟨⟨⟨ds,gs,before,hw,hc⟩,hx⟩,hz⟩:=bc;have hJ:=DataW.Whole.of_heap (w':=w.forCall tape i) (by rfl) hw;refine (c4n (apart:=apart) (fresh:=fresh) (handsOn:=handsOn) (again:=again) hl di hY hs eO oz hv (ed _ _ cj (hX _ _ _ (by rfl) hx)) (λ _ _=>trivial) dH hJ).mono λ e W' ⟨v,he,hp⟩=>?_;subst he;exact ChangeSpec.post_blind hp
theorem Oo {P:Program} {W:World} {n:String} {g:Nat} {cs:Array Value} (hg:P.globalNamed n=some g) (h:W.var? P n=some cs):g<W.heap.size:=by
  unfold World.var? at h;rw [hg,aGj] at h;by_cases bf:g<W.heap.size
  . exact bf
  . rw [aCj (by omega)] at h;cases h
theorem YA {P:Program} {W:World} {n:String} {g:Nat} {v:Value} (hg:P.globalNamed n=some g) (h:W.cell? ⟨g,0,none⟩=some v):∃ cs,W.var? P n=some cs/\cs[0]?=some v:=by
  unfold World.var?;rw [hg,aGj];unfold World.cell? at h;split at h
  . rename_i cs T fz hh;exact ⟨cs,by rw [hh],h⟩
  . cases h
theorem XF {l:List (String×DataW Unit)} {W:World} (cj:W.ShapedOpen Tryz.prog) (hl:laidMetH Tryz.prog l W) (hf:(l.filter λ x=>x.2.handleName?.isSome)=[]) (hm:("internal/strconv.uint64pow10",Rows.laid_internal_strconv_uint64pow10)∈l) :
    vI Tryz.prog W (λ b=>b<W.heap.size):=by
  unfold laidMetH at hl;rw [hf] at hl;obtain ⟨g,t,cs,fuel,p,h1,h2,h3,h4⟩:=Lib.laidMet.reads hl hm;intro x hx g' kH;simp only [IV,aAq,List.mem_nil_iff,or_false] at hx;rcases hx with rfl|rfl
  . refine ⟨Oo kH h3,cs,h3,?_⟩;obtain rfl:=aEe ((show Tryz.prog.globalNamed "internal/strconv.uint64pow10"=some 0 by kernel_rfl).symm.trans h1)
    obtain rfl:=aEe ((show (Tryz.prog.globals[0]?).map (·.type)=some 176 by kernel_rfl).symm.trans h2);have:=Lib.cells_of_tab (n:=20) (e:=159) (k:=.u64) (zs:=(List.range 20).map λ i=>((10^i:Nat):Int)) (by kernel_rfl) (by kernel_rfl) (by kernel_rfl) (by kernel_rfl) h4;rw [<- this]
  . obtain rfl:=aEe ((show Tryz.prog.globalNamed "internal/bytealg.MaxLen"=some 1 by kernel_rfl).symm.trans kH)
    obtain ⟨m,hm⟩:=cell_of_shapedOpen_int (g:=1) (t:=3) (zero:=#[.int .i64 0]) (k:=.i64) cj (aCy (by kernel_rfl)) (by kernel_rfl) rfl (by kernel_rfl) (by kernel_rfl) (by kernel_rfl);obtain ⟨cs,k1,k2⟩:=YA (show Tryz.prog.globalNamed "internal/bytealg.MaxLen"=some 1 by kernel_rfl) hm
    exact ⟨Oo (show Tryz.prog.globalNamed "internal/bytealg.MaxLen"=some 1 by kernel_rfl) k1,cs,k1,m,k2⟩
end Go.Proofs.YtijlnmgondibnaaGreatDoor
namespace Go.Proofs.YtijlnmgondibnaaGreatDoor
open Go.Ex
set_option maxRecDepth 100000
theorem G6 {n:Int}:w4 .i64 n↔-9223372036854775808<=n/\n<=9223372036854775807:=aIc
theorem sL:(∀p,(True/\p)=p)/\(∀p:Prop,(True->p)=p)/\(∀(p:Prop)[Decidable p],(decide p=true)=p)/\(∀(p:Prop)[Decidable p],(decide p=false)=¬p)/\(∀b:Bool,((!b)=true)=(b=false))/\(∀b:Bool,((!b)=false)=(b=true))/\(∀n:Nat,Int.toNat (n:Int)=n)/\(∀n,w4 .i64 n=(-9223372036854775808<=n/\n<=9223372036854775807))/\(∀(α:Type)(l:List α)(i:Nat)(a:α),(l.set i a).length=l.length)/\(∀(α:Type)(a:α)(l:List α),(a::l).length=l.length+1)/\(∀α:Type,([]:List α).length=0):=
  ⟨λ _=>true_and _,λ _=>true_implies _,λ _ _=>decide_eq_true_eq,λ _ _=>propext decide_eq_false_iff_not,λ _=>aAu _,λ _=>aFc _,λ _=>rfl,λ _=>propext G6,λ _ _ _ _=>aBj,λ _ _ _=>rfl,λ _=>rfl⟩
theorem Xa:Ty.wb f7=8:=rfl
theorem Ib:Ty.wb U8=1:=rfl
theorem yes:((true,()):Bool×Unit)=(true,()):=rfl
theorem FF {α:Type} {l:List α} {i:Nat} (h:i<l.length) (d:α):l.drop i=l.getD i d::l.drop (i+1):=by
  rw [aFg h,aAb,aAf h]; rfl
theorem Fk {α:Type} {l:List α} {i:Nat} {d:α} (h:i<l.length):l.getD i d∈l:=by
  rw [aAb,aAf h]; exact aCn h
theorem ZH {α:Type} {l:List α} {x d:α} (h:x∈l):∃ i,i<l.length/\l.getD i d=x:=by
  obtain ⟨i,hi,e⟩:=aHz h;exact ⟨i,hi,by rw [aAb,aAf hi,e]; rfl⟩
theorem xR {α:Type} {l:List α} {i j:Nat} {x d:α} (h:i<l.length):(l.set i x).getD j d=if j=i then x else l.getD j d:=by
  rw [aAb,aAb,aFj];by_cases e:i=j
  . subst e; simp [h]
  . rw [if_neg e,if_neg (λ h=>e h.symm)]
theorem eq_of_getD {α:Type} {l m:List α} {d:α} (hl:l.length=m.length) (h:∀ i,i<l.length->l.getD i d=m.getD i d):l=m:=by
  refine aFp hl (λ i h1 h2=>?_);have:=h i h1
  rwa [aAb,aAb,aAf h1,aAf h2] at this
theorem b5p {α:Type} {n i:Nat} (f:Nat->α) (x:α) (hi:i<n):((List.range n).map f).set i x=(List.range n).map (λ j=>if j=i then x else f j):=by
  refine aFp (by simp) (λ j h1 h2=>?_);rw [List.getElem_set];simp only [List.getElem_map,List.getElem_range];by_cases e:i=j
  . rw [if_pos e,if_pos e.symm]
  . rw [if_neg e,if_neg (λ h=>e h.symm)]
def X9 {α:Type} (p:α->Bool):List α->Nat->Int
  | [],_=>-1
  | x::l,i=>if p x=true then (i:Int) else X9 p l (i+1)
def idxOf {α:Type} (p:α->Bool) (l:List α):Int:=X9 p l 0
theorem KW {α:Type} {p:α->Bool}:∀ {l:List α} {i:Nat},0<=X9 p l i↔∃ x∈l,p x=true
  | [],i=>by simp [X9]
  | x::l,i=>by
    rw [X9]
    split
    . rename_i h; exact ⟨λ _=>⟨x,by simp,h⟩,λ _=>by omega⟩
    . rename_i h;rw [KW];constructor
      . rintro ⟨y,h1,h2⟩; exact ⟨y,by simp [h1],h2⟩
      . rintro ⟨y,h1,h2⟩;rcases aAq.1 h1 with rfl|h1
        . exact absurd h2 h
        . exact ⟨y,h1,h2⟩
theorem EV {α:Type} {p:α->Bool} {l:List α}:decide (0<=idxOf p l)=l.any p:=by
  cases e:l.any p with
  | true =>
    obtain ⟨x,h1,h2⟩:=aEr.1 e;exact decide_eq_true (KW.2 ⟨x,h1,h2⟩)
  | false =>
    refine decide_eq_false (λ h=>?_);obtain ⟨x,h1,h2⟩:=KW.1 h;rw [aEr.2 ⟨x,h1,h2⟩] at e;cases e
end Go.Proofs.YtijlnmgondibnaaGreatDoor
namespace Go.Proofs.YtijlnmgondibnaaGreatDoor
def step (r:Nat):Nat:=if r % 2=1 then (r / 2) ^^^ 2197175160 else r / 2
theorem Xt {r:Nat} (h:r<4294967296):step r<4294967296:=by
  unfold step
  split
  . exact aFz (n:=32) (by omega) (by decide)
  . omega
def steps:Nat->Nat->Nat
  | 0,r=>r
  | k+1,r=>steps k (step r)
theorem JZ:∀ (k:Nat) {r:Nat},r<4294967296->steps k r<4294967296
  | 0,_,h=>h
  | k+1,_,h=>JZ k (Xt h)
theorem SU:∀ (a b r:Nat),steps (a+b) r=steps b (steps a r)
  | 0,b,r=>by rw [aEz]; rfl
  | a+1,b,r=>by rw [show a+1+b=(a+b)+1 by omega]; simp only [steps]; exact SU a b _
def byt (r b:Nat):Nat:=steps 8 (r ^^^ b)
def reg (r:Nat) (s:yY):Nat:=s.foldl (λ r b=>byt r b.toNat) r
def vZ (s:yY):Nat:=reg 4294967295 s ^^^ 4294967295
theorem Xn (r:Nat) (s t:yY):reg r (s++t)=reg (reg r s) t:=by simp [reg]
theorem VE {r:Nat} (h:r<4294967296) (b:UInt8):byt r b.toNat<4294967296:=JZ 8 (aFz (n:=32) h (by have:=b.toNat_lt; omega))
theorem Ov:∀ {s:yY} {r:Nat},r<4294967296->reg r s<4294967296
  | [],_,h=>h
  | b::s,r,h=>show reg (byt r b.toNat) s<_ from Ov (VE h b)
def le4 (x:Nat):yY:=[UInt8.ofNat x,UInt8.ofNat (x / 2^8),UInt8.ofNat (x / 2^16),UInt8.ofNat (x / 2^24)]
end Go.Proofs.YtijlnmgondibnaaGreatDoor
namespace Go.Proofs.YtijlnmgondibnaaGreatDoor
open Go.Ex
set_option maxRecDepth 100000
def inF (n a b:Int):Bool:=decide (a<=n) && decide (n<=b)
theorem yp {n a b:Int}:inF n a b=true↔a<=n/\n<=b:=by simp [inF]
theorem Jh {α:Type} {l:List α} {i j:Int} (h0:0<=i) (h1:i<=j) (h2:j<=(l.length:Int)):o6 j (l.length:Int) l=l.drop j.toNat:=by
  rw [o6]; exact aAw (by rw [aAo]; omega)
theorem OK {α:Type} {l:List α} {i j:Int} (h0:0<=i) (h1:i<=j) (h2:j<=(l.length:Int)):((o6 j (l.length:Int) l).length:Int)=(l.length:Int) - j/\(List.take i.toNat l++o6 j (l.length:Int) l++List.drop (i.toNat+(o6 j (l.length:Int) l).length) l).length=l.length:=by
  rw [Jh h0 h1 h2];simp only [aAd,aAn,aAo];omega
theorem XB {α:Type} {l:List α} {d:List α} {i j:Int} (h0:0<=i) (h1:i<=j) (h2:j<=(l.length:Int)) {r:Nat} :
    o6 (0:Int) (i+(↑(List.length (o6 j (↑(List.length l):Int) l)):Int)) (List.take (Int.toNat ((0:Int)+(i+(↑(List.length (o6 j (↑(List.length l):Int) l)):Int) - (0:Int)))) (List.take (Int.toNat i) l++o6 j (↑(List.length l):Int) l++List.drop (Int.toNat i+List.length (o6 j (↑(List.length l):Int) l)) l)++d++List.drop r (List.take (Int.toNat i) l++o6 j (↑(List.length l):Int) l++List.drop (Int.toNat i+List.length (o6 j (↑(List.length l):Int) l)) l))=List.take i.toNat l++List.drop j.toNat l:=by
  obtain ⟨e1,e2⟩:=OK h0 h1 h2 (l:=l);rw [Jh h0 h1 h2] at e1 e2 ⊢;generalize hX:List.take i.toNat l++List.drop j.toNat l++List.drop (i.toNat+(List.drop j.toNat l).length) l=X at e2 ⊢;have em:(0+(i+((List.drop j.toNat l).length:Int) - 0)).toNat=(List.take i.toNat l++List.drop j.toNat l).length:=by
    simp only [aAd,aAn]; omega
  have en:(i+((List.drop j.toNat l).length:Int) - 0).toNat=(List.take i.toNat l++List.drop j.toNat l).length:=by
    simp only [aAd,aAn]; omega
  rw [o6,em,en,Int.toNat_zero,aBz,aAj,aDq (by
    rw [aAn,e2];simp only [aAd,aAn,aAo]; omega),aCs,Nat.min_self,<- hX,aGu]
def rest (a n:Int):Int:=if n<=0 then 0 else Int.tmod (Int.tmod a n+n) n
def HT:r9:={ ps:=[.v f7,.v f7],rs:=[f7],pre:=λ x=>LE.le (α:=Int) x.2.1 1000000000,fn:=λ x=>(rest x.1 x.2.1,()),out:=λ _=>() }
noncomputable def HE:Env:={ P:=Tryz.prog,tt:=tt,E3:=[],res:=[Go.ResultVar.tmp 4],rs:=[Ty.int IntKind.i64],ps:=[PK.v f7,PK.v f7],D5:=[],nt:=14 }
theorem Ql:B8 HE:=C4 s7 trivial
theorem QC:D7 HE Tryz.f39:=⟨rfl,rfl⟩
theorem WE (x0:Int) (x1:Int):exec HE 1000 [.code (d8 Tryz.prog 39)] (w9 HT.ps ((x0,x1,()))) =
  cond (decide (x1<=(0:Int))) (.ret (((0:Int),()))) (.f8 ((0:Int)<x1) (.f8 (w4 IntKind.i64 (Int.tmod x0 x1+x1)) (.f8 ((0:Int)<x1) (.ret ((Int.tmod (Int.tmod x0 x1+x1) x1,())))))):=by kernel_rfl
theorem b84:HT.Valid Tryz.prog 39:=by
  refine r9.p7 Ql rfl rfl Tryz.func39 (c:=d8 Tryz.prog 39) rfl rfl QC rfl ?_;rintro ⟨(x0:Int),(x1:Int),⟨⟩⟩ hp -
  refine j6 (n:=1000) Ql QC ?_;refine i7 (WE x0 x1) ?_;have hp:x1<=1000000000:=hp;simp only [j7,Tree.holds,sL];refine ⟨λ a=>?_,λ a=>?_⟩
  . show ((0,()):Int×Unit)=(rest x0 x1,());rw [rest,if_pos a]
  . have h0:0<x1:=by omega
    have h1:=aEi x0 h0;have h2:-x1<Int.tmod x0 x1:=by
      have:=aEi (-x0) h0;rw [aGh] at this;omega
    refine ⟨h0,λ _=>⟨by omega,λ _=>⟨h0,λ _=>?_⟩⟩⟩;show ((_,()):Int×Unit)=(rest x0 x1,());rw [rest,if_neg a]
theorem Pw {a n:Int} (h:0<n):0<=rest a n/\rest a n<n:=by
  have h1:=aEi (-a) h;rw [aGh] at h1;rw [rest,if_neg (by omega)];exact ⟨Int.tmod_nonneg _ (by omega),aEi _ h⟩
end Go.Proofs.YtijlnmgondibnaaGreatDoor
namespace Go.Proofs.YtijlnmgondibnaaGreatDoor
open Go.Ex
instance {k:IntKind} {n:Int}:Decidable (w4 k n):=inferInstanceAs (Decidable (_/\_))
def bit (x:Int) (i:Nat):Bool:=x.toNat.testBit i
section
variable {k:IntKind} {x y:Int}
theorem Cd (hk:k.signed=false):w4 k x↔0<=x/\x<2^k.bits:=by
  cases k<;>simp [IntKind.signed] at hk<;>simp [w4,IntKind.min,IntKind.max,IntKind.signed,IntKind.bits]<;>omega
theorem Ej (hk:k.signed=false) (b:BitVec k.bits):k.wrap (b.toNat:Int)=(b.toNat:Int):=by
  refine V2 ((Cd hk).2 ⟨aGb _,?_⟩);have:=b.isLt
  exact_mod_cast this
theorem za (hk:k.signed=false) (hx:w4 k x) (i:Nat):(BitVec.ofInt k.bits x).getLsbD i=bit x i:=by
  obtain ⟨h0,h1⟩:=(Cd hk).1 hx;obtain ⟨n,rfl⟩:=aEj h0;have hn:n<2^k.bits:=by exact_mod_cast h1
  rw [BitVec.ofInt_natCast,BitVec.getLsbD_ofNat];simp only [bit,aCa];by_cases hi:i<k.bits
  . simp [hi]
  . have:n.testBit i=false:=aHf (aAs hn (aFw (by omega) (by omega)));simp [this]
theorem OD (hk:k.signed=false) (hx:w4 k x) {i:Nat} (hi:k.bits<=i):bit x i=false:=by
  obtain ⟨h0,h1⟩:=(Cd hk).1 hx;obtain ⟨n,rfl⟩:=aEj h0;have hn:n<2^k.bits:=by exact_mod_cast h1
  exact aHf (aAs hn (aFw (by omega) hi))
theorem OC (hk:k.signed=false) (hx:w4 k x) (hy:w4 k y) (i:Nat):bit (U2 k x y) i=(bit x i && bit y i):=by
  rw [U2,Ej hk,bit,aCa,BitVec.testBit_toNat,BitVec.getLsbD_and,za hk hx,za hk hy]
theorem NU (hk:k.signed=false) (hx:w4 k x) (hy:w4 k y) (i:Nat):bit (bOr k x y) i=(bit x i || bit y i):=by
  rw [bOr,Ej hk,bit,aCa,BitVec.testBit_toNat,BitVec.getLsbD_or,za hk hx,za hk hy]
theorem Ye (hk:k.signed=false) (hx:w4 k x) (hy:w4 k y) (i:Nat):bit (wt k x y) i=(bit x i ^^ bit y i):=by
  rw [wt,Ej hk,bit,aCa,BitVec.testBit_toNat,BitVec.getLsbD_xor,za hk hx,za hk hy]
theorem Tb (hk:k.signed=false) (hx:w4 k x) (hy:w4 k y) (i:Nat):bit (T8 k x y) i=(bit x i && !bit y i):=by
  rw [T8,Ej hk,bit,aCa,BitVec.testBit_toNat,BitVec.getLsbD_and,BitVec.getLsbD_not,za hk hx,za hk hy];by_cases hi:i<k.bits
  . simp [hi]
  . rw [OD hk hx (by omega)]; simp
theorem Oh:w4 k (U2 k x y):=V7 _ _
theorem HO:w4 k (bOr k x y):=V7 _ _
theorem Xc:w4 k (wt k x y):=V7 _ _
theorem AY:w4 k (T8 k x y):=V7 _ _
theorem Km (hx:0<=x) (hy:0<=y) (h:∀ i,bit x i=bit y i):x=y:=by
  have:x.toNat=y.toNat:=Nat.eq_of_testBit_eq h;omega
theorem c3E (hx:0<=x):x=0↔∀ i,bit x i=false:=by
  constructor
  . rintro rfl i; simp [bit]
  . intro h; exact Km hx (by omega) (λ i=>by rw [h i]; simp [bit])
end
theorem u8s:IntKind.u8.signed=false:=rfl
theorem u8_in {x:Int}:w4 .u8 x↔0<=x/\x<=255:=aIc
def NA (n:Nat):Nat:=((List.range 8).map λ i=>(n.testBit i).toNat).sum
def wo (m:Int):Int:=(NA m.toNat:Int)
theorem XS (m:Int):wo m=((bit m 0).toNat+(bit m 1).toNat+(bit m 2).toNat+(bit m 3).toNat+(bit m 4).toNat+(bit m 5).toNat+(bit m 6).toNat+(bit m 7).toNat:Nat):=by
  simp only [wo,NA,List.range,List.range.loop,aCf,aFt,aEf,List.sum_nil,bit];omega
theorem toNat_le (b:Bool):b.toNat<=1:=by cases b<;>decide
theorem PN (m:Int):0<=wo m/\wo m<=8:=by
  rw [XS];have:=toNat_le (bit m 0); have:=toNat_le (bit m 1); have:=toNat_le (bit m 2); have:=toNat_le (bit m 3);have:=toNat_le (bit m 4); have:=toNat_le (bit m 5); have:=toNat_le (bit m 6); have:=toNat_le (bit m 7);omega
end Go.Proofs.YtijlnmgondibnaaGreatDoor
namespace Go.Proofs.YtijlnmgondibnaaGreatDoor
open Go.Ex
set_option maxRecDepth 100000
theorem AS {n:Int}:w4 .u32 n↔0<=n/\n<=4294967295:=aIc
theorem Yv {k:IntKind} (hk:k.signed=false) {a b:Nat} (ha:w4 k a) (hb:w4 k b):wt k (a:Int) (b:Int)=((a ^^^ b:Nat):Int) :=
  Km ((Cd hk).1 Xc).1 (aGb _) (λ i=>by rw [Ye hk ha hb]; simp [bit,Nat.testBit_xor])
theorem Yu {k:IntKind} (hk:k.signed=false) {a b:Nat} (ha:w4 k a) (hb:w4 k b):U2 k (a:Int) (b:Int)=((a &&& b:Nat):Int) :=
  Km ((Cd hk).1 Oh).1 (aGb _) (λ i=>by rw [OC hk ha hb]; simp [bit,Nat.testBit_and])
theorem Ic {a b:Nat} (ha:a<4294967296) (hb:b<4294967296):wt .u32 (a:Int) (b:Int)=((a ^^^ b:Nat):Int):=Yv rfl (AS.2 ⟨by omega,by omega⟩) (AS.2 ⟨by omega,by omega⟩)
theorem VP {a:Nat} (ha:a<4294967296):U2 .u32 (a:Int) 1=((a % 2:Nat):Int):=by
  have:=Yu (k:=.u32) rfl (a:=a) (b:=1) (AS.2 ⟨by omega,by omega⟩) (AS.2 ⟨by omega,by omega⟩);rw [Nat.and_one_is_mod] at this;exact this
def DX:r9:={ ps:=[.v .str],rs:=[.int .u32],pre:=λ _=>True,fn:=λ x=>(((vZ x.1:Nat):Int),()),out:=λ _=>() }
noncomputable def Bq:Env:={ P:=Tryz.prog,tt:=tt,E3:=[],res:=[Go.ResultVar.tmp 2],rs:=[Ty.int IntKind.u32],ps:=[PK.v Ty.str],D5:=[(3,[(0,none),(3,none),(7,none),(8,none)]),(7,[(0,none),(3,none),(7,none),(8,none),(17,none)])],nt:=31 }
theorem Fc:B8 Bq:=C4 s7 trivial
theorem Ff:D7 Bq Tryz.f63:=⟨rfl,rfl⟩
theorem Wc (x0:yY):exec Bq 1000 [.code (d8 Tryz.prog 63)] (w9 DX.ps ((x0,()))) =
  .ctL (f9 (d8 Tryz.prog 63) 3) (St.mk [(0,AV.val Ty.str x0),(3,AV.val (Ty.int IntKind.u32) (4294967295:Int)),(7,AV.val f7 (↑(List.length x0):Int)),(8,AV.val f7 (0:Int))] []):=by kernel_rfl
def OW (v0:yY) (v3:Int) (v7:Int) (v8:Int):St:=St.mk [(0,AV.val Ty.str v0),(3,AV.val (Ty.int IntKind.u32) v3),(7,AV.val f7 v7),(8,AV.val f7 v8)] []
theorem Xd (v0:yY) (v3:Int) (v7:Int) (v8:Int):exec Bq 1000 (.code (f9 (d8 Tryz.prog 63) 3).1::.inLoop (f9 (d8 Tryz.prog 63) 3).1::(f9 (d8 Tryz.prog 63) 3).2) (OW v0 v3 v7 v8) =
  cond (decide (v8<v7)) (.f8 ((0:Int)<=v8/\v8<(↑(List.length v0):Int)) (.ctL (f9 (d8 Tryz.prog 63) 7) (St.mk [(0,AV.val Ty.str v0),(3,AV.val (Ty.int IntKind.u32) (wt IntKind.u32 v3 (IntKind.wrap IntKind.u32 (↑(UInt8.toNat (List.getD v0 (Int.toNat v8) (0:UInt8))):Int)))),(7,AV.val f7 v7),(8,AV.val f7 v8),(17,AV.val f7 (0:Int))] []))) (.ret ((wt IntKind.u32 (if IntKind.signed IntKind.u32=true then (-1:Int) else IntKind.max IntKind.u32) v3,()))):=by kernel_rfl
def OX (v0:yY) (v3:Int) (v7:Int) (v8:Int) (vY:Int):St:=St.mk [(0,AV.val Ty.str v0),(3,AV.val (Ty.int IntKind.u32) v3),(7,AV.val f7 v7),(8,AV.val f7 v8),(17,AV.val f7 vY)] []
theorem Xe (v0:yY) (v3:Int) (v7:Int) (v8:Int) (vY:Int):exec Bq 1000 (.code (f9 (d8 Tryz.prog 63) 7).1::.inLoop (f9 (d8 Tryz.prog 63) 7).1::(f9 (d8 Tryz.prog 63) 7).2) (OX v0 v3 v7 v8 vY) =
  cond (decide (vY<(8:Int))) (.f8 ((0:Int)<=(1:Int)) (cond (decide (U2 IntKind.u32 v3 (1:Int)=(1:Int))) (.f8 (w4 IntKind.i64 (vY+(1:Int))) (.ctL (f9 (d8 Tryz.prog 63) 7) (St.mk [(0,AV.val Ty.str v0),(3,AV.val (Ty.int IntKind.u32) (wt IntKind.u32 (v3 / (2:Int)^min (Int.toNat (1:Int)) (IntKind.bits IntKind.u32)) (2197175160:Int))),(7,AV.val f7 v7),(8,AV.val f7 v8),(17,AV.val f7 (vY+(1:Int)))] []))) (.f8 (w4 IntKind.i64 (vY+(1:Int))) (.ctL (f9 (d8 Tryz.prog 63) 7) (St.mk [(0,AV.val Ty.str v0),(3,AV.val (Ty.int IntKind.u32) (v3 / (2:Int)^min (Int.toNat (1:Int)) (IntKind.bits IntKind.u32))),(7,AV.val f7 v7),(8,AV.val f7 v8),(17,AV.val f7 (vY+(1:Int)))] []))))) (.f8 (w4 IntKind.i64 (v8+(1:Int))) (.ctL (f9 (d8 Tryz.prog 63) 3) (St.mk [(0,AV.val Ty.str v0),(3,AV.val (Ty.int IntKind.u32) v3),(7,AV.val f7 v7),(8,AV.val f7 (v8+(1:Int)))] []))):=by kernel_rfl
theorem c04 (k r:Nat):steps (k+1) r=step (steps k r):=by rw [SU k 1]; rfl
theorem ZM {s:yY} {i:Nat} (h:i<s.length) (r:Nat):reg r (s.take (i+1))=steps 8 (reg r (s.take i) ^^^ (s.getD i 0).toNat):=by
  rw [aGd,aAf h,Xn,aAb,aAf h];rfl
theorem To:DX.Valid Tryz.prog 63:=by
  refine r9.p7 Fc rfl rfl Tryz.func63 (c:=d8 Tryz.prog 63) rfl rfl Ff rfl ?_;rintro ⟨(s:yY),⟨⟩⟩ - ⟨hl,-⟩;have hl:s.length<=9223372036854775807:=hl;refine j6 (n:=1000) Fc Ff ?_;refine i7 (Wc s) ?_;refine Reach.N4 Fc Ff (λ i:Nat=>OW s ((reg 4294967295 (s.take i):Nat):Int) (s.length:Int) (i:Int)) (λ i=>i<=s.length)
    (λ i=>s.length - i) 1000 (λ i=>⟨w6 rfl,w6 rfl⟩) ?_ 0 (by omega)
  rintro i hi - ih;refine i7 (Xd ..) ?_;simp only [j7,Tree.holds,sL];have hr:=Ov (s:=s.take i) (r:=4294967295) (by decide);have hb:(s.getD i 0).toNat<256:=UInt8.toNat_lt _;refine ⟨λ a=>⟨⟨by omega,by omega⟩,λ _=>?_⟩,λ a=>?_⟩
  . have uN:reg 4294967295 (s.take i) ^^^ (s.getD i 0).toNat<4294967296:=aFz (n:=32) hr (by omega);rw [show IntKind.wrap IntKind.u32 ((s.getD i 0).toNat:Int)=((s.getD i 0).toNat:Int) from V2 (AS.2 ⟨by omega,by omega⟩),Ic hr (by omega)];refine Reach.N4 Fc Ff (λ j:Nat=>OX s ((steps j (reg 4294967295 (s.take i) ^^^ (s.getD i 0).toNat):Nat):Int) (s.length:Int) (i:Int) (j:Int)) (λ j=>j<=8)
      (λ j=>8 - j) 1000 (λ i=>⟨w6 rfl,w6 rfl⟩) ?_ 0 (by omega)
    rintro j hj - ih2;refine i7 (Xe ..) ?_;have hs:=JZ j uN;have hn:=c04 j (reg 4294967295 (s.take i) ^^^ (s.getD i 0).toNat);have he:steps 8 (reg 4294967295 (s.take i) ^^^ (s.getD i 0).toNat)=reg 4294967295 (s.take (i+1))\/¬ i<s.length:=by
      by_cases h:i<s.length
      . exact .inl (ZM h _).symm
      . exact .inr h
    generalize hR:steps j (reg 4294967295 (s.take i) ^^^ (s.getD i 0).toNat)=r at *
    have hd:((r:Nat):Int) / 2^min (Int.toNat 1) (IntKind.bits IntKind.u32)=((r / 2:Nat):Int):=by
      show ((r:Nat):Int) / 2^1=_;omega
    rw [hd,VP hs,show (2197175160:Int)=((2197175160:Nat):Int) from rfl,Ic (by omega) (by decide)];simp only [j7,Tree.holds,decide_eq_true_eq,decide_eq_false_iff_not];have hk:w4 .i64 ((j:Int)+1):=G6.2 ⟨by omega,by omega⟩;refine ⟨λ b=>⟨by decide,λ _=>⟨λ c=>⟨hk,λ _=>?_⟩,λ c=>⟨hk,λ _=>?_⟩⟩⟩,λ b=>⟨G6.2 ⟨by omega,by omega⟩,λ _=>?_⟩⟩
    . have h9:=ih2 (j+1) (by omega) (by omega);rw [hn,step,if_pos (by omega)] at h9;exact h9
    . have h9:=ih2 (j+1) (by omega) (by omega);rw [hn,step,if_neg (by omega)] at h9;exact h9
    . have tD:j=8:=by omega
      subst tD;rw [hR] at he;have h9:=ih (i+1) (by omega) (by omega);rw [<- he.resolve_right (λ h=>h (by omega))] at h9;exact h9
  . have hi:i=s.length:=by omega
    subst hi;rw [aDp] at hr ⊢;show (wt .u32 4294967295 ((reg 4294967295 s:Nat):Int),())=(((vZ s:Nat):Int),());rw [show (4294967295:Int)=((4294967295:Nat):Int) from rfl,Ic (by decide) hr,vZ,Nat.xor_comm]
end Go.Proofs.YtijlnmgondibnaaGreatDoor
namespace Go.Proofs.YtijlnmgondibnaaGreatDoor
open Go.Ex
section
variable {α:Type} {p:α->Bool} {d:α}
theorem Rh:∀ {l:List α} {j:Nat},X9 p l j≠-1->∃ k:Nat,X9 p l j=((j+k:Nat):Int)/\k<l.length/\p (l.getD k d)=true/\∀ i,i<k->p (l.getD i d)=false
  | [],_,h=>absurd rfl h
  | y::l,j,h=>by
    by_cases hy:p y=true
    . exact ⟨0,by rw [X9,if_pos hy]; rfl,by simp,hy,λ i hi=>by omega⟩
    . rw [X9,if_neg hy] at h ⊢;obtain ⟨k,h1,h2,h3,h4⟩:=Rh h;refine ⟨k+1,by rw [h1]; congr 1; omega,by simp; omega,h3,λ i hi=>?_⟩;cases i with
      | zero=>simpa using hy
      | succ i=>exact h4 i (by omega)
structure wE (p:α->Bool) (l m:List α) (i j:Nat):Prop where
  tk:m.take i=(l.take j).filter (λ x=>!p x)
  dr:m.drop j=l.drop j
  len:m.length=l.length
  lt:i<j
  le:j<=l.length
theorem EH {l:List α} {i:Nat} (h:i<l.length) (d:α):l.take (i+1)=l.take i++[l.getD i d]:=by
  rw [aAb,aAf h]; simp
theorem c1H:∀ {l:List α},(∀ x∈l,p x=false)->l.filter (λ x=>!p x)=l:=λ h=>aDe.2 (λ x hx=>by rw [h x hx]; rfl)
theorem wE.start (d:α) {l:List α} (h:idxOf p l≠-1):∃ k:Nat,idxOf p l=(k:Int)/\k<l.length/\wE p l l k (k+1):=by
  obtain ⟨k,h1,h2,h3,h4⟩:=Rh (d:=d) h;refine ⟨k,by rw [idxOf,h1]; congr 1; omega,h2,⟨?_,rfl,rfl,by omega,by omega⟩⟩;rw [EH h2 d,aDi,c1H]
  . simp only [aDg,List.filter_nil,h3]; simp
  . intro x hx;obtain ⟨i,hi,rfl⟩:=ZH (d:=d) hx;rw [aAn] at hi;have:=h4 i (by omega);rw [aAb,aBq,if_pos (by omega),<- aAb];exact this
theorem wE.at_ {l m:List α} {i j:Nat} (h:wE p l m i j) (d:α):m.getD j d=l.getD j d:=by
  have:=congrArg (λ q:List α=>q.getD 0 d) h.dr;simpa [aAb,aBl] using this
theorem wE.Nq {l m:List α} {i j:Nat} (h:wE p l m i j):m.drop (j+1)=l.drop (j+1):=by
  rw [<- aBm,<- aBm,h.dr]
theorem wE.yd {l m:List α} {i j:Nat} (h:wE p l m i j) (hj:j<l.length) (hp:p (m.getD j d)=false):wE p l (m.set i (m.getD j d)) (i+1) (j+1):=by
  have hl:=h.len;have bf:=h.lt;refine ⟨?_,?_,by rw [aBj,hl],by omega,by omega⟩
  . rw [EH hj d,aDi,<- h.tk,EH (by rw [aBj]; omega) d];rw [h.at_ d] at hp ⊢;congr 1
    . rw [List.take_set_of_le (aAk i)]
    . rw [xR (by omega),if_pos rfl]; generalize l.getD j d=x at hp ⊢; simp [hp]
  . rw [List.drop_set_of_lt (by omega)]; exact h.Nq
theorem wE.skip {l m:List α} {i j:Nat} (h:wE p l m i j) (hj:j<l.length) (hp:p (m.getD j d)=true):wE p l m i (j+1):=by
  refine ⟨?_,h.Nq,h.len,by have:=h.lt; omega,by omega⟩;rw [EH hj d,aDi,<- h.tk];rw [h.at_ d] at hp;generalize l.getD j d=x at hp ⊢;simp [hp]
theorem wE.fin {l m A B:List α} {i j:Nat} (h:wE p l m i j) (hj:j=l.length):o6 0 (i:Int) (m.take i++A++B)=l.filter (λ x=>!p x):=by
  have h1:=h.tk;rw [hj,aAw (aAk _)] at h1;have hi:(m.take i).length=i:=by rw [aAn]; have:=h.len; have:=h.lt; omega
  rw [o6,show ((i:Int) - 0).toNat=i by omega,Int.toNat_zero,aBz,aAj,aDq (by omega),aAw (by omega),h1]
end
end Go.Proofs.YtijlnmgondibnaaGreatDoor
namespace Go.Proofs.YtijlnmgondibnaaGreatDoor
open Go.Ex
set_option maxRecDepth 100000
theorem LZ {α:Type} {l:List α} {i:Nat} (h:i<l.length) (d:α):l.take (i+1)=l.take i++[l.getD i d]:=by
  rw [List.take_succ_eq_append_getElem h,aAb,aAf h]; rfl
abbrev n8:=Int×Int×Int×Int×Int×List Int×yY×Unit
def I4 (n a b:Int):Bool:=decide (a<=n) && decide (n<=b)
theorem N5 {n a b:Int}:I4 n a b=true↔a<=n/\n<=b:=by simp [I4]
def DI:r9:={ ps:=[.v f7,.v f7,.v f7],rs:=[.bool],pre:=λ _=>True,fn:=λ x=>(I4 x.1 x.2.1 x.2.2.1,()),out:=λ _=>() }
noncomputable def GK:Env:={ P:=Tryz.prog,tt:=tt,E3:=[],res:=[Go.ResultVar.tmp 6],rs:=[Ty.bool],ps:=[PK.v f7,PK.v f7,PK.v f7],D5:=[],nt:=15 }
theorem Pb:B8 GK:=C4 s7 trivial
theorem Pl:D7 GK Tryz.f80:=⟨rfl,rfl⟩
theorem Wg (x0:Int) (x1:Int) (x2:Int):exec GK 1000 [.code (d8 Tryz.prog 80)] (w9 DI.ps ((x0,x1,x2,()))) =
  cond (decide (x1<=x0)) (.ret ((decide (x0<=x2),()))) (.ret ((false,()))):=by kernel_rfl
theorem Tg:DI.Valid Tryz.prog 80:=by
  refine r9.p7 Pb rfl rfl Tryz.func80 (c:=d8 Tryz.prog 80) rfl rfl Pl rfl ?_;rintro ⟨(n:Int),(a:Int),(b:Int),⟨⟩⟩ - -
  refine j6 (n:=1000) Pb Pl ?_;refine i7 (Wg n a b) ?_;simp only [j7,Tree.holds,sL];refine ⟨λ c=>?_,λ c=>?_⟩
  . show ((decide _,()):Bool×Unit)=(I4 n a b,()); rw [I4,decide_eq_true c,aFo]
  . show ((false,()):Bool×Unit)=(I4 n a b,()); rw [I4,decide_eq_false c,aGw]
def DM:r9:={ ps:=[.v f7],rs:=[.bool],pre:=λ _=>True,fn:=λ x=>(I4 x.1 0 16777215,()),out:=λ _=>() }
noncomputable def GC:Env:={ P:=Tryz.prog,tt:=tt,E3:=[(80,DI)],res:=[Go.ResultVar.tmp 2],rs:=[Ty.bool],ps:=[PK.v f7],D5:=[],nt:=5 }
theorem Pe:B8 GC:=C4 s7 ⟨Tg,trivial⟩
theorem Po:D7 GC Tryz.f79:=⟨rfl,rfl⟩
theorem Vs (x0:Int):exec GC 1000 [.code (d8 Tryz.prog 79)] (w9 DM.ps ((x0,()))) =
  .f8 (True) (.ret ((I4 x0 (0:Int) (16777215:Int),()))):=by kernel_rfl
theorem Tk:DM.Valid Tryz.prog 79:=by
  refine r9.p7 Pe rfl rfl Tryz.func79 (c:=d8 Tryz.prog 79) rfl rfl Po rfl ?_;rintro ⟨(n:Int),⟨⟩⟩ - -
  refine j6 (n:=1000) Pe Po ?_;refine i7 (Vs n) ?_;exact ⟨trivial,λ _=>rfl⟩
def U5 (n:Int):Bool:=!I4 n 0 16777215
def Jc:r9:={ ps:=[.v f7,.rd (.fn 79)],rs:=[.bool],pre:=λ x=>Eq (α:=Bool) x.2.1 true,fn:=λ x=>(U5 x.1,()),out:=λ _=>() }
noncomputable def Jx:Env:={ P:=Tryz.prog,tt:=tt,E3:=[(79,DM)],res:=[Go.ResultVar.tmp 3],rs:=[Ty.bool],ps:=[PK.v f7,PK.rd (Ty.fn 79)],D5:=[],nt:=8 }
theorem Tv:B8 Jx:=C4 s7 ⟨Tk,trivial⟩
theorem TD:D7 Jx Tryz.f82:=⟨rfl,rfl⟩
theorem Zr (x0:Int) (x1:Bool):exec Jx 1000 [.code (d8 Tryz.prog 82)] (w9 Jc.ps ((x0,x1,()))) =
  .f8 (x1=true/\True) (.ret ((!I4 x0 (0:Int) (16777215:Int),()))):=by kernel_rfl
theorem b5C:Jc.Valid Tryz.prog 82:=by
  refine r9.p7 Tv rfl rfl Tryz.func82 (c:=d8 Tryz.prog 82) rfl rfl TD rfl ?_;rintro ⟨(n:Int),(b:Bool),⟨⟩⟩ (hp:b=true) -
  refine j6 (n:=1000) Tv TD ?_;refine i7 (Zr n b) ?_;exact ⟨⟨hp,trivial⟩,λ _=>rfl⟩
def Ht:r9:={ ps:=[.v (.d0 false f7),.D9 82 [.fn 79]],rs:=[f7],pre:=λ x=>Eq (α:=Bool) x.2.1.1 true,fn:=λ x=>(idxOf (U5) x.1,()),out:=λ _=>() }
noncomputable def Ed:Env:={ P:=Tryz.prog,tt:=tt,E3:=[(82,Jc)],res:=[Go.ResultVar.tmp 4],rs:=[Ty.int IntKind.i64],ps:=[PK.v (Ty.d0 false f7),PK.D9 82 [Ty.fn 79]],D5:=[(2,[(0,none),(1,none),(7,none),(8,none)])],nt:=19 }
theorem JP:B8 Ed:=C4 s7 ⟨b5C,trivial⟩
theorem KI:D7 Ed Tryz.f95:=⟨rfl,rfl⟩
theorem Wu (x0:List Int) (x1c0:Bool):exec Ed 1000 [.code (d8 Tryz.prog 95)] (w9 Ht.ps ((x0,(x1c0,()),()))) =
  .ctL (f9 (d8 Tryz.prog 95) 2) (St.mk [(0,AV.val (Ty.d0 false f7) x0),(1,AV.D9 82 (AV.cons (AV.N1 (Ty.fn 79) x1c0) AV.nil)),(7,AV.val f7 (↑(List.length x0):Int)),(8,AV.val f7 (0:Int))] []):=by kernel_rfl
def QH (v0:List Int) (Bo:Bool) (v7:Int) (v8:Int):St:=St.mk [(0,AV.val (Ty.d0 false f7) v0),(1,AV.D9 82 (AV.cons (AV.N1 (Ty.fn 79) Bo) AV.nil)),(7,AV.val f7 v7),(8,AV.val f7 v8)] []
theorem YS (v0:List Int) (Bo:Bool) (v7:Int) (v8:Int):exec Ed 1000 (.code (f9 (d8 Tryz.prog 95) 2).1::.inLoop (f9 (d8 Tryz.prog 95) 2).1::(f9 (d8 Tryz.prog 95) 2).2) (QH v0 Bo v7 v8) =
  cond (decide (v8<v7)) (.f8 ((0:Int)<=v8/\v8<(↑(List.length v0):Int)) (.f8 (Bo=true) (cond (U5 (List.getD v0 (Int.toNat v8) (0:Int))) (.ret ((v8,()))) (.f8 (w4 IntKind.i64 (v8+(1:Int))) (.ctL (f9 (d8 Tryz.prog 95) 2) (St.mk [(0,AV.val (Ty.d0 false f7) v0),(1,AV.D9 82 (AV.cons (AV.N1 (Ty.fn 79) Bo) AV.nil)),(7,AV.val f7 v7),(8,AV.val f7 (v8+(1:Int)))] [])))))) (.ret (((-1:Int),()))):=by kernel_rfl
theorem b9i:Ht.Valid Tryz.prog 95:=by
  refine r9.p7 JP rfl rfl Tryz.func95 (c:=d8 Tryz.prog 95) rfl rfl KI rfl ?_;rintro ⟨(l:List (Int)),⟨(b:Bool),⟨⟩⟩,⟨⟩⟩ hp ⟨⟨hl,-⟩,-⟩;have hl:l.length<=9223372036854775807:=hl;have hp:b=true:=hp;refine j6 (n:=1000) JP KI ?_;refine i7 (Wu l b) ?_;refine Reach.N4 JP KI (λ i:Nat=>QH l b (l.length:Int) (i:Int)) (λ i=>i<=l.length/\idxOf (U5) l=X9 (U5) (l.drop i) i)
    (λ i=>l.length - i) 1000 (λ _=>⟨w6 rfl,w6 rfl⟩) ?_ 0 ⟨by omega,rfl⟩
  rintro i ⟨k1,k2⟩ - ih;refine i7 (YS ..) ?_;simp only [j7,Tree.holds,sL];refine ⟨λ h=>?_,λ h=>?_⟩
  . rw [FF (show i<l.length by omega) 0,X9] at k2;refine ⟨by omega,λ _=>⟨hp,λ _=>⟨λ c=>?_,λ c=>⟨by omega,λ _=>ih (i+1) ⟨by omega,?_⟩ (by omega)⟩⟩⟩⟩
    . show (((i:Int),()):Int×Unit)=(idxOf (U5) l,());rw [k2,if_pos (show (U5) (l.getD i 0)=true from c)]
    . rw [k2,if_neg (show ¬ (U5) (l.getD i 0)=true from λ h9=>Bool.noConfusion (Eq.trans (Eq.symm h9) c))]
  . rw [aDs (by omega)] at k2;show (((-1:Int),()):Int×Unit)=(idxOf (U5) l,());rw [k2]; rfl
def IC:r9:={ ps:=[.v (.d0 false f7),.D9 82 [.fn 79]],rs:=[.bool],pre:=λ x=>Eq (α:=Bool) x.2.1.1 true,fn:=λ x=>(List.any (α:=Int) x.1 (U5),()),out:=λ _=>() }
noncomputable def Ik:Env:={ P:=Tryz.prog,tt:=tt,E3:=[(95,Ht)],res:=[Go.ResultVar.tmp 4],rs:=[Ty.bool],ps:=[PK.v (Ty.d0 false f7),PK.D9 82 [Ty.fn 79]],D5:=[],nt:=9 }
theorem Rj:B8 Ik:=C4 s7 ⟨b9i,trivial⟩
theorem SE:D7 Ik Tryz.f81:=⟨rfl,rfl⟩
theorem YC (x0:List Int) (x1c0:Bool):exec Ik 1000 [.code (d8 Tryz.prog 81)] (w9 IC.ps ((x0,(x1c0,()),()))) =
  .f8 (x1c0=true) (.ret ((decide ((0:Int)<=idxOf U5 x0),()))):=by kernel_rfl
theorem b7c:IC.Valid Tryz.prog 81:=by
  refine r9.p7 Rj rfl rfl Tryz.func81 (c:=d8 Tryz.prog 81) rfl rfl SE rfl ?_;rintro ⟨(l:List (Int)),⟨(b:Bool),⟨⟩⟩,⟨⟩⟩ hp -
  refine j6 (n:=1000) Rj SE ?_;refine i7 (YC l b) ?_;refine ⟨hp,λ _=>?_⟩;show ((decide (0<=idxOf (U5) l),()):Bool×Unit)=(l.any (U5),());rw [EV]
def wR (n:n8):Bool:=I4 n.1 0 255 && I4 n.2.1 0 5 && I4 n.2.2.1 0 5 && I4 n.2.2.2.1 0 16777215 && I4 n.2.2.2.2.1 0 16777215
def E8 (n:n8):Int :=
  if wR n=false then 1 else if n.2.2.2.2.2.1.any U5=true then 1 else if 200<n.2.2.2.2.2.2.1.length then 2 else 0
def EP:r9:={ ps:=[.v An],rs:=[f7],pre:=λ _=>True,fn:=λ x=>(E8 x.1,()),out:=λ _=>() }
noncomputable def JA:Env:={ P:=Tryz.prog,tt:=tt,E3:=[(80,DI),(79,DM),(81,IC)],res:=[Go.ResultVar.tmp 2],rs:=[Ty.int IntKind.i64],ps:=[PK.v (Ty.pair f7 (Ty.pair f7 (Ty.pair f7 (Ty.pair f7 (Ty.pair f7 (Ty.pair Z9 (Ty.pair Ty.str Ty.unit)))))))],D5:=[],nt:=45 }
theorem Tz:B8 JA:=C4 s7 ⟨Tg,Tk,b7c,trivial⟩
theorem TF:D7 JA Tryz.f65:=⟨rfl,rfl⟩
theorem c46 (aO:Int) (ab:Int) (ae:Int) (aa:Int) (ba:Int) (aV:List Int) (bg:yY):exec JA 1000 [.code (d8 Tryz.prog 65)] (w9 EP.ps (((aO,ab,ae,aa,ba,aV,bg,()),()))) =
  .f8 (True) (cond (!I4 aO (0:Int) (255:Int)) (.ret (((1:Int),()))) (.f8 (True) (cond (!I4 ab (0:Int) (5:Int)) (.ret (((1:Int),()))) (.f8 (True) (cond (!I4 ae (0:Int) (5:Int)) (.ret (((1:Int),()))) (.f8 (true=true/\True) (cond (!I4 aa (0:Int) (16777215:Int)) (.ret (((1:Int),()))) (.f8 (true=true/\True) (cond (!I4 ba (0:Int) (16777215:Int)) (.ret (((1:Int),()))) (.f8 ((0:Int)<=(0:Int)/\(0:Int)<=(↑6:Int)/\(↑6:Int)<=(↑6:Int)) (.f8 (true=true) (cond (List.any (o6 (0:Int) (↑6:Int) aV) U5) (.ret (((1:Int),()))) (cond (decide ((200:Int)<(↑(List.length bg):Int))) (.ret (((2:Int),()))) (.ret (((0:Int),())))))))))))))))):=by kernel_rfl
theorem OH {α:Type} {l:List α} {n:Nat} (h:l.length=n):o6 0 (n:Int) l=l:=by subst h; simp [o6]
theorem Va:EP.Valid Tryz.prog 65:=by
  refine r9.p7 Tz rfl rfl Tryz.func65 (c:=d8 Tryz.prog 65) rfl rfl TF rfl ?_;rintro ⟨⟨(a:Int),(b:Int),(c:Int),(d:Int),(e:Int),(v:List Int),(t:yY),⟨⟩⟩,⟨⟩⟩ - ⟨⟨-,-,-,-,-,⟨hv,-⟩,-⟩,-⟩;have hv:v.length=6:=hv;refine j6 (n:=1000) Tz TF ?_;refine i7 (c46 a b c d e v t) ?_;have hc:o6 0 6 v=v:=OH hv;have bad:wR (a,b,c,d,e,v,t,())=false->(((1:Int),()):Int×Unit)=(E8 (a,b,c,d,e,v,t,()),()):=λ h=>by rw [E8,if_pos h]
  simp only [j7,Tree.holds,hc,sL];refine ⟨λ h=>bad (by simp [wR,h]),λ h1=>⟨λ h=>bad (by simp [wR,h]),λ h2=>⟨λ h=>bad (by simp [wR,h]),λ h3=>⟨λ h=>bad (by simp [wR,h]),λ h4=>⟨λ h=>bad (by simp [wR,h]),λ h5=>⟨by omega,λ _=>⟨λ h=>?_,λ h6=>⟨λ h=>?_,λ h=>?_⟩⟩⟩⟩⟩⟩⟩⟩
  all_goals have hw:wR (a,b,c,d,e,v,t,())≠false:=by simp [wR,h1,h2,h3,h4,h5]
  . show (((1:Int),()):Int×Unit)=(E8 (a,b,c,d,e,v,t,()),());rw [E8,if_neg hw,if_pos h]
  . show (((2:Int),()):Int×Unit)=(E8 (a,b,c,d,e,v,t,()),());rw [E8,if_neg hw,if_neg (λ h9=>Bool.noConfusion (Eq.trans (Eq.symm h9) h6)),if_pos (by show 200<t.length; omega)]
  . show (((0:Int),()):Int×Unit)=(E8 (a,b,c,d,e,v,t,()),());rw [E8,if_neg hw,if_neg (λ h9=>Bool.noConfusion (Eq.trans (Eq.symm h9) h6)),if_neg (by show ¬ 200<t.length; omega)]
structure Iu (n:n8):Prop where
  kind:0<=n.1/\n.1<=255
  from_:0<=n.2.1/\n.2.1<=5
  to:0<=n.2.2.1/\n.2.2.1<=5
  view:0<=n.2.2.2.1/\n.2.2.2.1<=16777215
  seq:0<=n.2.2.2.2.1/\n.2.2.2.2.1<=16777215
  at_:∀ x∈n.2.2.2.2.2.1,0<=x/\x<=16777215
  text:n.2.2.2.2.2.2.1.length<=200
theorem Dc {n:n8} (h:E8 n=0):Iu n:=by
  unfold E8 at h;split at h
  . cases h
  split at h
  . cases h
  split at h
  . cases h
  . rename_i h1 h2 h3;have h1:wR n=true:=by cases e:wR n with|true=>rfl|false=>exact absurd e h1
    simp only [wR,aAa,N5] at h1;obtain ⟨⟨⟨⟨a,b⟩,c⟩,d⟩,e⟩:=h1;refine ⟨a,b,c,d,e,λ x hx=>?_,by omega⟩;have h2:n.2.2.2.2.2.1.any U5=false:=by cases e:n.2.2.2.2.2.1.any U5 with|false=>rfl|true=>exact absurd e h2
    have:=List.any_eq_false.1 h2 x hx;rw [U5,Bool.not_eq_true,aFc] at this;exact N5.1 this
def W4 (n:Int):List Int:=[IntKind.wrap .u8 n,IntKind.wrap .u8 (n / 256),IntKind.wrap .u8 (n / 65536)]
def EJ:r9:={ ps:=[.v f7],rs:=[.d0 true (.int .u8)],pre:=λ _=>True,fn:=λ x=>(W4 x.1,()),out:=λ _=>() }
noncomputable def IG:Env:={ P:=Tryz.prog,tt:=tt,E3:=[],res:=[Go.ResultVar.tmp 2],rs:=[Ty.d0 true U8],ps:=[PK.v f7],D5:=[],nt:=12 }
theorem SC:B8 IG:=C4 s7 trivial
theorem Si:D7 IG Tryz.f77:=⟨rfl,rfl⟩
theorem Ym (x0:Int):exec IG 1000 [.code (d8 Tryz.prog 77)] (w9 EJ.ps ((x0,()))) =
  .f8 ((0:Int)<=(8:Int)) (.f8 ((0:Int)<=(16:Int)) (.ret ((List.set (List.set (List.set [(0:Int),(0:Int),(0:Int)] (Int.toNat (↑0:Int)) (IntKind.wrap IntKind.u8 x0)) (Int.toNat (↑1:Int)) (IntKind.wrap IntKind.u8 (x0 / (2:Int)^min (Int.toNat (8:Int)) (IntKind.bits IntKind.i64)))) (Int.toNat (↑2:Int)) (IntKind.wrap IntKind.u8 (x0 / (2:Int)^min (Int.toNat (16:Int)) (IntKind.bits IntKind.i64))),())))):=by kernel_rfl
theorem UT:EJ.Valid Tryz.prog 77:=by
  refine r9.p7 SC rfl rfl Tryz.func77 (c:=d8 Tryz.prog 77) rfl rfl Si rfl ?_;rintro ⟨(n:Int),⟨⟩⟩ - -
  refine j6 (n:=1000) SC Si ?_;refine i7 (Ym n) ?_;exact ⟨aGi 8 rfl,λ _=>⟨aGi 16 rfl,λ _=>rfl⟩⟩
def wY (x:Nat):List Int:=(le4 x).map (λ b=>(b.toNat:Int))
theorem Fw (x:Nat):(UInt8.ofNat x).toNat=x % 256:=by simp
theorem XI (x:Nat):wY x=[(x:Int) % 256,(x:Int) / 256 % 256,(x:Int) / 65536 % 256,(x:Int) / 16777216 % 256]:=by
  simp only [wY,le4,aCf,aFt,Fw];simp only [aBc,and_true];refine ⟨by omega,by omega,by omega,by omega⟩
theorem c3S (n:Int):W4 n=[n % 256,n / 256 % 256,n / 65536 % 256]:=rfl
def El:r9:={ ps:=[.v (.int .u32)],rs:=[.d0 true (.int .u8)],pre:=λ _=>True,fn:=λ x=>(wY (Int.toNat x.1),()),out:=λ _=>() }
noncomputable def Hm:Env:={ P:=Tryz.prog,tt:=tt,E3:=[(77,EJ)],res:=[Go.ResultVar.tmp 2],rs:=[Ty.d0 true U8],ps:=[PK.v (Ty.int IntKind.u32)],D5:=[],nt:=11 }
theorem PU:B8 Hm:=C4 s7 ⟨UT,trivial⟩
theorem Qn:D7 Hm Tryz.f62:=⟨rfl,rfl⟩
theorem Wl (x0:Int):exec Hm 1000 [.code (d8 Tryz.prog 62)] (w9 El.ps ((x0,()))) =
  .f8 (True) (.f8 ((0:Int)<=(24:Int)) (.f8 (List.length (W4 (IntKind.wrap IntKind.i64 x0))+List.length (List.set [(0:Int)] (Int.toNat (↑0:Int)) (IntKind.wrap IntKind.u8 (x0 / (2:Int)^min (Int.toNat (24:Int)) (IntKind.bits IntKind.u32))))<=140737488355328/\(List.length (W4 (IntKind.wrap IntKind.i64 x0))+List.length (List.set [(0:Int)] (Int.toNat (↑0:Int)) (IntKind.wrap IntKind.u8 (x0 / (2:Int)^min (Int.toNat (24:Int)) (IntKind.bits IntKind.u32)))))*Ty.wb U8<=140737488355328) (.ret ((W4 (IntKind.wrap IntKind.i64 x0)++List.set [(0:Int)] (Int.toNat (↑0:Int)) (IntKind.wrap IntKind.u8 (x0 / (2:Int)^min (Int.toNat (24:Int)) (IntKind.bits IntKind.u32))),()))))):=by kernel_rfl
theorem a93:El.Valid Tryz.prog 62:=by
  refine r9.p7 PU rfl rfl Tryz.func62 (c:=d8 Tryz.prog 62) rfl rfl Qn rfl ?_;rintro ⟨(n:Int),⟨⟩⟩ - ⟨hr,-⟩;have hr:0<=n/\n<=4294967295:=AS.1 hr;refine j6 (n:=1000) PU Qn ?_;refine i7 (Wl n) ?_;have hw:IntKind.wrap .i64 n=n:=V2 (G6.2 ⟨by omega,by omega⟩);simp only [j7,Tree.holds,hw,Ib,c3S,sL];refine ⟨by omega,λ _=>⟨by omega,λ _=>?_⟩⟩;obtain ⟨x,rfl⟩:=aEj hr.1;show (([(x:Int) % 256,(x:Int) / 256 % 256,(x:Int) / 65536 % 256,(x:Int) / 16777216 % 256],()):List Int×Unit)=(wY (Int.toNat (x:Int)),());rw [aCa,XI]
def xN (l:List Int):yY:=l.map (λ n=>UInt8.ofNat n.toNat)
theorem Lt (t:yY):xN (t.map (λ b=>(b.toNat:Int)))=t:=by
  rw [xN,aHm];have:((λ n:Int=>UInt8.ofNat n.toNat) ∘ λ b:UInt8=>(b.toNat:Int))=id:=by
    funext b
    simp
  rw [this,List.map_id]
theorem FB (l m:List Int):xN (l++m)=xN l++xN m:=aCw
def BK (n:n8):List Int:=[IntKind.wrap .u8 n.1,IntKind.wrap .u8 n.2.1,IntKind.wrap .u8 n.2.2.1]
def vS (n:n8):List Int:=n.2.2.2.1::n.2.2.2.2.1::n.2.2.2.2.2.1
def zF (n:n8):List Int:=BK n++(vS n).flatMap W4++n.2.2.2.2.2.2.1.map (λ b=>(b.toNat:Int))
def wK (n:n8):yY:=xN (zF n)
def G4 (n:n8):yY:=wK n++le4 (vZ (wK n))
def V4 (n:n8):yY×Int×Unit:=if E8 n≠0 then ([],E8 n,()) else (G4 n,0,())
def HB:r9:={ ps:=[.v An],rs:=[.str,f7],pre:=λ _=>True,fn:=λ x=>V4 x.1,out:=λ _=>() }
noncomputable def BG:Env:={ P:=Tryz.prog,tt:=tt,E3:=[(65,EP),(77,EJ),(62,El),(63,DX)],res:=[Go.ResultVar.tmp 2,Go.ResultVar.tmp 3],rs:=[Ty.str,Ty.int IntKind.i64],ps:=[PK.v (Ty.pair f7 (Ty.pair f7 (Ty.pair f7 (Ty.pair f7 (Ty.pair f7 (Ty.pair Z9 (Ty.pair Ty.str Ty.unit)))))))],D5:=[(6,[(1,none),(5,some (Ty.d0 true U8)),(30,some Is),(31,none),(32,none)])],nt:=52 }
theorem KD:B8 BG:=C4 s7 ⟨Va,UT,a93,To,trivial⟩
theorem KK:D7 BG Tryz.f60:=⟨rfl,rfl⟩
theorem WB (aO:Int) (ab:Int) (ae:Int) (aa:Int) (ba:Int) (aV:List Int) (bg:yY):exec BG 1000 [.code (d8 Tryz.prog 60)] (w9 HB.ps (((aO,ab,ae,aa,ba,aV,bg,()),()))) =
  .f8 (True) (cond (decide (E8 (aO,ab,ae,aa,ba,aV,bg,())≠(0:Int))) (.ret ((Array.toList (ByteArray.data (ByteArray.mk #[])),E8 (aO,ab,ae,aa,ba,aV,bg,()),()))) (.f8 ((0:Int)<=(0:Int)/\(0:Int)<=(↑6:Int)/\(↑6:Int)<=(↑6:Int)) (.f8 (List.length (List.set (List.set [(0:Int),(0:Int)] (Int.toNat (↑0:Int)) aa) (Int.toNat (↑1:Int)) ba)+List.length (o6 (0:Int) (↑6:Int) aV)<=140737488355328/\(List.length (List.set (List.set [(0:Int),(0:Int)] (Int.toNat (↑0:Int)) aa) (Int.toNat (↑1:Int)) ba)+List.length (o6 (0:Int) (↑6:Int) aV))*Ty.wb f7<=140737488355328) (.ctL (f9 (d8 Tryz.prog 60) 6) (St.mk [(1,AV.ptr 1 []),(5,AV.at_ 1000005 []),(30,AV.at_ 1000030 []),(31,AV.val f7 (↑(List.length (List.set (List.set [(0:Int),(0:Int)] (Int.toNat (↑0:Int)) aa) (Int.toNat (↑1:Int)) ba++o6 (0:Int) (↑6:Int) aV)):Int)),(32,AV.val f7 (0:Int))] [(1,g9.var (Ty.pair f7 (Ty.pair f7 (Ty.pair f7 (Ty.pair f7 (Ty.pair f7 (Ty.pair Z9 (Ty.pair Ty.str Ty.unit))))))) (aO,ab,ae,aa,ba,aV,bg,())),(1000005,g9.own (Ty.d0 true U8) (List.set (List.set (List.set [(0:Int),(0:Int),(0:Int)] (Int.toNat (↑0:Int)) (IntKind.wrap IntKind.u8 aO)) (Int.toNat (↑1:Int)) (IntKind.wrap IntKind.u8 ab)) (Int.toNat (↑2:Int)) (IntKind.wrap IntKind.u8 ae))),(1000030,g9.own Is (List.set (List.set [(0:Int),(0:Int)] (Int.toNat (↑0:Int)) aa) (Int.toNat (↑1:Int)) ba++o6 (0:Int) (↑6:Int) aV))]))))):=by kernel_rfl
def KE (v31:Int) (xj:Int) (eK:Int) (da:Int) (dX:Int) (cZ:Int) (cA:Int) (ca:List Int) (aN:yY) (cL:List Int) (eu:List Int):St:=St.mk [(1,AV.ptr 1 []),(5,AV.at_ 1000005 []),(30,AV.at_ 1000030 []),(31,AV.val f7 v31),(32,AV.val f7 xj)] [(1,g9.var (Ty.pair f7 (Ty.pair f7 (Ty.pair f7 (Ty.pair f7 (Ty.pair f7 (Ty.pair Z9 (Ty.pair Ty.str Ty.unit))))))) (eK,da,dX,cZ,cA,ca,aN,())),(1000005,g9.own (Ty.d0 true U8) cL),(1000030,g9.own Is eu)]
theorem Yl (v31:Int) (xj:Int) (eK:Int) (da:Int) (dX:Int) (cZ:Int) (cA:Int) (ca:List Int) (aN:yY) (cL:List Int) (eu:List Int):exec BG 1000 (.code (f9 (d8 Tryz.prog 60) 6).1::.inLoop (f9 (d8 Tryz.prog 60) 6).1::(f9 (d8 Tryz.prog 60) 6).2) (KE v31 xj eK da dX cZ cA ca aN cL eu) =
  cond (decide (xj<v31)) (.f8 ((0:Int)<=xj/\xj<(↑(List.length eu):Int)) (.f8 (True) (.f8 (List.length cL+List.length (W4 (List.getD eu (Int.toNat xj) (0:Int)))<=140737488355328/\(List.length cL+List.length (W4 (List.getD eu (Int.toNat xj) (0:Int))))*Ty.wb U8<=140737488355328) (.f8 (w4 IntKind.i64 (xj+(1:Int))) (.ctL (f9 (d8 Tryz.prog 60) 6) (St.mk [(1,AV.ptr 1 []),(5,AV.at_ 1000005 []),(30,AV.at_ 1000030 []),(31,AV.val f7 v31),(32,AV.val f7 (xj+(1:Int)))] [(1,g9.var (Ty.pair f7 (Ty.pair f7 (Ty.pair f7 (Ty.pair f7 (Ty.pair f7 (Ty.pair Z9 (Ty.pair Ty.str Ty.unit))))))) (eK,da,dX,cZ,cA,ca,aN,())),(1000005,g9.own (Ty.d0 true U8) (cL++W4 (List.getD eu (Int.toNat xj) (0:Int)))),(1000030,g9.own Is eu)])))))) (.f8 (List.length cL+List.length (List.map (λ b=>(↑(UInt8.toNat b):Int)) aN)<=140737488355328/\(List.length cL+List.length (List.map (λ b=>(↑(UInt8.toNat b):Int)) aN))*Ty.wb U8<=140737488355328) (.f8 (True) (.f8 (True) (.f8 (List.length (cL++List.map (λ b=>(↑(UInt8.toNat b):Int)) aN)+List.length (wY (Int.toNat (↑(vZ (List.map (λ n=>UInt8.ofNat (Int.toNat n)) (cL++List.map (λ b=>(↑(UInt8.toNat b):Int)) aN))):Int)))<=140737488355328/\(List.length (cL++List.map (λ b=>(↑(UInt8.toNat b):Int)) aN)+List.length (wY (Int.toNat (↑(vZ (List.map (λ n=>UInt8.ofNat (Int.toNat n)) (cL++List.map (λ b=>(↑(UInt8.toNat b):Int)) aN))):Int))))*Ty.wb U8<=140737488355328) (.ret ((List.map (λ n=>UInt8.ofNat (Int.toNat n)) (cL++List.map (λ b=>(↑(UInt8.toNat b):Int)) aN++wY (Int.toNat (↑(vZ (List.map (λ n=>UInt8.ofNat (Int.toNat n)) (cL++List.map (λ b=>(↑(UInt8.toNat b):Int)) aN))):Int))),(0:Int),()))))))):=by kernel_rfl
theorem SW (l:List Int):(l.flatMap W4).length=3*l.length:=by
  induction l with
  | nil=>rfl
  | cons x l ih=>rw [aFk,aAd,ih,W4]; simp; omega
theorem b87:HB.Valid Tryz.prog 60:=by
  refine r9.p7 KD rfl rfl Tryz.func60 (c:=d8 Tryz.prog 60) rfl rfl KK rfl ?_;rintro ⟨⟨(a:Int),(b:Int),(c:Int),(d:Int),(e:Int),(v:List Int),(t:yY),⟨⟩⟩,⟨⟩⟩ - ⟨⟨-,-,-,-,-,⟨hv,-⟩,-⟩,-⟩;have hv:v.length=6:=hv;obtain ⟨n,hn⟩:∃ n:n8,n=(a,b,c,d,e,v,t,()):=⟨_,rfl⟩;refine j6 (n:=1000) KD KK ?_;refine i7 (WB a b c d e v t) ?_;have hc:o6 0 6 v=v:=OH hv;have h0:List.set (List.set [(0:Int),0] (Int.toNat ((0:Nat):Int)) d) (Int.toNat ((1:Nat):Int)) e++v=vS n:=by rw [hn]; rfl
  have vv:∀ m:List Int,List.set (List.set [(0:Int),0] (Int.toNat 0) d) (Int.toNat 1) e++m=d::e::m:=λ m=>rfl;rw [<- hn];have e6:o6 0 6 v=v:=hc;simp only [j7,Tree.holds,hc,Ib,Xa,sL];refine ⟨λ h=>?_,λ h=>⟨by omega,λ _=>⟨by omega,λ _=>?_⟩⟩⟩
  . show (([],E8 n,()):yY×Int×Unit)=V4 n;rw [V4,if_pos h]
  have aH:=Dc (n:=n) (by omega);have ht:t.length<=200:=by have:=aH.text; rw [hn] at this; exact this
  have ng:(vS n).length=8:=by rw [hn]; show (d::e::v).length=8; simp [hv]
  suffices go:Go.Ex.Reach BG Tryz.f60 (V4 n) () (.code (f9 (d8 Tryz.prog 60) 6).1::.inLoop (f9 (d8 Tryz.prog 60) 6).1::(f9 (d8 Tryz.prog 60) 6).2) (KE ((vS n).length:Int) ((0:Nat):Int) a b c d e v t (BK n++((vS n).take 0).flatMap W4) (vS n)) by
    subst hn;exact go
  refine Reach.N4 KD KK (λ i:Nat=>KE ((vS n).length:Int) (i:Int) a b c d e v t (BK n++((vS n).take i).flatMap W4) (vS n)) (λ i=>i<=(vS n).length)
    (λ i=>(vS n).length - i) 1000 (λ _=>⟨w6 rfl,w6 rfl⟩) ?_ 0 (aAr _)
  . rintro i k1 - ih;have k1:i<=(vS n).length:=k1;refine i7 (Yl ..) ?_;have hl:(BK n++((vS n).take i).flatMap W4).length=3+3*i:=by
      rw [aAd,SW,aAn];show 3+_=_;omega
    have tp:∀ x,(W4 x).length=3:=λ _=>rfl;simp only [j7,Tree.holds,Ib,hl,tp,sL];refine ⟨λ c1=>⟨by omega,λ _=>⟨by omega,λ _=>⟨by omega,λ _=>?_⟩⟩⟩,λ c1=>?_⟩
    . have:=ih (i+1) (by show i+1<=(vS n).length; omega) (by omega);rw [LZ (show i<(vS n).length by omega) 0,List.flatMap_append,<- aAj] at this;simp only [aFk,List.flatMap_nil,aAv] at this;exact this
    . rw [aAw (by omega)] at hl ⊢;have hb:BK n++(vS n).flatMap W4++List.map (λ b:UInt8=>(b.toNat:Int)) t=zF n:=by rw [zF,hn]
      have bQ:(zF n).length=27+t.length:=by rw [<- hb,aAd,hl,aAl]; omega
      have h4:∀ x,(wY x).length=4:=λ _=>rfl;rw [hb];simp only [j7,Tree.holds,bQ,h4,aAl,sL];refine ⟨by omega,λ _=>⟨by omega,λ _=>?_⟩⟩;show ((xN (zF n++wY (vZ (xN (zF n)))),0,()):yY×Int×Unit)=V4 n;rw [V4,if_neg h,FB,G4,wY,Lt];rfl
def wJ (s:yY) (i:Nat):Int:=((s.getD i 0).toNat:Int)
def vG (s:yY) (k:Nat):Int:=wJ s (3+3*k)+wJ s (4+3*k)*256+wJ s (5+3*k)*65536
def Hz:r9:={ ps:=[.v f7,.rd .str],rs:=[f7],pre:=λ x=>LE.le (α:=Int) 0 x.1/\LT.lt (α:=Int) (5+3*(show Int from x.1)) (List.length x.2.1),fn:=λ x=>(vG x.2.1 (Int.toNat x.1),()),out:=λ _=>() }
noncomputable def Hj:Env:={ P:=Tryz.prog,tt:=tt,E3:=[],res:=[Go.ResultVar.tmp 3],rs:=[Ty.int IntKind.i64],ps:=[PK.v f7,PK.rd Ty.str],D5:=[],nt:=26 }
theorem Qi:B8 Hj:=C4 s7 trivial
theorem Qz:D7 Hj Tryz.f64:=⟨rfl,rfl⟩
theorem Wz (x0:Int) (x1:yY):exec Hj 1000 [.code (d8 Tryz.prog 64)] (w9 Hz.ps ((x0,x1,()))) =
  .f8 (w4 IntKind.i64 ((3:Int)*x0)) (.f8 (w4 IntKind.i64 ((3:Int)+(3:Int)*x0)) (.f8 ((0:Int)<=(3:Int)+(3:Int)*x0/\(3:Int)+(3:Int)*x0<(↑(List.length x1):Int)) (.f8 (w4 IntKind.i64 ((3:Int)+(3:Int)*x0+(1:Int))) (.f8 ((0:Int)<=(3:Int)+(3:Int)*x0+(1:Int)/\(3:Int)+(3:Int)*x0+(1:Int)<(↑(List.length x1):Int)) (.f8 ((0:Int)<=(8:Int)) (.f8 (w4 IntKind.i64 ((3:Int)+(3:Int)*x0+(2:Int))) (.f8 ((0:Int)<=(3:Int)+(3:Int)*x0+(2:Int)/\(3:Int)+(3:Int)*x0+(2:Int)<(↑(List.length x1):Int)) (.f8 ((0:Int)<=(16:Int)) (.ret ((bOr IntKind.i64 (bOr IntKind.i64 (IntKind.wrap IntKind.i64 (↑(UInt8.toNat (List.getD x1 (Int.toNat ((3:Int)+(3:Int)*x0)) (0:UInt8))):Int)) (IntKind.wrap IntKind.i64 (IntKind.wrap IntKind.i64 (↑(UInt8.toNat (List.getD x1 (Int.toNat ((3:Int)+(3:Int)*x0+(1:Int))) (0:UInt8))):Int)*(2:Int)^min (Int.toNat (8:Int)) (IntKind.bits IntKind.i64)))) (IntKind.wrap IntKind.i64 (IntKind.wrap IntKind.i64 (↑(UInt8.toNat (List.getD x1 (Int.toNat ((3:Int)+(3:Int)*x0+(2:Int))) (0:UInt8))):Int)*(2:Int)^min (Int.toNat (16:Int)) (IntKind.bits IntKind.i64))),()))))))))))):=by kernel_rfl
theorem Nd {x y:Nat} (hx:x<9223372036854775808) (hy:y<9223372036854775808):bOr .i64 (x:Int) (y:Int)=((x ||| y:Nat):Int):=by
  unfold bOr;have e1:(BitVec.ofInt (IntKind.bits .i64) (x:Int) ||| BitVec.ofInt (IntKind.bits .i64) (y:Int)).toNat=x ||| y:=by
    show (BitVec.ofInt 64 (x:Int) ||| BitVec.ofInt 64 (y:Int)).toNat=x ||| y
    rw [BitVec.toNat_or,BitVec.toNat_ofInt,BitVec.toNat_ofInt];congr 1<;>omega
  rw [e1];have:=Nat.or_lt_two_pow (n:=63) hx hy;exact V2 (G6.2 ⟨by omega,by omega⟩)
theorem NP {x y k:Nat} (hx:x<2^k):x ||| (y*2^k)=x+y*2^k:=by
  rw [Nat.or_comm,<- Nat.shiftLeft_eq,<- Nat.shiftLeft_add_eq_or_of_lt hx,aFs]
theorem b9a:Hz.Valid Tryz.prog 64:=by
  refine r9.p7 Qi rfl rfl Tryz.func64 (c:=d8 Tryz.prog 64) rfl rfl Qz rfl ?_;rintro ⟨(k:Int),(s:yY),⟨⟩⟩ ⟨h0,h1⟩ ⟨-,hs,-⟩;have h0:0<=k:=h0;have h1:5+3*k<(s.length:Int):=h1;have hs:s.length<=9223372036854775807:=hs;obtain ⟨m,rfl⟩:=aEj h0;refine j6 (n:=1000) Qi Qz ?_;refine i7 (Wz (m:Int) s) ?_;simp only [j7,Tree.holds,sL];refine ⟨by omega,λ _=>⟨by omega,λ _=>⟨by omega,λ _=>⟨by omega,λ _=>⟨by omega,λ _=>⟨aGi 8 rfl,λ _=>⟨by omega,λ _=>⟨by omega,λ _=>⟨aGi 16 rfl,λ _=>?_⟩⟩⟩⟩⟩⟩⟩⟩⟩;have e1:Int.toNat (3+3*(m:Int))=3+3*m:=by omega
  have e2:Int.toNat (3+3*(m:Int)+1)=4+3*m:=by omega
  have e3:Int.toNat (3+3*(m:Int)+2)=5+3*m:=by omega
  rw [e1,e2,e3];show ((_,()):Int×Unit)=(vG s (Int.toNat (m:Int)),());rw [aCa];have a1:=(s.getD (3+3*m) 0).toNat_lt;have a2:=(s.getD (4+3*m) 0).toNat_lt;have a3:=(s.getD (5+3*m) 0).toNat_lt;unfold vG wJ;generalize (s.getD (3+3*m) 0).toNat=x at *
  generalize (s.getD (4+3*m) 0).toNat=y at *
  generalize (s.getD (5+3*m) 0).toNat=z at *
  have w:∀ q:Nat,q<16777216->IntKind.wrap .i64 (q:Int)=(q:Int):=λ q hq=>V2 (G6.2 ⟨by omega,by omega⟩);have p8:(2:Int)^min (Int.toNat 8) (IntKind.bits .i64)=256:=rfl;have Vo:(2:Int)^min (Int.toNat 16) (IntKind.bits .i64)=65536:=rfl;rw [w x (by omega),w y (by omega),w z (by omega),p8,Vo,show (y:Int)*256=((y*2^8:Nat):Int) by omega,show (z:Int)*65536=((z*2^16:Nat):Int) by omega,w _ (by omega),w _ (by omega),Nd (by omega) (by omega),NP (k:=8) (by omega),Nd (by omega) (by omega),NP (k:=16) (by omega)];congr 1
def xT:n8:=(0,0,0,0,0,[0,0,0,0,0,0],[],())
def parse (s:yY):n8:=(wJ s 0,wJ s 1,wJ s 2,vG s 0,vG s 1,[vG s 2,vG s 3,vG s 4,vG s 5,vG s 6,vG s 7],s.drop 27,())
def y6 (s:yY):n8×Int×Unit :=
  if 231<s.length then (xT,2,()) else if s.length<31 then (xT,3,()) else if le4 (vZ (s.take (s.length - 4)))≠s.drop (s.length - 4) then (xT,5,())
  else if E8 (parse (s.take (s.length - 4)))≠0 then (xT,E8 (parse (s.take (s.length - 4))),()) else (parse (s.take (s.length - 4)),0,())
def HR:r9:={ ps:=[.v .str],rs:=[An,f7],pre:=λ _=>True,fn:=λ x=>y6 x.1,out:=λ _=>() }
noncomputable def Ef:Env:={ P:=Tryz.prog,tt:=tt,E3:=[(63,DX),(62,El),(64,Hz),(65,EP)],res:=[Go.ResultVar.cell 2 91,Go.ResultVar.tmp 3],rs:=[Ty.pair f7 (Ty.pair f7 (Ty.pair f7 (Ty.pair f7 (Ty.pair f7 (Ty.pair Z9 (Ty.pair Ty.str Ty.unit)))))),Ty.int IntKind.i64],ps:=[PK.v Ty.str],D5:=[(11,[(2,none),(6,none),(7,none),(54,none)])],nt:=72 }
theorem KF:B8 Ef:=C4 s7 ⟨To,a93,b9a,Va,trivial⟩
theorem KL:D7 Ef Tryz.f46:=⟨rfl,rfl⟩
theorem WD (x0:yY):exec Ef 1000 [.code (d8 Tryz.prog 46)] (w9 HR.ps ((x0,()))) =
  cond (decide ((231:Int)<(↑(List.length x0):Int))) (.ret ((((0:Int),(0:Int),(0:Int),(0:Int),(0:Int),[(0:Int),(0:Int),(0:Int),(0:Int),(0:Int),(0:Int)],[],()),(2:Int),()))) (cond (decide ((↑(List.length x0):Int)<(31:Int))) (.ret ((((0:Int),(0:Int),(0:Int),(0:Int),(0:Int),[(0:Int),(0:Int),(0:Int),(0:Int),(0:Int),(0:Int)],[],()),(3:Int),()))) (.f8 (w4 IntKind.i64 ((↑(List.length x0):Int) - (4:Int))) (.f8 ((0:Int)<=(0:Int)/\(0:Int)<=(↑(List.length x0):Int) - (4:Int)/\(↑(List.length x0):Int) - (4:Int)<=(↑(List.length x0):Int)) (.f8 (w4 IntKind.i64 ((↑(List.length x0):Int) - (4:Int))) (.f8 ((0:Int)<=(↑(List.length x0):Int) - (4:Int)/\(↑(List.length x0):Int) - (4:Int)<=(↑(List.length x0):Int)/\(↑(List.length x0):Int)<=(↑(List.length x0):Int)) (.f8 (True) (.f8 (True) (cond (decide (List.map (λ n=>UInt8.ofNat (Int.toNat n)) (wY (Int.toNat (↑(vZ (o6 (0:Int) ((↑(List.length x0):Int) - (4:Int)) x0)):Int)))≠o6 ((↑(List.length x0):Int) - (4:Int)) (↑(List.length x0):Int) x0)) (.ret ((((0:Int),(0:Int),(0:Int),(0:Int),(0:Int),[(0:Int),(0:Int),(0:Int),(0:Int),(0:Int),(0:Int)],[],()),(5:Int),()))) (.f8 ((0:Int)<=(0:Int)/\(0:Int)<(↑(List.length (o6 (0:Int) ((↑(List.length x0):Int) - (4:Int)) x0)):Int)) (.f8 ((0:Int)<=(1:Int)/\(1:Int)<(↑(List.length (o6 (0:Int) ((↑(List.length x0):Int) - (4:Int)) x0)):Int)) (.f8 ((0:Int)<=(2:Int)/\(2:Int)<(↑(List.length (o6 (0:Int) ((↑(List.length x0):Int) - (4:Int)) x0)):Int)) (.f8 ((0:Int)<=(0:Int)/\(5:Int)+(3:Int)*(0:Int)<(↑(List.length (o6 (0:Int) ((↑(List.length x0):Int) - (4:Int)) x0)):Int)) (.f8 ((0:Int)<=(1:Int)/\(5:Int)+(3:Int)*(1:Int)<(↑(List.length (o6 (0:Int) ((↑(List.length x0):Int) - (4:Int)) x0)):Int)) (.f8 ((0:Int)<=(27:Int)/\(27:Int)<=(↑(List.length (o6 (0:Int) ((↑(List.length x0):Int) - (4:Int)) x0)):Int)/\(↑(List.length (o6 (0:Int) ((↑(List.length x0):Int) - (4:Int)) x0)):Int)<=(↑(List.length (o6 (0:Int) ((↑(List.length x0):Int) - (4:Int)) x0)):Int)) (.ctL (f9 (d8 Tryz.prog 46) 11) (St.mk [(2,AV.ptr 2 []),(6,AV.D9 64 (AV.cons (AV.ptr 4 []) AV.nil)),(7,AV.ptr 7 []),(54,AV.val f7 (0:Int))] [(2,g9.var (Ty.pair f7 (Ty.pair f7 (Ty.pair f7 (Ty.pair f7 (Ty.pair f7 (Ty.pair Z9 (Ty.pair Ty.str Ty.unit))))))) ((0:Int),(0:Int),(0:Int),(0:Int),(0:Int),[(0:Int),(0:Int),(0:Int),(0:Int),(0:Int),(0:Int)],[],())),(4,g9.var Ty.str (o6 (0:Int) ((↑(List.length x0):Int) - (4:Int)) x0)),(7,g9.var (Ty.pair f7 (Ty.pair f7 (Ty.pair f7 (Ty.pair f7 (Ty.pair f7 (Ty.pair Z9 (Ty.pair Ty.str Ty.unit))))))) (IntKind.wrap IntKind.i64 (↑(UInt8.toNat (List.getD (o6 (0:Int) ((↑(List.length x0):Int) - (4:Int)) x0) (Int.toNat (0:Int)) (0:UInt8))):Int),IntKind.wrap IntKind.i64 (↑(UInt8.toNat (List.getD (o6 (0:Int) ((↑(List.length x0):Int) - (4:Int)) x0) (Int.toNat (1:Int)) (0:UInt8))):Int),IntKind.wrap IntKind.i64 (↑(UInt8.toNat (List.getD (o6 (0:Int) ((↑(List.length x0):Int) - (4:Int)) x0) (Int.toNat (2:Int)) (0:UInt8))):Int),vG (o6 (0:Int) ((↑(List.length x0):Int) - (4:Int)) x0) (Int.toNat (0:Int)),vG (o6 (0:Int) ((↑(List.length x0):Int) - (4:Int)) x0) (Int.toNat (1:Int)),[(0:Int),(0:Int),(0:Int),(0:Int),(0:Int),(0:Int)],o6 (27:Int) (↑(List.length (o6 (0:Int) ((↑(List.length x0):Int) - (4:Int)) x0)):Int) (o6 (0:Int) ((↑(List.length x0):Int) - (4:Int)) x0),()))])))))))))))))))):=by kernel_rfl
def SB (wI:Int) (dW:Int) (cQ:Int) (dV:Int) (cY:Int) (cz:Int) (bZ:List Int) (bN:yY) (o4:yY) (cP:Int) (bt:Int) (cE:Int) (bT:Int) (bF:Int) (bq:List Int) (bh:yY):St:=St.mk [(2,AV.ptr 2 []),(6,AV.D9 64 (AV.cons (AV.ptr 4 []) AV.nil)),(7,AV.ptr 7 []),(54,AV.val f7 wI)] [(2,g9.var (Ty.pair f7 (Ty.pair f7 (Ty.pair f7 (Ty.pair f7 (Ty.pair f7 (Ty.pair Z9 (Ty.pair Ty.str Ty.unit))))))) (dW,cQ,dV,cY,cz,bZ,bN,())),(4,g9.var Ty.str o4),(7,g9.var (Ty.pair f7 (Ty.pair f7 (Ty.pair f7 (Ty.pair f7 (Ty.pair f7 (Ty.pair Z9 (Ty.pair Ty.str Ty.unit))))))) (cP,bt,cE,bT,bF,bq,bh,()))]
theorem c49 (wI:Int) (dW:Int) (cQ:Int) (dV:Int) (cY:Int) (cz:Int) (bZ:List Int) (bN:yY) (o4:yY) (cP:Int) (bt:Int) (cE:Int) (bT:Int) (bF:Int) (bq:List Int) (bh:yY):exec Ef 1000 (.code (f9 (d8 Tryz.prog 46) 11).1::.inLoop (f9 (d8 Tryz.prog 46) 11).1::(f9 (d8 Tryz.prog 46) 11).2) (SB wI dW cQ dV cY cz bZ bN o4 cP bt cE bT bF bq bh) =
  cond (decide (wI<(6:Int))) (.f8 (w4 IntKind.i64 ((2:Int)+wI)) (.f8 ((0:Int)<=(2:Int)+wI/\(5:Int)+(3:Int)*((2:Int)+wI)<(↑(List.length o4):Int)) (.f8 ((0:Int)<=wI/\wI<(↑6:Int)) (.f8 (w4 IntKind.i64 (wI+(1:Int))) (.ctL (f9 (d8 Tryz.prog 46) 11) (St.mk [(2,AV.ptr 2 []),(6,AV.D9 64 (AV.cons (AV.ptr 4 []) AV.nil)),(7,AV.ptr 7 []),(54,AV.val f7 (wI+(1:Int)))] [(2,g9.var (Ty.pair f7 (Ty.pair f7 (Ty.pair f7 (Ty.pair f7 (Ty.pair f7 (Ty.pair Z9 (Ty.pair Ty.str Ty.unit))))))) (dW,cQ,dV,cY,cz,bZ,bN,())),(4,g9.var Ty.str o4),(7,g9.var (Ty.pair f7 (Ty.pair f7 (Ty.pair f7 (Ty.pair f7 (Ty.pair f7 (Ty.pair Z9 (Ty.pair Ty.str Ty.unit))))))) (cP,bt,cE,bT,bF,List.set bq (Int.toNat wI) (vG o4 (Int.toNat ((2:Int)+wI))),bh,()))])))))) (.f8 (True) (cond (decide (E8 (cP,bt,cE,bT,bF,bq,bh,())≠(0:Int))) (.ret ((((0:Int),(0:Int),(0:Int),(0:Int),(0:Int),[(0:Int),(0:Int),(0:Int),(0:Int),(0:Int),(0:Int)],[],()),E8 (cP,bt,cE,bT,bF,bq,bh,()),()))) (.ret (((cP,bt,cE,bT,bF,bq,bh,()),(0:Int),()))))):=by kernel_rfl
def atL (s:yY) (i:Nat):List Int:=(List.range 6).map (λ j=>if j<i then vG s (2+j) else 0)
theorem b85:HR.Valid Tryz.prog 46:=by
  refine r9.p7 KF rfl rfl Tryz.func46 (c:=d8 Tryz.prog 46) rfl rfl KL rfl ?_;rintro ⟨(s:yY),⟨⟩⟩ - -
  refine j6 (n:=1000) KF KL ?_;refine i7 (WD s) ?_;simp only [j7,Tree.holds,sL];refine ⟨λ h=>?_,λ h1=>⟨λ h=>?_,λ h2=>⟨by omega,λ _=>⟨by omega,λ _=>⟨by omega,λ _=>⟨by omega,λ _=>?_⟩⟩⟩⟩⟩⟩
  . show ((xT,2,()):n8×Int×Unit)=y6 s;rw [y6,if_pos (by omega)]
  . show ((xT,3,()):n8×Int×Unit)=y6 s;rw [y6,if_neg (by omega),if_pos (by omega)]
  obtain ⟨n,hn⟩:∃ n:Nat,(s.length:Int) - 4=n:=⟨s.length - 4,by omega⟩;have te:s.length - 4=n:=by omega
  have b1:o6 0 ((s.length:Int) - 4) s=s.take n:=by rw [hn,o6]; simp
  have b2:o6 ((s.length:Int) - 4) (s.length:Int) s=s.drop n:=by rw [hn,o6,aCa,aAw (by rw [aAo]; omega)]
  have bQ:(s.take n).length=n:=by rw [aAn]; omega
  have b3:o6 27 (n:Int) (s.take n)=(s.take n).drop 27:=by rw [o6,aAw (by rw [aAo,bQ]; show n - 27<=((n:Int) - 27).toNat; omega)]; rfl
  have b4:List.map (λ n:Int=>UInt8.ofNat n.toNat) (wY (vZ (s.take n)))=le4 (vZ (s.take n)):=Lt _;have hR:y6 s=if le4 (vZ (s.take n))≠s.drop n then (xT,5,()) else if E8 (parse (s.take n))≠0 then (xT,E8 (parse (s.take n)),()) else (parse (s.take n),0,()):=by
    rw [y6,if_neg (by omega),if_neg (by omega),te]
  generalize ij:s.take n=body at *
  have w:∀ q:UInt8,IntKind.wrap .i64 (q.toNat:Int)=(q.toNat:Int):=λ q=>by have:=q.toNat_lt; exact V2 (G6.2 ⟨by omega,by omega⟩)
  simp only [j7,Tree.holds,b1,b2,b4,bQ,b3,w,sL];refine ⟨λ h=>?_,λ h=>⟨by omega,λ _=>⟨by omega,λ _=>⟨by omega,λ _=>⟨by omega,λ _=>⟨by omega,λ _=>⟨by omega,λ _=>?_⟩⟩⟩⟩⟩⟩⟩
  . show ((xT,5,()):n8×Int×Unit)=y6 s;rw [hR,if_pos h]
  rw [if_neg h] at hR;refine Reach.N4 KF KL (λ i:Nat=>SB (i:Int) 0 0 0 0 0 [0,0,0,0,0,0] [] body (wJ body 0) (wJ body 1) (wJ body 2) (vG body 0) (vG body 1) (atL body i) (body.drop 27)) (λ i=>i<=6)
    (λ i=>6 - i) 1000 (λ _=>⟨w6 rfl,w6 rfl⟩) ?_ 0 (aAr _)
  rintro i k1 - ih;have k1:i<=6:=k1;refine i7 (c49 ..) ?_;simp only [j7,Tree.holds,bQ,sL];refine ⟨λ c=>⟨by omega,λ _=>⟨by omega,λ _=>⟨by omega,λ _=>⟨by omega,λ _=>?_⟩⟩⟩⟩,λ c=>?_⟩
  . have hi:i<6:=by omega
    have:=ih (i+1) (by show i+1<=6; omega) (by omega);have e2:Int.toNat (2+(i:Int))=2+i:=by omega
    have:(atL body i).set i (vG body (2+i))=atL body (i+1):=by
      rw [atL,b5p _ _ hi,atL];refine List.map_congr_left (λ j hj=>?_);by_cases e:j=i
      . rw [if_pos e,if_pos (by omega),e]
      . rw [if_neg e];by_cases e2:j<i
        . rw [if_pos e2,if_pos (by omega)]
        . rw [if_neg e2,if_neg (by omega)]
    rw [e2,this]
    assumption
  . obtain rfl:i=6:=by omega
    have hp:(wJ body 0,wJ body 1,wJ body 2,vG body 0,vG body 1,atL body 6,body.drop 27,())=parse body:=rfl;rw [hp];refine ⟨λ h=>?_,λ h=>?_⟩
    . show ((xT,E8 (parse body),()):n8×Int×Unit)=y6 s;rw [hR,if_pos h]
    . show ((parse body,0,()):n8×Int×Unit)=y6 s;rw [hR,if_neg h]
abbrev vX:=Int×Int×Unit
def outside (m:Int):Bool:=decide (64<=m)
def half (p o:Int):Bool:=decide (wo o<2*wo (U2 .u8 p o))
def R3 (v:vX):Int:=if v.1<0\/16777215<v.1\/v.2.1=0\/64<=v.2.1 then 1 else 0
def T9 (v:vX) (g c:Int):vX×Int×Unit :=
  if R3 v≠0 then ((0,0,()),R3 v,()) else if outside (bOr .u8 g c)=true then ((0,0,()),1,()) else if U2 .u8 g c≠0 then ((0,0,()),1,())
  else if v.1=16777215 then ((0,0,()),8,()) else if (!half (T8 .u8 v.2.1 g) v.2.1)=true then ((0,0,()),11,()) else ((v.1+1,bOr .u8 (T8 .u8 v.2.1 g) c,()),0,())
def Fi:r9:={ ps:=[.v U8],rs:=[.bool],pre:=λ _=>True,fn:=λ x=>(outside x.1,()),out:=λ _=>() }
def Ct:r9:={ ps:=[.v View],rs:=[f7],pre:=λ _=>True,fn:=λ x=>(R3 x.1,()),out:=λ _=>() }
def HA:r9:={ ps:=[.v U8],rs:=[f7],pre:=λ _=>True,fn:=λ x=>(wo x.1,()),out:=λ _=>() }
def Hq:r9:={ ps:=[.v U8,.v U8],rs:=[.bool],pre:=λ _=>True,fn:=λ x=>(half x.1 x.2.1,()),out:=λ _=>() }
def Ck:r9:={ ps:=[.v View,.v U8,.v U8],rs:=[View,f7],pre:=λ _=>True,fn:=λ x=>T9 x.1 x.2.1 x.2.2.1,out:=λ _=>() }
noncomputable def JR:Env:={ P:=Tryz.prog,tt:=tt,E3:=[],res:=[Go.ResultVar.tmp 2],rs:=[Ty.bool],ps:=[PK.v U8],D5:=[],nt:=6 }
theorem Ua:B8 JR:=C4 s7 trivial
theorem Ub:D7 JR Tryz.f71:=⟨rfl,rfl⟩
theorem c3a (x0:Int):exec JR 1000 [.code (d8 Tryz.prog 71)] (w9 Fi.ps ((x0,()))) =
  .f8 ((0:Int)<=(6:Int)) (.ret ((decide (x0 / (2:Int)^min (Int.toNat (6:Int)) (IntKind.bits IntKind.u8)≠(0:Int)),()))):=by kernel_rfl
theorem Vj:Fi.Valid Tryz.prog 71:=by
  refine r9.p7 Ua rfl rfl Tryz.func71 (c:=d8 Tryz.prog 71) rfl rfl Ub rfl ?_;rintro ⟨(x0:Int),⟨⟩⟩ - ⟨h0,-⟩;refine j6 (n:=1000) Ua Ub ?_;refine i7 (c3a x0) ?_;refine ⟨by decide,λ _=>?_⟩;have h:0<=x0/\x0<=255:=h0;show (decide (x0 / 2^6≠0),())=(outside x0,());unfold outside;congr 1;exact decide_eq_decide.2 (by omega)
noncomputable def Jz:Env:={ P:=Tryz.prog,tt:=tt,E3:=[(71,Fi)],res:=[Go.ResultVar.tmp 2],rs:=[Ty.int IntKind.i64],ps:=[PK.v View],D5:=[],nt:=21 }
theorem Tw:B8 Jz:=C4 s7 ⟨Vj,trivial⟩
theorem TE:D7 Jz Tryz.f70:=⟨rfl,rfl⟩
theorem c47 (aO:Int) (ab:Int):exec Jz 1000 [.code (d8 Tryz.prog 70)] (w9 Ct.ps (((aO,ab,()),()))) =
  cond (decide (aO<(0:Int))) (.ret (((1:Int),()))) (cond (decide ((16777215:Int)<aO)) (.ret (((1:Int),()))) (cond (decide (ab=(0:Int))) (.ret (((1:Int),()))) (.f8 (True) (cond (outside ab) (.ret (((1:Int),()))) (.ret (((0:Int),()))))))):=by kernel_rfl
theorem UZ:Ct.Valid Tryz.prog 70:=by
  refine r9.p7 Tw rfl rfl Tryz.func70 (c:=d8 Tryz.prog 70) rfl rfl TE rfl ?_;rintro ⟨⟨(x0:Int),(x1:Int),⟨⟩⟩,⟨⟩⟩ - ⟨⟨h0,h1,-⟩,-⟩;refine j6 (n:=1000) Tw TE ?_;refine i7 (c47 x0 x1) ?_;have g0:-9223372036854775808<=x0/\x0<=9223372036854775807:=h0;have g1:0<=x1/\x1<=255:=h1;simp only [j7,Tree.holds,decide_eq_true_eq,decide_eq_false_iff_not];have key:∀ r:Int,r=R3 (x0,x1,())->((r,()):DL [Ty.int .i64])=Ct.fn ((x0,x1,()),()):=by rintro r rfl; rfl
  refine ⟨λ a=>key _ ?_,λ a=>⟨λ b=>key _ ?_,λ b=>⟨λ c=>key _ ?_,λ c=>⟨trivial,λ _=>⟨λ d=>key _ ?_,λ d=>key _ ?_⟩⟩⟩⟩⟩
  all_goals simp only [R3,outside,decide_eq_true_eq,decide_eq_false_iff_not] at *
  all_goals (first|rw [if_pos (by omega)]|rw [if_neg (by omega)])
noncomputable def Hk:Env:={ P:=Tryz.prog,tt:=tt,E3:=[],res:=[Go.ResultVar.tmp 2],rs:=[Ty.int IntKind.i64],ps:=[PK.v U8],D5:=[],nt:=6 }
theorem Qj:B8 Hk:=C4 s7 trivial
theorem QA:D7 Hk Tryz.f88:=⟨rfl,rfl⟩
theorem WA (x0:Int):exec Hk 1000 [.code (d8 Tryz.prog 88)] (w9 HA.ps ((x0,()))) =
  .f8 ((0:Int)<=x0/\x0<(↑(List.length (Array.toList (ByteArray.data (ByteArray.mk (List.toArray (List.append (List.append ([0,1,1,2,1,2,2,3,1,2,2,3,2,3,3,4,1,2,2,3,2,3,3,4,2,3,3,4,3,4,4,5,1,2,2,3,2,3,3,4,2,3,3,4,3,4,4,5,2,3,3,4,3,4,4,5,3,4,4,5,4,5,5,6]:yY) ([1,2,2,3,2,3,3,4,2,3,3,4,3,4,4,5,2,3,3,4,3,4,4,5,3,4,4,5,4,5,5,6,2,3,3,4,3,4,4,5,3,4,4,5,4,5,5,6,3,4,4,5,4,5,5,6,4,5,5,6,5,6,6,7]:yY)) (List.append ([1,2,2,3,2,3,3,4,2,3,3,4,3,4,4,5,2,3,3,4,3,4,4,5,3,4,4,5,4,5,5,6,2,3,3,4,3,4,4,5,3,4,4,5,4,5,5,6,3,4,4,5,4,5,5,6,4,5,5,6,5,6,6,7]:yY) ([2,3,3,4,3,4,4,5,3,4,4,5,4,5,5,6,3,4,4,5,4,5,5,6,4,5,5,6,5,6,6,7,3,4,4,5,4,5,5,6,4,5,5,6,5,6,6,7,4,5,5,6,5,6,6,7,5,6,6,7,6,7,7,8]:yY)))))))):Int)) (.ret ((IntKind.wrap IntKind.i64 (↑(UInt8.toNat (List.getD (Array.toList (ByteArray.data (ByteArray.mk (List.toArray (List.append (List.append ([0,1,1,2,1,2,2,3,1,2,2,3,2,3,3,4,1,2,2,3,2,3,3,4,2,3,3,4,3,4,4,5,1,2,2,3,2,3,3,4,2,3,3,4,3,4,4,5,2,3,3,4,3,4,4,5,3,4,4,5,4,5,5,6]:yY) ([1,2,2,3,2,3,3,4,2,3,3,4,3,4,4,5,2,3,3,4,3,4,4,5,3,4,4,5,4,5,5,6,2,3,3,4,3,4,4,5,3,4,4,5,4,5,5,6,3,4,4,5,4,5,5,6,4,5,5,6,5,6,6,7]:yY)) (List.append ([1,2,2,3,2,3,3,4,2,3,3,4,3,4,4,5,2,3,3,4,3,4,4,5,3,4,4,5,4,5,5,6,2,3,3,4,3,4,4,5,3,4,4,5,4,5,5,6,3,4,4,5,4,5,5,6,4,5,5,6,5,6,6,7]:yY) ([2,3,3,4,3,4,4,5,3,4,4,5,4,5,5,6,3,4,4,5,4,5,5,6,4,5,5,6,5,6,6,7,3,4,4,5,4,5,5,6,4,5,5,6,5,6,6,7,4,5,5,6,5,6,6,7,5,6,6,7,6,7,7,8]:yY))))))) (Int.toNat x0) (0:UInt8))):Int),()))):=by kernel_rfl
theorem b89:HA.Valid Tryz.prog 88:=by
  refine r9.p7 Qj rfl rfl Tryz.func88 (c:=d8 Tryz.prog 88) rfl rfl QA rfl ?_;rintro ⟨(x0:Int),⟨⟩⟩ - ⟨h0,-⟩;refine j6 (n:=1000) Qj QA ?_;refine i7 (WA x0) ?_;have g0:0<=x0/\x0<=255:=h0;obtain ⟨n,rfl⟩:∃ n:Fin 256,x0=((n.val:Nat):Int):=⟨⟨x0.toNat,by omega⟩,by simp; omega⟩;refine ⟨?_,λ _=>?_⟩
  . clear h0 g0; revert n; decide +kernel
  . show ((_,()):Int×Unit)=(wo n,());clear h0 g0; revert n; decide +kernel
noncomputable def He:Env:={ P:=Tryz.prog,tt:=tt,E3:=[(88,HA)],res:=[Go.ResultVar.tmp 4],rs:=[Ty.bool],ps:=[PK.v U8,PK.v U8],D5:=[],nt:=13 }
theorem QF:B8 He:=C4 s7 ⟨b89,trivial⟩
theorem Qv:D7 He Tryz.f72:=⟨rfl,rfl⟩
theorem Ws (x0:Int) (x1:Int):exec He 1000 [.code (d8 Tryz.prog 72)] (w9 Hq.ps ((x0,x1,()))) =
  .f8 (True) (.f8 (w4 IntKind.i64 ((2:Int)*wo (U2 IntKind.u8 x0 x1))) (.f8 (True) (.ret ((decide (wo x1<(2:Int)*wo (U2 IntKind.u8 x0 x1)),()))))):=by kernel_rfl
theorem b9m:Hq.Valid Tryz.prog 72:=by
  refine r9.p7 QF rfl rfl Tryz.func72 (c:=d8 Tryz.prog 72) rfl rfl Qv rfl ?_;rintro ⟨(x0:Int),(x1:Int),⟨⟩⟩ - ⟨h0,h1,-⟩;refine j6 (n:=1000) QF Qv ?_;refine i7 (Ws x0 x1) ?_;have hb:∀ a b:Int,0<=wo (U2 .u8 a b)/\wo (U2 .u8 a b)<=8:=λ a b=>PN _;refine ⟨trivial,λ _=>⟨?_,λ _=>⟨trivial,λ _=>rfl⟩⟩⟩;have:=hb x0 x1;show -9223372036854775808<=_/\_<=9223372036854775807;omega
theorem c0Y {v:vX} (h:R3 v=0):0<=v.1/\v.1<=16777215/\v.2.1≠0/\v.2.1<64:=by
  unfold R3 at h;split at h
  . cases h
  . omega
noncomputable def IF:Env:={ P:=Tryz.prog,tt:=tt,E3:=[(71,Fi),(70,Ct),(72,Hq)],res:=[Go.ResultVar.cell 6 57,Go.ResultVar.tmp 7],rs:=[Ty.pair f7 (Ty.pair U8 Ty.unit),Ty.int IntKind.i64],ps:=[PK.v View,PK.v U8,PK.v U8],D5:=[],nt:=52 }
theorem SA:B8 IF:=C4 s7 ⟨Vj,UZ,b9m,trivial⟩
theorem Sh:D7 IF Tryz.f53:=⟨rfl,rfl⟩
theorem Yk (aO:Int) (ab:Int) (x1:Int) (x2:Int):exec IF 1000 [.code (d8 Tryz.prog 53)] (w9 Ck.ps (((aO,ab,()),x1,x2,()))) =
  .f8 (True) (cond (decide (R3 (aO,ab,())≠(0:Int))) (.ret ((((0:Int),(0:Int),()),R3 (aO,ab,()),()))) (.f8 (True) (cond (outside (bOr IntKind.u8 x1 x2)) (.ret ((((0:Int),(0:Int),()),(1:Int),()))) (cond (decide (U2 IntKind.u8 x1 x2≠(0:Int))) (.ret ((((0:Int),(0:Int),()),(1:Int),()))) (cond (decide (aO=(16777215:Int))) (.ret ((((0:Int),(0:Int),()),(8:Int),()))) (.f8 (True) (cond (!half (T8 IntKind.u8 ab x1) ab) (.ret ((((0:Int),(0:Int),()),(11:Int),()))) (.f8 (w4 IntKind.i64 (aO+(1:Int))) (.ret (((aO+(1:Int),bOr IntKind.u8 (T8 IntKind.u8 ab x1) x2,()),(0:Int),()))))))))))):=by kernel_rfl
theorem US:Ck.Valid Tryz.prog 53:=by
  refine r9.p7 SA rfl rfl Tryz.func53 (c:=d8 Tryz.prog 53) rfl rfl Sh rfl ?_;rintro ⟨⟨(x0:Int),(x1:Int),⟨⟩⟩,(g:Int),(c:Int),⟨⟩⟩ - ⟨⟨h0,h1,-⟩,h2,h3,-⟩;refine j6 (n:=1000) SA Sh ?_;refine i7 (Yk x0 x1 g c) ?_;have g0:-9223372036854775808<=x0/\x0<=9223372036854775807:=h0;have key:∀ r:vX×Int×Unit,T9 (x0,x1,()) g c=r->((r:DL [View,.int .i64])=Ck.fn ((x0,x1,()),g,c,())):=by rintro r rfl; rfl
  simp only [j7,Tree.holds,decide_eq_true_eq,decide_eq_false_iff_not];refine ⟨trivial,λ _=>⟨λ a=>key _ ?_,λ a=>⟨trivial,λ _=>⟨λ b=>key _ ?_,λ b=>⟨λ d=>key _ ?_,λ d=>⟨λ e=>key _ ?_,λ e=>⟨trivial,λ _=>⟨λ f=>key _ ?_,λ f=>⟨⟨?_,?_⟩,λ _=>key _ ?_⟩⟩⟩⟩⟩⟩⟩⟩⟩
  . rw [T9,if_pos a]; rfl
  . rw [T9,if_neg a,if_pos b]; rfl
  . rw [T9,if_neg a,if_neg (by simpa using b),if_pos d]; rfl
  . rw [T9,if_neg a,if_neg (by simpa using b),if_neg d,if_pos e]; rfl
  . rw [T9,if_neg a,if_neg (by simpa using b),if_neg d,if_neg e,if_pos f]; rfl
  . show -9223372036854775808<=_; omega
  . have:=(c0Y (v:=(x0,x1,())) (by simpa using a)).2.1;show x0+1<=9223372036854775807; simp only at this; omega
  . rw [T9,if_neg a,if_neg (by simpa using b),if_neg d,if_neg e,if_neg (by simpa using f)]; rfl
def U6 (f:Nat->Int):Nat->Int
  | 0=>0
  | k+1=>if U6 f k≠0 then U6 f k else f k
theorem Un {f:Nat->Int} {k:Nat} (h0:U6 f k=0) (h1:f k≠0):∀ {n:Nat},k<n->U6 f n=f k
  | 0,h=>by omega
  | n+1,h=>by
    by_cases e:k=n
    . subst e; simp [U6,h0]
    . have:=Un h0 h1 (n:=n) (by omega);simp [U6,this,h1]
theorem Um {f:Nat->Int} {k:Nat} (h0:U6 f k=0) (h1:f k=0):U6 f (k+1)=0:=by simp [U6,h0,h1]
theorem Gh {f:Nat->Int}:∀ {n:Nat},U6 f n=0↔∀ k,k<n->f k=0
  | 0=>by simp [U6]
  | n+1=>by
    constructor
    . intro h k hk;have h2:U6 f n=0:=by
        by_cases e:U6 f n=0
        . exact e
        . rw [U6,if_pos e] at h; exact absurd h e
      by_cases e:k=n
      . subst e; simpa [U6,h2] using h
      . exact Gh.1 h2 k (by omega)
    . intro h;exact Um (Gh.2 (λ k hk=>h k (by omega))) (h n (by omega))
abbrev s8:=Int×yY×Unit
abbrev wv:=Int×List yY×Unit
abbrev ToD:=Int×List s8×Unit
def BA:r9:={ ps:=[.v f7,.v f7,.v f7],rs:=[.bool],pre:=λ _=>True,fn:=λ x=>(inF x.1 x.2.1 x.2.2.1,()),out:=λ _=>() }
noncomputable def GB:Env:={ P:=Tryz.prog,tt:=tt,E3:=[],res:=[Go.ResultVar.tmp 6],rs:=[Ty.bool],ps:=[PK.v f7,PK.v f7,PK.v f7],D5:=[],nt:=15 }
theorem Pd:B8 GB:=C4 s7 trivial
theorem Pn:D7 GB Tryz.f75:=⟨rfl,rfl⟩
theorem Vr (x0:Int) (x1:Int) (x2:Int):exec GB 1000 [.code (d8 Tryz.prog 75)] (w9 BA.ps ((x0,x1,x2,()))) =
  cond (decide (x1<=x0)) (.ret ((decide (x0<=x2),()))) (.ret ((false,()))):=by kernel_rfl
theorem Lw:BA.Valid Tryz.prog 75:=by
  refine r9.p7 Pd rfl rfl Tryz.func75 (c:=d8 Tryz.prog 75) rfl rfl Pn rfl ?_;rintro ⟨(a:Int),(b:Int),(c:Int),⟨⟩⟩ - -
  refine j6 (n:=1000) Pd Pn ?_;refine i7 (Vr a b c) ?_;simp only [j7,Tree.holds,sL]
  repeat' first|exact trivial|(refine And.intro ?_ ?_)|(intro _)
  all_goals (show ((_,()):Bool×Unit)=(inF a b c,()); simp [inF, *])
def F3 (s:yY):Bool:=decide ((200:Int)<s.length)
def AJ:r9:={ ps:=[.v .str],rs:=[.bool],pre:=λ _=>True,fn:=λ x=>(F3 x.1,()),out:=λ _=>() }
noncomputable def IE:Env:={ P:=Tryz.prog,tt:=tt,E3:=[],res:=[Go.ResultVar.tmp 2],rs:=[Ty.bool],ps:=[PK.v Ty.str],D5:=[],nt:=6 }
theorem Sy:B8 IE:=C4 s7 trivial
theorem Sg:D7 IE Tryz.f59:=⟨rfl,rfl⟩
theorem Yi (x0:yY):exec IE 1000 [.code (d8 Tryz.prog 59)] (w9 AJ.ps ((x0,()))) =
  .ret ((decide ((200:Int)<(↑(List.length x0):Int)),())):=by kernel_rfl
theorem Gt:AJ.Valid Tryz.prog 59:=by
  refine r9.p7 Sy rfl rfl Tryz.func59 (c:=d8 Tryz.prog 59) rfl rfl Sg rfl ?_;rintro ⟨(s:yY),⟨⟩⟩ - -
  refine j6 (n:=1000) Sy Sg ?_;refine i7 (Yi s) ?_;rfl
def Hu:r9:={ ps:=[.v (.d0 false .str),.D9 59 []],rs:=[f7],pre:=λ x=>True,fn:=λ x=>(idxOf (F3) x.1,()),out:=λ _=>() }
noncomputable def Ee:Env:={ P:=Tryz.prog,tt:=tt,E3:=[(59,AJ)],res:=[Go.ResultVar.tmp 4],rs:=[Ty.int IntKind.i64],ps:=[PK.v (Ty.d0 false Ty.str),PK.D9 59 []],D5:=[(2,[(0,none),(1,none),(7,none),(8,none)])],nt:=19 }
theorem JQ:B8 Ee:=C4 s7 ⟨Gt,trivial⟩
theorem KJ:D7 Ee Tryz.f94:=⟨rfl,rfl⟩
theorem Wv (x0:List yY):exec Ee 1000 [.code (d8 Tryz.prog 94)] (w9 Hu.ps ((x0,(),()))) =
  .ctL (f9 (d8 Tryz.prog 94) 2) (St.mk [(0,AV.val (Ty.d0 false Ty.str) x0),(1,AV.D9 59 AV.nil),(7,AV.val f7 (↑(List.length x0):Int)),(8,AV.val f7 (0:Int))] []):=by kernel_rfl
def QI (v0:List yY) (v7:Int) (v8:Int):St:=St.mk [(0,AV.val (Ty.d0 false Ty.str) v0),(1,AV.D9 59 AV.nil),(7,AV.val f7 v7),(8,AV.val f7 v8)] []
theorem YT (v0:List yY) (v7:Int) (v8:Int):exec Ee 1000 (.code (f9 (d8 Tryz.prog 94) 2).1::.inLoop (f9 (d8 Tryz.prog 94) 2).1::(f9 (d8 Tryz.prog 94) 2).2) (QI v0 v7 v8) =
  cond (decide (v8<v7)) (.f8 ((0:Int)<=v8/\v8<(↑(List.length v0):Int)) (.f8 (True) (cond (F3 (List.getD v0 (Int.toNat v8) [])) (.ret ((v8,()))) (.f8 (w4 IntKind.i64 (v8+(1:Int))) (.ctL (f9 (d8 Tryz.prog 94) 2) (St.mk [(0,AV.val (Ty.d0 false Ty.str) v0),(1,AV.D9 59 AV.nil),(7,AV.val f7 v7),(8,AV.val f7 (v8+(1:Int)))] [])))))) (.ret (((-1:Int),()))):=by kernel_rfl
theorem b9h:Hu.Valid Tryz.prog 94:=by
  refine r9.p7 JQ rfl rfl Tryz.func94 (c:=d8 Tryz.prog 94) rfl rfl KJ rfl ?_;rintro ⟨(l:List yY),⟨⟩,⟨⟩⟩ - ⟨⟨hl,-⟩,-⟩;have hl:l.length<=9223372036854775807:=hl;refine j6 (n:=1000) JQ KJ ?_;refine i7 (Wv l ) ?_;refine Reach.N4 JQ KJ (λ i:Nat=>QI l  (l.length:Int) (i:Int)) (λ i=>i<=l.length/\idxOf (F3) l=X9 (F3) (l.drop i) i)
    (λ i=>l.length - i) 1000 (λ _=>⟨w6 rfl,w6 rfl⟩) ?_ 0 ⟨by omega,rfl⟩
  rintro i ⟨k1,k2⟩ - ih;refine i7 (YT ..) ?_;simp only [j7,Tree.holds,sL];refine ⟨λ h=>?_,λ h=>?_⟩
  . rw [FF (show i<l.length by omega) [],X9] at k2;refine ⟨by omega,λ _=>⟨λ c=>?_,λ c=>⟨by omega,λ _=>ih (i+1) ⟨by omega,?_⟩ (by omega)⟩⟩⟩
    . show (((i:Int),()):Int×Unit)=(idxOf (F3) l,());rw [k2,if_pos (show (F3) (l.getD i [])=true from c)]
    . rw [k2,if_neg (show ¬ (F3) (l.getD i [])=true from λ h9=>Bool.noConfusion (Eq.trans (Eq.symm h9) c))]
  . rw [aDs (by omega)] at k2;show (((-1:Int),()):Int×Unit)=(idxOf (F3) l,());rw [k2]; rfl
def ID:r9:={ ps:=[.v (.d0 false .str),.D9 59 []],rs:=[.bool],pre:=λ x=>True,fn:=λ x=>(List.any (α:=yY) x.1 (F3),()),out:=λ _=>() }
noncomputable def Il:Env:={ P:=Tryz.prog,tt:=tt,E3:=[(94,Hu)],res:=[Go.ResultVar.tmp 4],rs:=[Ty.bool],ps:=[PK.v (Ty.d0 false Ty.str),PK.D9 59 []],D5:=[],nt:=9 }
theorem Rk:B8 Il:=C4 s7 ⟨b9h,trivial⟩
theorem SF:D7 Il Tryz.f76:=⟨rfl,rfl⟩
theorem YD (x0:List yY):exec Il 1000 [.code (d8 Tryz.prog 76)] (w9 ID.ps ((x0,(),()))) =
  .f8 (True) (.ret ((decide ((0:Int)<=idxOf F3 x0),()))):=by kernel_rfl
theorem b7a:ID.Valid Tryz.prog 76:=by
  refine r9.p7 Rk rfl rfl Tryz.func76 (c:=d8 Tryz.prog 76) rfl rfl SF rfl ?_;rintro ⟨(l:List yY),⟨⟩,⟨⟩⟩ - -
  refine j6 (n:=1000) Rk SF ?_;refine i7 (YD l ) ?_;refine ⟨trivial,λ _=>?_⟩;show ((decide (0<=idxOf (F3) l),()):Bool×Unit)=(l.any (F3),());rw [EV]
theorem VY:Ty.wb .str=16:=rfl
def DW:r9:={ ps:=[.v (.d0 false .str)],rs:=[.d0 true .str],pre:=λ x=>List.length (α:=yY) x.1<=1048576,fn:=λ x=>x,out:=λ _=>() }
noncomputable def GD:Env:={ P:=Tryz.prog,tt:=tt,E3:=[],res:=[Go.ResultVar.tmp 2],rs:=[Ty.d0 true Ty.str],ps:=[PK.v (Ty.d0 false Ty.str)],D5:=[],nt:=8 }
theorem Pf:B8 GD:=C4 s7 trivial
theorem Pp:D7 GD Tryz.f32:=⟨rfl,rfl⟩
theorem Vt (x0:List yY):exec GD 1000 [.code (d8 Tryz.prog 32)] (w9 DW.ps ((x0,()))) =
  .both (x0=[]) (.ret (([],()))) (.f8 ((0:Nat)+List.length x0<=140737488355328/\((0:Nat)+List.length x0)*Ty.wb Ty.str<=140737488355328) (.ret (([]++x0,())))):=by kernel_rfl
theorem Tn:DW.Valid Tryz.prog 32:=by
  refine r9.p7 Pf rfl rfl Tryz.func32 (c:=d8 Tryz.prog 32) rfl rfl Pp rfl ?_;rintro ⟨(l:List yY),⟨⟩⟩ hp -
  have hp:l.length<=1048576:=hp;refine j6 (n:=1000) Pf Pp ?_;refine i7 (Vt l) ?_;simp only [j7,Tree.holds,VY,sL];refine ⟨λ h=>?_,by omega,λ _=>rfl⟩;show (([],()):List yY×Unit)=(l,());rw [show l=[] from h]
def f00:wv:=(0,[],())
def J4 (s:wv):Int:=if inF s.1 0 16777215=false then 1 else if (16:Int)<s.2.1.length then 1 else if s.2.1.any F3=true then 2 else 0
def Cj:r9:={ ps:=[.v T1],rs:=[f7],pre:=λ _=>True,fn:=λ x=>(J4 x.1,()),out:=λ _=>() }
noncomputable def Io:Env:={ P:=Tryz.prog,tt:=tt,E3:=[(75,BA),(76,ID)],res:=[Go.ResultVar.tmp 2],rs:=[Ty.int IntKind.i64],ps:=[PK.v T1],D5:=[],nt:=18 }
theorem Rm:B8 Io:=C4 s7 ⟨Lw,b7a,trivial⟩
theorem SH:D7 Io Tryz.f58:=⟨rfl,rfl⟩
theorem YG (aO:Int) (ab:List yY):exec Io 1000 [.code (d8 Tryz.prog 58)] (w9 Cj.ps (((aO,ab,()),()))) =
  .f8 (True) (cond (!inF aO (0:Int) (16777215:Int)) (.ret (((1:Int),()))) (cond (decide ((16:Int)<(↑(List.length ab):Int))) (.ret (((1:Int),()))) (.f8 (True) (cond (List.any ab F3) (.ret (((2:Int),()))) (.ret (((0:Int),()))))))):=by kernel_rfl
theorem lnf {b:Bool} (h:b=true):¬ b=false:=by rw [h]; simp
theorem MK:Cj.Valid Tryz.prog 58:=by
  refine r9.p7 Rm rfl rfl Tryz.func58 (c:=d8 Tryz.prog 58) rfl rfl SH rfl ?_;rintro ⟨⟨(b:Int),(l:List yY),⟨⟩⟩,⟨⟩⟩ - -
  refine j6 (n:=1000) Rm SH ?_;refine i7 (YG b l) ?_;have key:∀ {x:Int},J4 (b,l,())=x->((x,()):Int×Unit)=(J4 (b,l,()),()):=by rintro x rfl; rfl
  have hd:J4 (b,l,())=if inF b 0 16777215=false then 1 else if (16:Int)<l.length then 1 else if l.any F3=true then 2 else 0:=rfl
  simp only [j7,Tree.holds,sL];refine ⟨λ a=>key (by rw [hd,if_pos a]),λ a=>⟨λ c=>key (by rw [hd,if_neg (lnf a),if_pos c]),λ c=>⟨λ d=>key (by rw [hd,if_neg (lnf a),if_neg c,if_pos d]),λ d=>key (by rw [hd,if_neg (lnf a),if_neg c,if_neg (by rw [d]; simp)])⟩⟩⟩
theorem yA {s:wv} (h:J4 s=0):(0<=s.1/\s.1<=16777215)/\s.2.1.length<=16/\s.2.1.any F3=false:=by
  unfold J4 at h;split at h
  . cases h
  rename_i c1;split at h
  . cases h
  rename_i c2;split at h
  . cases h
  rename_i c3;exact ⟨yp.1 (aEn _▸c1),by omega,by simpa using c3⟩
def L9 (s:wv) (x:yY):wv×Int×Unit :=
  if J4 s≠0 then (f00,J4 s,()) else if F3 x=true then (f00,2,()) else if (s.2.1.length:Int)=16\/16777215<=s.1+s.2.1.length then (f00,8,()) else ((s.1,s.2.1++[x],()),0,())
def Hx:r9:={ ps:=[.v T1,.v .str],rs:=[Nj,f7],pre:=λ _=>True,fn:=λ x=>L9 x.1 x.2.1,out:=λ _=>() }
noncomputable def Hh:Env:={ P:=Tryz.prog,tt:=tt,E3:=[(58,Cj),(59,AJ),(32,DW)],res:=[Go.ResultVar.cell 4 78,Go.ResultVar.tmp 5],rs:=[Ty.pair f7 (Ty.pair (Ty.d0 true Ty.str) Ty.unit),Ty.int IntKind.i64],ps:=[PK.v T1,PK.v Ty.str],D5:=[],nt:=41 }
theorem Qh:B8 Hh:=C4 s7 ⟨MK,Gt,Tn,trivial⟩
theorem Qy:D7 Hh Tryz.f42:=⟨rfl,rfl⟩
theorem Wy (aO:Int) (ab:List yY) (x1:yY):exec Hh 1000 [.code (d8 Tryz.prog 42)] (w9 Hx.ps (((aO,ab,()),x1,()))) =
  .f8 (True) (cond (decide (J4 (aO,ab,())≠(0:Int))) (.ret ((((0:Int),[],()),J4 (aO,ab,()),()))) (.f8 (True) (cond (F3 x1) (.ret ((((0:Int),[],()),(2:Int),()))) (cond (decide ((↑(List.length ab):Int)=(16:Int))) (.ret ((((0:Int),[],()),(8:Int),()))) (.f8 (w4 IntKind.i64 (aO+(↑(List.length ab):Int))) (cond (decide ((16777215:Int)<=aO+(↑(List.length ab):Int))) (.ret ((((0:Int),[],()),(8:Int),()))) (.f8 (List.length ab<=1048576) (.f8 (List.length ab+List.length (List.set [[]] (Int.toNat (↑0:Int)) x1)<=140737488355328/\(List.length ab+List.length (List.set [[]] (Int.toNat (↑0:Int)) x1))*Ty.wb Ty.str<=140737488355328) (.ret (((aO,ab++List.set [[]] (Int.toNat (↑0:Int)) x1,()),(0:Int),()))))))))))):=by kernel_rfl
theorem b9c:Hx.Valid Tryz.prog 42:=by
  refine r9.p7 Qh rfl rfl Tryz.func42 (c:=d8 Tryz.prog 42) rfl rfl Qy rfl ?_;rintro ⟨⟨(b:Int),(l:List yY),⟨⟩⟩,(x:yY),⟨⟩⟩ - -
  refine j6 (n:=1000) Qh Qy ?_;refine i7 (Wy b l x) ?_;have key:∀ {y:wv×Int×Unit},L9 (b,l,()) x=y->y=L9 (b,l,()) x:=λ h=>h.symm;have hd:L9 (b,l,()) x=if J4 (b,l,())≠0 then (f00,J4 (b,l,()),()) else if F3 x=true then (f00,2,()) else if (l.length:Int)=16\/16777215<=b+l.length then (f00,8,()) else ((b,l++[x],()),0,()):=rfl
  have hw:Ty.wb .str=16:=rfl;simp only [j7,Tree.holds,hw,sL];refine ⟨λ a=>key (by rw [hd,if_pos a]<;>rfl),λ a=>?_⟩;have aH:=yA (aBt.1 a);simp only at aH;rw [if_neg a] at hd;refine ⟨λ c=>key (by rw [hd,if_pos c]<;>rfl),λ c=>?_⟩;rw [if_neg (by rw [c]; simp)] at hd;refine ⟨λ d=>key (by rw [hd,if_pos (.inl d)]<;>rfl),λ d=>⟨by omega,λ _=>⟨λ e=>key (by rw [hd,if_pos (.inr e)]<;>rfl),λ e=>⟨by omega,λ _=>⟨⟨by omega,by omega⟩,λ _=>key ?_⟩⟩⟩⟩⟩;rw [hd,if_neg (by rintro (h|h); exact d h; exact e h)]; rfl
def ahd (b x:Int):Int:=if x - b<0 then 0 else x - b
def T7 (s:wv) (x:Int):wv×Int×Unit :=
  if J4 s≠0 then (f00,J4 s,()) else if s.1+s.2.1.length<x then (f00,1,()) else ((s.1+ahd s.1 x,s.2.1.drop (ahd s.1 x).toNat,()),0,())
def JG:r9:={ ps:=[.v T1,.v f7],rs:=[Nj,f7],pre:=λ x=>LE.le (α:=Int) 0 x.2.1,fn:=λ x=>T7 x.1 x.2.1,out:=λ _=>() }
noncomputable def Jw:Env:={ P:=Tryz.prog,tt:=tt,E3:=[(58,Cj),(32,DW)],res:=[Go.ResultVar.cell 4 78,Go.ResultVar.tmp 5],rs:=[Ty.pair f7 (Ty.pair (Ty.d0 true Ty.str) Ty.unit),Ty.int IntKind.i64],ps:=[PK.v T1,PK.v f7],D5:=[],nt:=38 }
theorem Ts:B8 Jw:=C4 s7 ⟨MK,Tn,trivial⟩
theorem TC:D7 Jw Tryz.f86:=⟨rfl,rfl⟩
theorem Zp (aO:Int) (ab:List yY) (x1:Int):exec Jw 1000 [.code (d8 Tryz.prog 86)] (w9 JG.ps (((aO,ab,()),x1,()))) =
  .f8 (True) (cond (decide (J4 (aO,ab,())≠(0:Int))) (.ret ((((0:Int),[],()),J4 (aO,ab,()),()))) (.f8 (w4 IntKind.i64 (aO+(↑(List.length ab):Int))) (cond (decide (aO+(↑(List.length ab):Int)<x1)) (.ret ((((0:Int),[],()),(1:Int),()))) (.f8 (w4 IntKind.i64 (x1 - aO)) (.f8 (w4 IntKind.i64 (aO+if x1 - aO<(0:Int) then (0:Int) else x1 - aO)) (.f8 (((0:Int)<=if x1 - aO<(0:Int) then (0:Int) else x1 - aO)/\(if x1 - aO<(0:Int) then (0:Int) else x1 - aO)<=(↑(List.length ab):Int)/\(↑(List.length ab):Int)<=(↑(List.length ab):Int)) (.f8 (List.length (o6 (if x1 - aO<(0:Int) then (0:Int) else x1 - aO) (↑(List.length ab):Int) ab)<=1048576) (.ret (((aO+if x1 - aO<(0:Int) then (0:Int) else x1 - aO,o6 (if x1 - aO<(0:Int) then (0:Int) else x1 - aO) (↑(List.length ab):Int) ab,()),(0:Int),())))))))))):=by kernel_rfl
theorem b5E:JG.Valid Tryz.prog 86:=by
  refine r9.p7 Ts rfl rfl Tryz.func86 (c:=d8 Tryz.prog 86) rfl rfl TC rfl ?_;rintro ⟨⟨(b:Int),(l:List yY),⟨⟩⟩,(x:Int),⟨⟩⟩ (h0:0<=x) -
  refine j6 (n:=1000) Ts TC ?_;refine i7 (Zp b l x) ?_;have key:∀ {y:wv×Int×Unit},T7 (b,l,()) x=y->y=T7 (b,l,()) x:=λ h=>h.symm;have hd:T7 (b,l,()) x=if J4 (b,l,())≠0 then (f00,J4 (b,l,()),()) else if b+l.length<x then (f00,1,()) else ((b+ahd b x,l.drop (ahd b x).toNat,()),0,()):=rfl
  have ha:(if x - b<0 then 0 else x - b)=ahd b x:=rfl;have uf:0<=ahd b x/\(x<=b+l.length->ahd b x<=l.length)/\(ahd b x=0\/ahd b x=x - b):=by rw [ahd]; split<;>omega
  have jX:0<=ahd b x->o6 (ahd b x) (l.length:Int) l=l.drop (ahd b x).toNat:=λ h=>by
    rw [o6,aAw (by rw [aAo]; omega)]
  rw [ha];generalize ahd b x=n at *
  rw [jX uf.1];simp only [j7,Tree.holds,sL];refine ⟨λ a=>key (by rw [hd,if_pos a]<;>rfl),λ a=>?_⟩;have aH:=yA (aBt.1 a);simp only at aH;rw [if_neg a] at hd;refine ⟨by omega,λ _=>⟨λ c=>key (by rw [hd,if_pos c]<;>rfl),λ c=>?_⟩⟩;rw [if_neg c] at hd;refine ⟨by omega,λ _=>⟨by omega,λ _=>⟨by omega,λ _=>⟨?_,λ _=>key (by rw [hd]<;>rfl)⟩⟩⟩⟩;rw [aAo]; omega
def wQ (b most:Int) (l:List yY):Nat->List s8
  | 0=>[]
  | i+1=>wQ b most l i++(if (i:Int)<most then [(b+i,l.getD i [],())] else [])
theorem LX {b most:Int} {l:List yY}:∀ {i:Nat},(wQ b most l i).length<=i
  | 0=>aAk _
  | i+1=>by
    have:=LX (b:=b) (most:=most) (l:=l) (i:=i);rw [wQ,aAd]
    split<;>simp<;>omega
def xg (s:wv) (most:Int):List s8×Int×Unit:=if J4 s≠0 then ([],J4 s,()) else (wQ s.1 most s.2.1 s.2.1.length,0,())
def Jb:r9:={ ps:=[.v T1,.v f7],rs:=[.d0 true o7,f7],pre:=λ _=>True,fn:=λ x=>xg x.1 x.2.1,out:=λ _=>() }
noncomputable def Fe:Env:={ P:=Tryz.prog,tt:=tt,E3:=[(58,Cj)],res:=[Go.ResultVar.tmp 4,Go.ResultVar.tmp 5],rs:=[Ty.d0 true o7,Ty.int IntKind.i64],ps:=[PK.v T1,PK.v f7],D5:=[(6,[(1,none),(2,none),(7,some (Ty.d0 true o7)),(16,none),(17,none),(18,none)])],nt:=37 }
theorem Lq:B8 Fe:=C4 s7 ⟨MK,trivial⟩
theorem Ls:D7 Fe Tryz.f54:=⟨rfl,rfl⟩
theorem Zq (aO:Int) (ab:List yY) (x1:Int):exec Fe 1000 [.code (d8 Tryz.prog 54)] (w9 Jb.ps (((aO,ab,()),x1,()))) =
  .f8 (True) (cond (decide (J4 (aO,ab,())≠(0:Int))) (.ret (([],J4 (aO,ab,()),()))) (.ctL (f9 (d8 Tryz.prog 54) 6) (St.mk [(1,AV.val f7 x1),(2,AV.ptr 2 []),(7,AV.at_ 1000007 []),(16,AV.val (Ty.d0 false Ty.str) ab),(17,AV.val f7 (↑(List.length ab):Int)),(18,AV.val f7 (0:Int))] [(2,g9.var T1 (aO,ab,())),(1000007,g9.own (Ty.d0 true o7) [])]))):=by kernel_rfl
def Tt (v1:Int) (xU:List yY) (vY:Int) (vy:Int) (dW:Int) (cQ:List yY) (cg:List (Int×yY×Unit)):St:=St.mk [(1,AV.val f7 v1),(2,AV.ptr 2 []),(7,AV.at_ 1000007 []),(16,AV.val (Ty.d0 false Ty.str) xU),(17,AV.val f7 vY),(18,AV.val f7 vy)] [(2,g9.var T1 (dW,cQ,())),(1000007,g9.own (Ty.d0 true o7) cg)]
theorem c3e (v1:Int) (xU:List yY) (vY:Int) (vy:Int) (dW:Int) (cQ:List yY) (cg:List (Int×yY×Unit)):exec Fe 1000 (.code (f9 (d8 Tryz.prog 54) 6).1::.inLoop (f9 (d8 Tryz.prog 54) 6).1::(f9 (d8 Tryz.prog 54) 6).2) (Tt v1 xU vY vy dW cQ cg) =
  cond (decide (vy<vY)) (.f8 ((0:Int)<=vy/\vy<(↑(List.length xU):Int)) (cond (decide (vy<v1)) (.f8 (w4 IntKind.i64 (dW+vy)) (.f8 (List.length cg+List.length (List.set [((0:Int),[],())] (Int.toNat (↑0:Int)) (dW+vy,List.getD xU (Int.toNat vy) [],()))<=140737488355328/\(List.length cg+List.length (List.set [((0:Int),[],())] (Int.toNat (↑0:Int)) (dW+vy,List.getD xU (Int.toNat vy) [],())))*Ty.wb o7<=140737488355328) (.f8 (w4 IntKind.i64 (vy+(1:Int))) (.ctL (f9 (d8 Tryz.prog 54) 6) (St.mk [(1,AV.val f7 v1),(2,AV.ptr 2 []),(7,AV.at_ 1000007 []),(16,AV.val (Ty.d0 false Ty.str) xU),(17,AV.val f7 vY),(18,AV.val f7 (vy+(1:Int)))] [(2,g9.var T1 (dW,cQ,())),(1000007,g9.own (Ty.d0 true o7) (cg++List.set [((0:Int),[],())] (Int.toNat (↑0:Int)) (dW+vy,List.getD xU (Int.toNat vy) [],())))]))))) (.f8 (w4 IntKind.i64 (vy+(1:Int))) (.ctL (f9 (d8 Tryz.prog 54) 6) (St.mk [(1,AV.val f7 v1),(2,AV.ptr 2 []),(7,AV.at_ 1000007 []),(16,AV.val (Ty.d0 false Ty.str) xU),(17,AV.val f7 vY),(18,AV.val f7 (vy+(1:Int)))] [(2,g9.var T1 (dW,cQ,())),(1000007,g9.own (Ty.d0 true o7) cg)]))))) (.ret ((cg,(0:Int),()))):=by kernel_rfl
theorem b5D:Jb.Valid Tryz.prog 54:=by
  refine r9.p7 Lq rfl rfl Tryz.func54 (c:=d8 Tryz.prog 54) rfl rfl Ls rfl ?_;rintro ⟨⟨(b:Int),(l:List yY),⟨⟩⟩,(m:Int),⟨⟩⟩ - -
  refine j6 (n:=1000) Lq Ls ?_;refine i7 (Zq b l m) ?_;have key:∀ {y:List s8×Int×Unit},xg (b,l,()) m=y->y=xg (b,l,()) m:=λ h=>h.symm;have hd:xg (b,l,()) m=if J4 (b,l,())≠0 then ([],J4 (b,l,()),()) else (wQ b m l l.length,0,()):=rfl
  have hw:Ty.wb o7=24:=rfl;simp only [j7,Tree.holds,sL];refine ⟨λ a=>key (by rw [hd,if_pos a]<;>rfl),λ a=>?_⟩;have aH:=yA (aBt.1 a);simp only at aH;rw [if_neg a] at hd;refine Reach.N4 Lq Ls (λ i:Nat=>Tt m l (l.length:Int) (i:Int) b l (wQ b m l i)) (λ i=>i<=l.length) (λ i=>l.length - i) 1000 (λ _=>⟨w6 rfl,w6 rfl⟩) ?_ 0 (by omega);rintro i k1 - ih;have k1:i<=l.length:=k1;refine i7 (c3e ..) ?_;have mb:=LX (b:=b) (most:=m) (l:=l) (i:=i);simp only [j7,Tree.holds,hw,sL];refine ⟨λ c=>⟨by omega,λ _=>?_⟩,λ c=>key (by rw [hd,show i=l.length by omega]<;>rfl)⟩;have next:=ih (i+1) (by show i+1<=l.length; omega) (by omega)
  rw [wQ] at next
  refine ⟨λ d=>⟨by omega,λ _=>⟨⟨by omega,by omega⟩,λ _=>⟨by omega,λ _=>?_⟩⟩⟩,λ d=>⟨by omega,λ _=>?_⟩⟩
  . rw [if_pos d] at next; exact next
  . rw [if_neg d,aAv] at next; exact next
def p00:s8:=(0,[],())
def t00:ToD:=(0,[],())
def Ao (r:Int) (l:List s8):Nat->Int
  | 0=>r
  | i+1=>(l.getD i p00).1
def yl (r:Int) (l:List s8) (i:Nat):Int:=if (l.getD i p00).1<=Ao r l i then 4 else if r+16<=(l.getD i p00).1 then 4 else if F3 (l.getD i p00).2.1=true then 4 else 0
def toE (s:ToD):Int:=if inF s.1 0 16777215=false then 1 else if (16:Int)<s.2.1.length then 2 else U6 (yl s.1 s.2.1) s.2.1.length
def GV:r9:={ ps:=[.v ToT],rs:=[f7],pre:=λ _=>True,fn:=λ x=>(toE x.1,()),out:=λ _=>() }
noncomputable def DN:Env:={ P:=Tryz.prog,tt:=tt,E3:=[(75,BA),(59,AJ)],res:=[Go.ResultVar.tmp 2],rs:=[Ty.int IntKind.i64],ps:=[PK.v ToT],D5:=[(7,[(1,none),(3,none),(19,none),(20,none),(21,none)])],nt:=45 }
theorem Jy:B8 DN:=C4 s7 ⟨Lw,Gt,trivial⟩
theorem JC:D7 DN Tryz.f96:=⟨rfl,rfl⟩
theorem Vv (aO:Int) (ab:List (Int×yY×Unit)):exec DN 1000 [.code (d8 Tryz.prog 96)] (w9 GV.ps (((aO,ab,()),()))) =
  .f8 (True) (cond (!inF aO (0:Int) (16777215:Int)) (.ret (((1:Int),()))) (cond (decide ((16:Int)<(↑(List.length ab):Int))) (.ret (((2:Int),()))) (.ctL (f9 (d8 Tryz.prog 96) 7) (St.mk [(1,AV.ptr 1 []),(3,AV.val f7 aO),(19,AV.val K5 ab),(20,AV.val f7 (↑(List.length ab):Int)),(21,AV.val f7 (0:Int))] [(1,g9.var ToT (aO,ab,()))])))):=by kernel_rfl
def Ph (v3:Int) (vw:List (Int×yY×Unit)) (v20:Int) (v21:Int) (eK:Int) (da:List (Int×yY×Unit)):St:=St.mk [(1,AV.ptr 1 []),(3,AV.val f7 v3),(19,AV.val K5 vw),(20,AV.val f7 v20),(21,AV.val f7 v21)] [(1,g9.var ToT (eK,da,()))]
theorem WG (v3:Int) (vw:List (Int×yY×Unit)) (v20:Int) (v21:Int) (eK:Int) (da:List (Int×yY×Unit)):exec DN 1000 (.code (f9 (d8 Tryz.prog 96) 7).1::.inLoop (f9 (d8 Tryz.prog 96) 7).1::(f9 (d8 Tryz.prog 96) 7).2) (Ph v3 vw v20 v21 eK da) =
  cond (decide (v21<v20)) (.f8 ((0:Int)<=v21/\v21<(↑(List.length vw):Int)) (cond (decide (Prod.fst (List.getD vw (Int.toNat v21) ((0:Int),[],()))<=v3)) (.ret (((4:Int),()))) (.f8 (w4 IntKind.i64 (eK+(16:Int))) (cond (decide (eK+(16:Int)<=Prod.fst (List.getD vw (Int.toNat v21) ((0:Int),[],())))) (.ret (((4:Int),()))) (.f8 (True) (cond (F3 (List.getD vw (Int.toNat v21) ((0:Int),[],())).2.1) (.ret (((4:Int),()))) (.f8 (w4 IntKind.i64 (v21+(1:Int))) (.ctL (f9 (d8 Tryz.prog 96) 7) (St.mk [(1,AV.ptr 1 []),(3,AV.val f7 (List.getD vw (Int.toNat v21) ((0:Int),[],())).1),(19,AV.val K5 vw),(20,AV.val f7 v20),(21,AV.val f7 (v21+(1:Int)))] [(1,g9.var ToT (eK,da,()))]))))))))) (.ret (((0:Int),()))):=by kernel_rfl
theorem c1S:GV.Valid Tryz.prog 96:=by
  refine r9.p7 Jy rfl rfl Tryz.func96 (c:=d8 Tryz.prog 96) rfl rfl JC rfl ?_;rintro ⟨⟨(r:Int),(l:List s8),⟨⟩⟩,⟨⟩⟩ - -
  refine j6 (n:=1000) Jy JC ?_;refine i7 (Vv r l) ?_;have key:∀ {x:Int},toE (r,l,())=x->((x,()):Int×Unit)=(toE (r,l,()),()):=by rintro x rfl; rfl
  have hd:toE (r,l,())=if inF r 0 16777215=false then 1 else if (16:Int)<l.length then 2 else U6 (yl r l) l.length:=rfl
  simp only [j7,Tree.holds,sL];refine ⟨λ a=>key (by rw [hd,if_pos a]),λ a=>?_⟩;have hr:=yp.1 a;rw [if_neg (lnf a)] at hd;refine ⟨λ a=>key (by rw [hd,if_pos a]),λ a=>?_⟩;rw [if_neg a] at hd;refine Reach.N4 Jy JC (λ i:Nat=>Ph (Ao r l i) l (l.length:Int) (i:Int) r l) (λ i=>i<=l.length/\U6 (yl r l) i=0) (λ i=>l.length - i) 1000 (λ _=>⟨w6 rfl,w6 rfl⟩) ?_ 0 ⟨by omega,rfl⟩;rintro i ⟨k1,k2⟩ - ih;have k1:i<=l.length:=k1;refine i7 (WG ..) ?_;simp only [j7,Tree.holds,sL];have hE:yl r l i=if (l.getD i (0,[],())).1<=Ao r l i then 4 else if r+16<=(l.getD i (0,[],())).1 then 4 else if F3 (l.getD i (0,[],())).2.1=true then 4 else 0:=rfl
  have hB:Ao r l (i+1)=(l.getD i (0,[],())).1:=rfl;have stop:yl r l i=4->i<l.length->toE (r,l,())=4:=λ h9 hi=>by rw [hd,Un k2 (by rw [h9]; decide) hi,h9]
  have next:=λ(h:yl r l i=0) (hi:i<l.length)=>ih (i+1) ⟨by omega,Um k2 h⟩ (by omega)
  rw [hB] at next
  generalize l.getD i (0,[],())=w at *
  obtain ⟨q,x,u⟩:=w;simp only at hE next ⊢
  refine ⟨λ c=>⟨by omega,λ _=>⟨λ c1=>key (stop (by rw [hE,if_pos c1]) (by omega)),λ c1=>⟨by omega,λ _=>⟨λ c2=>key (stop (by rw [hE,if_neg c1,if_pos c2]) (by omega)),λ c2=>⟨λ c3=>key (stop (by rw [hE,if_neg c1,if_neg c2,if_pos c3]) (by omega)),λ c3=>⟨by omega,λ _=>next (by rw [hE,if_neg c1,if_neg c2,if_neg (by rw [c3]; simp)]) (by omega)⟩⟩⟩⟩⟩⟩,λ c=>key (by rw [hd,show l.length=i by omega,k2])⟩
def GP (p:s8) (n:Int):Int:=p.1 - n
def Hw:r9:={ ps:=[.v o7,.v f7],rs:=[f7],pre:=λ x=>(LE.le (α:=Int) (-100000000) x.1.1/\LE.le (α:=Int) x.1.1 100000000)/\(LE.le (α:=Int) (-100000000) x.2.1/\LE.le (α:=Int) x.2.1 100000000),fn:=λ x=>(GP x.1 x.2.1,()),out:=λ _=>() }
noncomputable def Hg:Env:={ P:=Tryz.prog,tt:=tt,E3:=[],res:=[Go.ResultVar.tmp 4],rs:=[Ty.int IntKind.i64],ps:=[PK.v o7,PK.v f7],D5:=[],nt:=9 }
theorem Qg:B8 Hg:=C4 s7 trivial
theorem Qx:D7 Hg Tryz.f99:=⟨rfl,rfl⟩
theorem Wx (aO:Int) (ab:yY) (x1:Int):exec Hg 1000 [.code (d8 Tryz.prog 99)] (w9 Hw.ps (((aO,ab,()),x1,()))) =
  .f8 (w4 IntKind.i64 (aO - x1)) (.ret ((aO - x1,()))):=by kernel_rfl
theorem b9e:Hw.Valid Tryz.prog 99:=by
  refine r9.p7 Qg rfl rfl Tryz.func99 (c:=d8 Tryz.prog 99) rfl rfl Qx rfl ?_;rintro ⟨⟨(q:Int),(s:yY),⟨⟩⟩,(n:Int),⟨⟩⟩ ⟨⟨(h1:-100000000<=q),(h2:q<=100000000)⟩,(h3:-100000000<=n),(h4:n<=100000000)⟩ -
  refine j6 (n:=1000) Qg Qx ?_;refine i7 (Wx q s n) ?_;simp only [j7,Tree.holds,sL];exact ⟨by omega,λ _=>rfl⟩
def atF (n:Int) (l:List s8):Nat:=(l.takeWhile λ p=>decide (p.1<n)).length
theorem NS {n:Int}:∀ {l:List s8} {i:Nat},i<=l.length->(∀ k,k<i->(l.getD k p00).1<n)->(i<l.length->n<=(l.getD i p00).1)->atF n l=i
  | [],i,hi,_,_=>by simp at hi; subst hi; rfl
  | p::l,0,_,_,h=>by
    have:=h (by simp);rw [atF,aHx,if_neg]
    . rfl
    . rw [decide_eq_true_eq]; show ¬ p.1<n; exact Int.not_lt.2 this
  | p::l,i+1,hi,h1,h2=>by
    have h0:p.1<n:=h1 0 (by omega);have:=NS (l:=l) (i:=i) (by simpa using hi) (λ k hk=>h1 (k+1) (by omega)) (λ hk=>h2 (by simpa using hk));rw [atF,aHx,if_pos (decide_eq_true h0),aAh];rw [atF] at this; omega
def sorted (l:List s8):Prop:=(∀ i j,i<j->j<l.length->(l.getD i p00).1<(l.getD j p00).1)/\(∀ i,i<l.length->-100000000<=(l.getD i p00).1/\(l.getD i p00).1<=100000000)
def wG (n:Int) (l:List s8):Bool:=decide (atF n l<l.length) && decide ((l.getD (atF n l) p00).1 - n=0)
def GG:r9:={ ps:=[.v (.d0 false o7),.v f7,.D9 99 []],rs:=[f7,.bool],pre:=λ x=>(List.length (α:=s8) x.1<=1000/\sorted x.1)/\(LE.le (α:=Int) (-100000000) x.2.1/\LE.le (α:=Int) x.2.1 100000000),fn:=λ x=>((atF x.2.1 x.1:Int),wG x.2.1 x.1,()),out:=λ _=>() }
noncomputable def DH:Env:={ P:=Tryz.prog,tt:=tt,E3:=[(99,Hw)],res:=[Go.ResultVar.tmp 6,Go.ResultVar.tmp 7],rs:=[Ty.int IntKind.i64,Ty.bool],ps:=[PK.v K5,PK.v f7,PK.D9 99 []],D5:=[(3,[(0,none),(1,none),(2,none),(8,none),(9,none),(10,none)])],nt:=49 }
theorem Jt:B8 DH:=C4 s7 ⟨b9e,trivial⟩
theorem JB:D7 DH Tryz.f98:=⟨rfl,rfl⟩
theorem Wd (x0:List (Int×yY×Unit)) (x1:Int):exec DH 1000 [.code (d8 Tryz.prog 98)] (w9 GG.ps ((x0,x1,(),()))) =
  .ctL (f9 (d8 Tryz.prog 98) 3) (St.mk [(0,AV.val K5 x0),(1,AV.val f7 x1),(2,AV.D9 99 AV.nil),(8,AV.val f7 (↑(List.length x0):Int)),(9,AV.val f7 (0:Int)),(10,AV.val f7 (↑(List.length x0):Int))] []):=by kernel_rfl
def OY (v0:List (Int×yY×Unit)) (v1:Int) (v8:Int) (v9:Int) (v10:Int):St:=St.mk [(0,AV.val K5 v0),(1,AV.val f7 v1),(2,AV.D9 99 AV.nil),(8,AV.val f7 v8),(9,AV.val f7 v9),(10,AV.val f7 v10)] []
theorem Xf (v0:List (Int×yY×Unit)) (v1:Int) (v8:Int) (v9:Int) (v10:Int):exec DH 1000 (.code (f9 (d8 Tryz.prog 98) 3).1::.inLoop (f9 (d8 Tryz.prog 98) 3).1::(f9 (d8 Tryz.prog 98) 3).2) (OY v0 v1 v8 v9 v10) =
  cond (decide (v9<v10)) (.f8 (w4 IntKind.i64 (v9+v10)) (.f8 ((0:Int)<=(1:Int)) (.f8 ((0:Int)<=IntKind.wrap IntKind.i64 (IntKind.wrap IntKind.u64 (v9+v10) / (2:Int)^min (Int.toNat (1:Int)) (IntKind.bits IntKind.u64))/\IntKind.wrap IntKind.i64 (IntKind.wrap IntKind.u64 (v9+v10) / (2:Int)^min (Int.toNat (1:Int)) (IntKind.bits IntKind.u64))<(↑(List.length v0):Int)) (.f8 (((-100000000:Int)<=Prod.fst (List.getD v0 (Int.toNat (IntKind.wrap IntKind.i64 (IntKind.wrap IntKind.u64 (v9+v10) / (2:Int)^min (Int.toNat (1:Int)) (IntKind.bits IntKind.u64)))) ((0:Int),[],()))/\Prod.fst (List.getD v0 (Int.toNat (IntKind.wrap IntKind.i64 (IntKind.wrap IntKind.u64 (v9+v10) / (2:Int)^min (Int.toNat (1:Int)) (IntKind.bits IntKind.u64)))) ((0:Int),[],()))<=(100000000:Int))/\(-100000000:Int)<=v1/\v1<=(100000000:Int)) (cond (decide (GP (List.getD v0 (Int.toNat (IntKind.wrap IntKind.i64 (IntKind.wrap IntKind.u64 (v9+v10) / (2:Int)^min (Int.toNat (1:Int)) (IntKind.bits IntKind.u64)))) ((0:Int),[],())) v1<(0:Int))) (.f8 (w4 IntKind.i64 (IntKind.wrap IntKind.i64 (IntKind.wrap IntKind.u64 (v9+v10) / (2:Int)^min (Int.toNat (1:Int)) (IntKind.bits IntKind.u64))+(1:Int))) (.ctL (f9 (d8 Tryz.prog 98) 3) (St.mk [(0,AV.val K5 v0),(1,AV.val f7 v1),(2,AV.D9 99 AV.nil),(8,AV.val f7 v8),(9,AV.val f7 (IntKind.wrap IntKind.i64 (IntKind.wrap IntKind.u64 (v9+v10) / (2:Int)^min (Int.toNat (1:Int)) (IntKind.bits IntKind.u64))+(1:Int))),(10,AV.val f7 v10)] []))) (.ctL (f9 (d8 Tryz.prog 98) 3) (St.mk [(0,AV.val K5 v0),(1,AV.val f7 v1),(2,AV.D9 99 AV.nil),(8,AV.val f7 v8),(9,AV.val f7 v9),(10,AV.val f7 (IntKind.wrap IntKind.i64 (IntKind.wrap IntKind.u64 (v9+v10) / (2:Int)^min (Int.toNat (1:Int)) (IntKind.bits IntKind.u64))))] []))))))) (cond (decide (v9<v8)) (.f8 ((0:Int)<=v9/\v9<(↑(List.length v0):Int)) (.f8 (((-100000000:Int)<=Prod.fst (List.getD v0 (Int.toNat v9) ((0:Int),[],()))/\Prod.fst (List.getD v0 (Int.toNat v9) ((0:Int),[],()))<=(100000000:Int))/\(-100000000:Int)<=v1/\v1<=(100000000:Int)) (.ret ((v9,decide (GP (List.getD v0 (Int.toNat v9) ((0:Int),[],())) v1=(0:Int)),()))))) (.ret ((v9,false,())))):=by kernel_rfl
theorem c2z:GG.Valid Tryz.prog 98:=by
  refine r9.p7 Jt rfl rfl Tryz.func98 (c:=d8 Tryz.prog 98) rfl rfl JB rfl ?_;rintro ⟨(l:List s8),(n:Int),⟨⟩,⟨⟩⟩ ⟨⟨(h0:l.length<=1000),(hs:sorted l)⟩,(h1:-100000000<=n),(h2:n<=100000000)⟩ -
  refine j6 (n:=1000) Jt JB ?_;refine i7 (Wd l n) ?_;refine Reach.N4 Jt JB (λ s:Nat×Nat=>OY l n (l.length:Int) (s.1:Int) (s.2:Int)) (λ s=>s.1<=s.2/\s.2<=l.length/\(∀ k,k<s.1->(l.getD k p00).1<n)/\(∀ k,s.2<=k->k<l.length->n<=(l.getD k p00).1)) (λ s=>s.2 - s.1) 1000 (λ _=>⟨w6 rfl,w6 rfl⟩) ?_ (0,l.length) ⟨aAr _,aAk _,λ k hk=>by omega,λ k hk fp=>by omega⟩;rintro ⟨i,j⟩ ⟨k1,k2,k3,k4⟩ - ih;have k1:i<=j:=k1;have k2:j<=l.length:=k2;have k3:∀ k,k<i->(l.getD k p00).1<n:=k3;have k4:∀ k,j<=k->k<l.length->n<=(l.getD k p00).1:=k4;refine i7 (Xf ..) ?_;have hh:IntKind.wrap .i64 (IntKind.wrap .u64 ((i:Int)+(j:Int)) / 2^min (Int.toNat 1) (IntKind.bits .u64))=(((i+j) / 2:Nat):Int):=by
    rw [V2 (k:=.u64) (by show (0:Int)<=_/\_<=(18446744073709551615:Int); omega)];rw [show (2:Int)^min (Int.toNat 1) (IntKind.bits .u64)=2 from rfl];rw [V2 (k:=.i64) (by show (-9223372036854775808:Int)<=_/\_<=(9223372036854775807:Int); omega)];omega
  rw [show ((i,j):Nat×Nat).1=i from rfl,show ((i,j):Nat×Nat).2=j from rfl,hh];simp only [j7,Tree.holds,sL];refine ⟨λ c=>⟨by omega,λ _=>⟨by omega,λ _=>?_⟩⟩,λ c=>?_⟩
  . have hm:(i+j) / 2<l.length:=by omega
    have mf:=hs.2 _ hm;have e0:l.getD ((i+j) / 2) (0,[],())=l.getD ((i+j) / 2) p00:=rfl;rw [e0];refine ⟨⟨by omega,by omega⟩,λ _=>⟨⟨mf,h1,h2⟩,λ _=>⟨λ d=>⟨by omega,λ _=>?_⟩,λ d=>?_⟩⟩⟩
    . have d:(l.getD ((i+j) / 2) p00).1 - n<0:=d;exact ih ((i+j) / 2+1,j) ⟨by show (i+j) / 2+1<=j; omega,k2,λ k hk=>(by
        have hk:k<(i+j) / 2+1:=hk;by_cases e:k=(i+j) / 2
        . subst e; omega
        . have:=hs.1 k ((i+j) / 2) (by omega) hm; omega),k4⟩ (by show j - ((i+j) / 2+1)<j - i; omega)
    . have d:¬ (l.getD ((i+j) / 2) p00).1 - n<0:=d;exact ih (i,(i+j) / 2) ⟨by show i<=(i+j) / 2; omega,by show (i+j) / 2<=l.length; omega,k3,λ k hk fp=>(by
        have hk:(i+j) / 2<=k:=hk;by_cases e:k=(i+j) / 2
        . subst e; omega
        . have:=hs.1 ((i+j) / 2) k (by omega) fp; omega)⟩ (by show (i+j) / 2 - i<j - i; omega)
  . have e:j=i:=by omega
    subst e;have iv:atF n l=j:=NS k2 k3 (λ h=>k4 j (aAk _) h);have key:∀ {x:Bool},wG n l=x->(((j:Int),x,()):Int×Bool×Unit)=((atF n l:Int),wG n l,()):=by rintro x rfl; rw [iv]
    have hk:wG n l=(decide (j<l.length) && decide ((l.getD j p00).1 - n=0)):=by rw [wG,iv]
    refine ⟨λ d=>⟨by omega,λ _=>⟨⟨hs.2 j (by omega),h1,h2⟩,λ _=>key ?_⟩⟩,λ d=>key ?_⟩
    . rw [hk,decide_eq_true (show j<l.length by omega),aFo]; rfl
    . rw [hk,decide_eq_false (show ¬ j<l.length by omega)]; rfl
theorem Ks {a b:s8}:eqD o7 a b=true↔a=b:=by
  obtain ⟨a1,a2,a3⟩:=a;obtain ⟨b1,b2,b3⟩:=b;show (decide (a1=b1) && (decide ((a2:yY)=b2) && decide ((a3:Unit)=b3)))=true↔_;rw [aAa,aAa,decide_eq_true_eq,decide_eq_true_eq];constructor
  . rintro ⟨rfl,rfl,_⟩; rfl
  . intro h; cases h; exact ⟨rfl,rfl,by simp⟩
theorem RD {a b:s8} (d:eqD o7 a b=false):¬ a=b:=λ h=>by rw [Ks.2 h] at d; cases d
end Go.Proofs.YtijlnmgondibnaaGreatDoor
namespace Go.Proofs.YtijlnmgondibnaaGreatDoor
open Go.Ex
def F2:List s8->Int->Int×List s8×List yY
  | [],n=>(n,[],[])
  | p::l,n=>if p.1=n then ((F2 l (n+1)).1,(F2 l (n+1)).2.1,p.2.1::(F2 l (n+1)).2.2) else (n,p::l,[])
def yK (b:Int):List s8->Prop
  | []=>True
  | p::l=>b<p.1/\yK p.1 l
theorem JX {b:Int}:∀ {l:List s8} {p:s8},yK b l->p∈l->b<p.1
  | q::l,p,⟨h1,h2⟩,hp=>by
    rcases aAq.1 hp with rfl|hp
    . exact h1
    . have:=JX h2 hp; omega
theorem Pr:∀ {l:List s8} {n:Int},yK (n - 1) l->yK (F2 l n).1 (F2 l n).2.1/\(F2 l n).1=n+(F2 l n).2.2.length/\(F2 l n).2.1.length+(F2 l n).2.2.length=l.length/\(∀ p∈(F2 l n).2.1,p∈l)
  | [],n,_=>⟨trivial,by simp [F2],by simp [F2],by simp [F2]⟩
  | p::l,n,⟨h1,h2⟩=>by
    rw [F2];by_cases e:p.1=n
    . rw [if_pos e];obtain ⟨a1,a2,a3,a4⟩:=Pr (l:=l) (n:=n+1) (by rw [show n+1 - 1=p.1 by omega]; exact h2);refine ⟨a1,?_,?_,λ q hq=>aAz _ (a4 q hq)⟩
      . show (F2 l (n+1)).1=n+((p.2.1::(F2 l (n+1)).2.2).length:Int);rw [aAh]; omega
      . show (F2 l (n+1)).2.1.length+(p.2.1::(F2 l (n+1)).2.2).length=(p::l).length;rw [aAh,aAh]; omega
    . rw [if_neg e];exact ⟨⟨by show n<p.1; omega,h2⟩,by simp,by simp,λ q hq=>hq⟩
theorem QX {c:Int}:∀ {l:List s8} {b:Int},yK b l->(∀ p∈l,p.1<c)->l≠[]->(l.length:Int)+b<c
  | [p],b,⟨h1,_⟩,h,_=>by have:=h p aBd; show ((1:Nat):Int)+b<c; omega
  | p::x::l,b,⟨h1,h2⟩,h,_=>by
    have:=QX (l:=x::l) h2 (λ y hy=>h y (aAz _ hy)) (by simp);rw [aAh]; omega
def xH (p:s8) (l:List s8):List s8:=l.take (atF p.1 l)++p::l.drop (atF p.1 l)
theorem ZA {p y:s8} {l:List s8}:y∈xH p l↔y=p\/y∈l:=by
  have h:y∈l↔y∈l.take (atF p.1 l)\/y∈l.drop (atF p.1 l):=by rw [<- aAi,aBy]
  rw [xH,aAi,aAq,h];constructor
  . rintro (a|a|a)
    . exact .inr (.inl a)
    . exact .inl a
    . exact .inr (.inr a)
  . rintro (a|a|a)
    . exact .inr (.inl a)
    . exact .inl a
    . exact .inr (.inr a)
theorem Zz {p:s8} {l:List s8}:(xH p l).length=l.length+1:=by
  rw [xH,aAd,aAh,aAn,aAo]; omega
theorem CI:∀ {l:List s8} {b:Int},yK b l↔∀ i,i<l.length->Ao b l i<(l.getD i p00).1
  | [],b=>⟨λ _ i hi=>absurd hi (Nat.not_lt_zero _),λ _=>trivial⟩
  | p::l,b=>by
    constructor
    . rintro ⟨h1,h2⟩ i hi
      match i,hi with
      | 0,_=>exact h1
      | 1,hi=>exact (CI.1 h2) 0 (by simpa using hi)
      | i+2,hi=>exact (CI.1 h2) (i+1) (by rw [aAh] at hi; omega)
    . intro h;refine ⟨h 0 (by simp),CI.2 λ i hi=>?_⟩
      match i,hi with
      | 0,hi=>exact h 1 (by simpa using hi)
      | i+1,hi=>exact h (i+2) (by rw [aAh]; omega)
structure xV (r:Int) (l:List s8):Prop where
  rg:0<=r/\r<=16777215
  len:l.length<=16
  up:yK r l
  b:∀ p∈l,p.1<r+16/\F3 p.2.1=false
theorem JK {r:Int} {l:List s8} {u:Unit}:toE (r,l,u)=0↔xV r l:=by
  have hd:toE (r,l,u)=if inF r 0 16777215=false then 1 else if (16:Int)<l.length then 2 else U6 (yl r l) l.length:=rfl
  rw [hd];constructor
  . intro h;split at h
    . cases h
    rename_i c1;split at h
    . cases h
    rename_i c2;have h:=Gh.1 h;have hE:∀ i,i<l.length->Ao r l i<(l.getD i p00).1/\(l.getD i p00).1<r+16/\F3 (l.getD i p00).2.1=false:=λ i hi=>by
      have:=h i hi;unfold yl at this;split at this
      . cases this
      split at this
      . cases this
      split at this
      . cases this
      rename_i d1 d2 d3;exact ⟨by omega,by omega,by simpa using d3⟩
    refine ⟨yp.1 (aEn _▸c1),by omega,CI.2 λ i hi=>(hE i hi).1,λ p hp=>?_⟩;obtain ⟨i,hi,rfl⟩:=aHz hp;have:=hE i hi;rw [aAb,aAf hi] at this;exact this.2
  . intro h;rw [if_neg (by rw [yp.2 h.rg]; simp),if_neg (by have:=h.len; omega)];refine Gh.2 λ i hi=>?_;have h1:=CI.1 h.up i hi;obtain ⟨h2,h3⟩:=h.b (l.getD i p00) (Fk hi);rw [yl,if_neg (by omega),if_neg (by omega),if_neg (by rw [h3]; simp)]
theorem b8L {l:List s8}:∀ {b:Int},yK b l->∀ i j,i<j->j<l.length->(l.getD i p00).1<(l.getD j p00).1:=by
  induction l with
  | nil=>intro b _ i j _ h; exact absurd h (Nat.not_lt_zero _)
  | cons p l ih =>
    rintro b ⟨h1,h2⟩ i j bS hj
    match i,j,bS,hj with
    | 0,j+1,_,hj=>exact JX h2 (Fk (by simpa using hj))
    | i+1,j+1,bS,hj=>exact ih h2 i j (by omega) (by simpa using hj)
end Go.Proofs.YtijlnmgondibnaaGreatDoor
namespace Go.Proofs.YtijlnmgondibnaaGreatDoor
open Go.Ex
def E6 (s:ToD) (p:s8):ToD×List yY×Int×Unit :=
  if toE s≠0 then (t00,[],toE s,()) else if inF p.1 0 16777214=false then (t00,[],1,()) else if F3 p.2.1=true then (t00,[],2,()) else
  if p.1<s.1\/s.1+16<=p.1\/wG p.1 s.2.1=true then (s,[],0,()) else if s.1<p.1 then ((s.1,xH p s.2.1,()),[],0,()) else
  (((F2 s.2.1 (s.1+1)).1,(F2 s.2.1 (s.1+1)).2.1,()),p.2.1::(F2 s.2.1 (s.1+1)).2.2,0,())
theorem KA {r:Int} {l:List s8} {p:s8} (h:xV r l) (h1:0<=p.1/\p.1<=16777214) (h2:F3 p.2.1=false):E6 (r,l,()) p =
    if p.1<r\/r+16<=p.1\/wG p.1 l=true then ((r,l,()),[],0,()) else if r<p.1 then ((r,xH p l,()),[],0,()) else
    (((F2 l (r+1)).1,(F2 l (r+1)).2.1,()),p.2.1::(F2 l (r+1)).2.2,0,()):=by
  rw [E6,if_neg (by simp [JK.2 h]),if_neg (by rw [yp.2 h1]; simp),if_neg (by rw [h2]; simp)]
theorem c4h {s:ToD} {p:s8} (h:(E6 s p).2.2.1≠0):(E6 s p).2.1=[]:=by
  by_cases c1:toE s≠0
  . rw [E6,if_pos c1]
  by_cases c2:inF p.1 0 16777214=false
  . rw [E6,if_neg c1,if_pos c2]
  by_cases c3:F3 p.2.1=true
  . rw [E6,if_neg c1,if_neg c2,if_pos c3]
  by_cases c4:p.1<s.1\/s.1+16<=p.1\/wG p.1 s.2.1=true
  . rw [E6,if_neg c1,if_neg c2,if_neg c3,if_pos c4]
  by_cases c5:s.1<p.1
  . rw [E6,if_neg c1,if_neg c2,if_neg c3,if_neg c4,if_pos c5]
  . rw [E6,if_neg c1,if_neg c2,if_neg c3,if_neg c4,if_neg c5] at h; exact absurd rfl h
end Go.Proofs.YtijlnmgondibnaaGreatDoor
set_option linter.unusedVariables false
set_option linter.unusedSimpArgs false
namespace Go.Proofs.YtijlnmgondibnaaGreatDoor
open Go Go.Shelf Go.RowKit Go.Lib
theorem b52 {P:Program} (w:World) {o:Oper} {a:Act} {K:Act->World->Prop} {Q:Exit->Act->World->Prop} (d s:Operand) (t t':TypeId)
    (ho:o.op=.call { callee:=.builtin .copy,args:=#[d,s],argTypes:=#[t,t'] }) (v u:Value) (hd:a.eval d=v) (hs:a.eval s=u) {v':Value} {w':World}
    (hr:(Builtin.copy_ #[t,t'] o.type #[v,u]).run P w=.ok v' w') (h:K (a.put o.dst v') w'):o.wp P a w K Q:=by
  unfold Oper.wp execOp;simp only [ho,resolve,invoke,builtin,Sem.run_bind,Sem.run_pure,Result.andThen_ok,List.map_toArray,aCf,aFt,hd,hs,hr];exact h
theorem Vl {P:Program} (w:World) {ops:Array Oper} {rest:List Oper} {o:Oper} {a:Act} {Q:Exit->Act->World->Prop} (qj:o.guard=none) (d s:Operand) (t t':TypeId)
    (ho:o.op=.call { callee:=.builtin .copy,args:=#[d,s],argTypes:=#[t,t'] }) (v u:Value) (hd:a.eval d=v) (hs:a.eval s=u) {v':Value} {w':World}
    (hr:(Builtin.copy_ #[t,t'] o.type #[v,u]).run P w=.ok v' w') (h:wpList P ops Q rest (a.put o.dst v') w'):wpList P ops Q (o::rest) a w :=
  wpList_plain qj λ _ hK=>b52 w d s t t' ho v u hd hs hr (hK _ _ h)
theorem Vk {P:Program} {ops:Array Oper} {o:Oper} {a:Act} {w:World} {K:Act->World->Prop} {Q:Exit->Act->World->Prop} {E:Prop}
    (hg:o.guard=none) (d x:Operand) (dT sT:TypeId) (cB:o.op=Op.call { callee:=Callee.builtin Builtin.copy,args:=#[d,x],argTypes:=#[dT,sT] })
    (v u:Value) (hd:a.eval d=v) (hx:a.eval x=u) {v':Value} {w':World} (hr:(Builtin.copy_ #[dT,sT] o.type #[v,u]).run P w=.ok v' w') (hK:K (a.put o.dst v') w') :
    if Region.wanted o (yielded ops a.tmps)=true then Oper.wp P o a w K Q else E:=by
  have hw:Region.wanted o (yielded ops a.tmps)=true:=by simp [Region.wanted,hg]
  rw [if_pos hw];unfold Oper.wp;simp [execOp,cB,resolve,invoke,builtin,hd,hx,hr,Result.andThen];exact hK
theorem Gw (b:Nat) (vs:List Value) (o:Nat) (w:World) (h:∀ j,j<vs.length->(w.cell? ⟨b,o+j,none⟩).isSome=true) (k:Nat) (hk:(w.cell? ⟨b,k,none⟩).isSome=true):((w.setCells b o vs).cell? ⟨b,k,none⟩).isSome=true:=by
  by_cases dy:o<=k/\k<o+vs.length
  . have:=World.cell?_setCells_in b vs o w h (k - o) (by omega);rw [show o+(k - o)=k by omega] at this;rw [this]; rfl
  . rw [World.cell?_setCells_out b vs o w ⟨b,k,none⟩ (λ _ _=>by show k<o\/o+vs.length<=k; omega)];exact hk
theorem a31 {P:Program} (w:World) (dT sT ty elem:TypeId) (k b o dLen dCap:Nat) (a:Addr) (sLen sCap:Nat) (cs:List Value)
    (hu:P.underlying dT=some (.slice elem)) (hs:(P.info? elem).map (·.size)=some k) (hn:cs.length=Nat.min sLen dLen*k)
    (eM:∀ j v,cs[j]?=some v->w.cell? (a.add j)=some v) (hc:∀ j,j<cs.length->(w.cell? ⟨b,o+j,none⟩).isSome=true) (hf:∀ j,j<cs.length->w.frozen? ⟨b,o+j,none⟩=false) (h1:∀ v∈cs,v.oneCell'=true) :
    (Builtin.copy_ #[dT,sT] ty #[.slice (some ⟨b,o,none⟩) dLen dCap,.slice (some a) sLen sCap]).run P w=.ok (goInt (Nat.min sLen dLen)) (w.setCells b o cs):=by
  have hl:=run_loadCells_list (P:=P) w a cs eM;have bO:=run_storeCells_cells (P:=P) b o cs 0 w (by simpa using hc) (by simpa using hf) h1;cases hq:P.info? elem with
  | none=>simp [hq] at hs
  | some i =>
    have hi:i.size=k:=by simpa [hq] using hs
    rw [hn] at hl;simp [Builtin.copy_,run_underlying hu,Builtin.lenOf,Builtin.firstCells,sizeOf,typeInfo,hq,hi,hl,bO]
set_option maxHeartbeats 4000000 in
set_option maxRecDepth 100000 in
theorem ZY (b off n c i vb voff vc:Nat) (cs vs:List Value) (w:World) (hi:i<n) (cy:n+1<=c) (tY:c<=9223372036854775807) (oy:vb≠b)
    (cK:cs.length=n*2) (iK:vs.length=2)
    (cG:∀ j v,cs[j]?=some v->w.cell? ⟨b,off+j,none⟩=some v) (fK:∀ j,j<(n+1)*2->(w.cell? ⟨b,off+j,none⟩).isSome=true) (rN:∀ j,j<(n+1)*2->w.frozen? ⟨b,off+j,none⟩=false)
    (jl:∀ j v,vs[j]?=some v->w.cell? ⟨vb,voff+j,none⟩=some v) (lY:∀ v∈cs,v.oneCell'=true) (rf:∀ v∈vs,v.oneCell'=true)
    (tA tB:TypeId) (kA kB:Nat) (sN:w.shape? vb=some (tA,kA)) (sM:w.shape? b=some (tB,kB)) (tr:kB≠0) (lJ:w.frozen? ⟨vb,voff,none⟩=false) (qm:w.frozen? ⟨vb,kA,none⟩=false) :
    Calls Tryz.prog 100 #[.slice (some ⟨b,off,none⟩) n c,.int .i64 i,.slice (some ⟨vb,voff,none⟩) 1 vc] w λ e w' =>
      e=.returned (.slice (some ⟨b,off,none⟩) (n+1) c)/\w'=(w.drew.setCells b (off+(i+1)*2) (cs.drop (i*2))).setCells b (off+i*2) vs:=by
  have mA:¬ ((i:Int)=(n:Int)):=by omega
  have aW:(Tryz.prog.info? 104).map (·.size)=some 2:=by kernel_rfl
  have oC:∀ lb cb,(callFunc 111 #[.slice (some ⟨vb,voff,none⟩) 1 vc,.slice (some ⟨b,off+(i+1)*2,none⟩) lb cb]).run Tryz.prog w=.ok (.value (.bool false)) w:=λ lb cb=>by
    rw [run_callFunc_extern Tryz.func111 (by kernel_rfl) (by kernel_rfl) (by kernel_rfl) (e:=Extern.SlicesOverlaps.overlaps #[81,81] #[4]) (by kernel_rfl),
      Lib.run_overlaps_apart w 81 4 104 Tryz.underlying81 2 Tryz.sizeOf104 ⟨vb,voff,none⟩ ⟨b,off+(i+1)*2,none⟩ 1 vc lb cb oy tA tB kA kB sN sM tr lJ qm]
    rfl
  have jd:(cs.drop (i*2)).length=(n - i)*2:=by rw [aAo,cK]; omega
  have kj:IntKind.i64.wrap ((i:Int)+(1:Int))=(i:Int)+(1:Int):=by rw [IntKind.wrap_i64]; omega
  have dK:(0:Int)<=(i:Int)+(1:Int):=by omega
  have dy:i<=n:=by omega
  have ru:((i:Int)+(1:Int)).toNat=i+1:=by omega
  have fI:¬ (c=i+1):=by omega
  have qK:(i:Int)<=(n:Int)+(1:Int):=by omega
  have vn:¬ (c=i):=by omega
  have nP:∀ ty dc sc,(Builtin.copy_ #[81,81] ty #[.slice (some ⟨b,off+(i+1)*2,none⟩) (n - i) dc,.slice (some ⟨b,off+i*2,none⟩) (n+1 - i) sc]).run Tryz.prog w.drew=.ok (goInt (Nat.min (n+1 - i) (n - i))) (w.drew.setCells b (off+(i+1)*2) (cs.drop (i*2))):=λ ty dc sc =>
    a31 w.drew _ _ ty 104 2 b (off+(i+1)*2) (n - i) dc ⟨b,off+i*2,none⟩ (n+1 - i) sc (cs.drop (i*2)) Tryz.underlying81 aW (by rw [jd]; simp only [aGp]; split<;>omega)
      (λ j v hj=>by rw [Addr.add_lit,aBo]; exact cG (i*2+j) v (by rwa [aBl] at hj))
      (λ j hj=>by rw [aBo]; exact fK _ (by omega)) (λ j hj=>by rw [aBo]; exact rN _ (by omega)) (λ v hv=>lY v (aDx hv))
  obtain ⟨W1,gE⟩:∃ W1,W1=w.drew.setCells b (off+(i+1)*2) (cs.drop (i*2)):=⟨_,rfl⟩;have pj:∀ k,k<(n+1)*2->(W1.cell? ⟨b,off+k,none⟩).isSome=true:=λ k hk=>by
    rw [gE];exact Gw b _ _ _ (λ j hj=>by rw [aBo]; exact fK _ (by omega)) _ (fK k hk)
  have qy:∀ (W:World),(∀ x,W.cell? x=W1.cell? x)->(∀ x,W.frozen? x=W1.frozen? x)->∀ ty dc,(Builtin.copy_ #[81,81] ty #[.slice (some ⟨b,off+i*2,none⟩) (n+1 - i) dc,.slice (some ⟨vb,voff,none⟩) 1 vc]).run Tryz.prog W=.ok (goInt (Nat.min 1 (n+1 - i))) (W.setCells b (off+i*2) vs):=λ W kM nY ty dc =>
    a31 W _ _ ty 104 2 b (off+i*2) (n+1 - i) dc ⟨vb,voff,none⟩ 1 vc vs Tryz.underlying81 aW (by rw [iK]; simp only [aGp]; split<;>omega)
      (λ j v hj=>by
        rw [Addr.add_lit,kM,gE,World.cell?_setCells_out b _ _ _ _ (λ h _=>absurd h oy)];exact jl j v hj)
      (λ j hj=>by rw [kM,aBo]; exact pj _ (by omega)) (λ j hj=>by rw [nY,gE,World.frozen?_setCells,aBo]; exact rN _ (by omega)) rf
  rw [<- gE] at nP;have mixed:Tryz.prog.follows .mixedOrders=true:=by kernel_rfl
  go_enter Tryz.func100,Tryz.ntmps100
  go_wp2_with (simp only [oC])
  go_region_law_o (refine Vk rfl _ _ 81 81 rfl _ _ (by simp [Act.eval,Act.put]) (by simp [Act.eval,Act.put]) (nP _ _ _) ?_)
  go_wp2_with (at_builtin; refine Vl _ rfl _ _ 81 81 rfl _ _ rfl rfl (qy _ (λ _=>rfl) (λ _=>rfl) _ _) ?_)
  go_ret
  first|exact ⟨rfl,rfl⟩|exact ⟨rfl,by rw [gE]⟩
end Go.Proofs.YtijlnmgondibnaaGreatDoor
namespace Go.Proofs.YtijlnmgondibnaaGreatDoor
open Go Go.Shelf Go.RowKit Go.Lib
set_option linter.unusedVariables false
set_option linter.unusedSimpArgs false
theorem SM {z:Array Value} {k m:Nat} (h:z.size=k):(Builtin.zeroCells z m).size=m*k:=by
  simp [Builtin.zeroCells,h]
set_option maxHeartbeats 4000000 in
set_option maxRecDepth 100000 in
theorem ZB (b off n c i vb voff vc:Nat) (cs vs:List Value) (w:World) (hi:i<n) (vf:n<=c) (cy:c<n+1) (qI:(n+1)*24<=140737488355328)
    (cK:cs.length=n*2) (iK:vs.length=2)
    (cG:∀ j v,cs[j]?=some v->w.cell? ⟨b,off+j,none⟩=some v)
    (jl:∀ j v,vs[j]?=some v->w.cell? ⟨vb,voff+j,none⟩=some v) (lY:∀ v∈cs,v.oneCell'=true) (rf:∀ v∈vs,v.oneCell'=true) :
    Calls Tryz.prog 100 #[.slice (some ⟨b,off,none⟩) n c,.int .i64 i,.slice (some ⟨vb,voff,none⟩) 1 vc] w λ e w' =>
      ∃ G Z,n+1<=G/\G<=maxLen/\Z.size=(G - i)*2/\e=.returned (.slice (some ⟨w.heap.size,0,none⟩) (n+1) G) /\
      w'=(((w.alloc (.cells ((cs.take (i*2)).toArray++Z) 104)).drew.setCells w.heap.size (i*2) vs).drew).setCells w.heap.size ((i+1)*2) (cs.drop (i*2)):=by
  have aW:(Tryz.prog.info? 104).map (·.size)=some 2:=by kernel_rfl
  have eV:(Tryz.prog.info? 104).map (λ i=>(i.size,i.bytes,i.zero.map (λ z=>z.cells.size)))=some (2,24,some 2):=by kernel_rfl
  have mixed:Tryz.prog.follows .mixedOrders=true:=by kernel_rfl
  obtain ⟨i0,nH,oq,oW,z,ot,kP⟩:∃ i0,Tryz.prog.info? 104=some i0/\i0.size=2/\i0.bytes=24/\∃ z,i0.zero=some z/\z.cells.size=2:=by
    cases h:Tryz.prog.info? 104 with
    | none=>rw [h] at eV; cases eV
    | some i0 =>
      rw [h] at eV;simp only [aBh,aAc,aBb,aCq] at eV;obtain ⟨h1,h2,z,h3,h4⟩:=eV;exact ⟨i0,rfl,h1,h2,z,h3,h4⟩
  have mA:¬ ((i:Int)=(n:Int)):=by omega
  have vd:(c:Int)<(n:Int)+(1:Int):=by omega
  have tZ:b<w.heap.size:=block_lt_of_cell (cG 0 _ (aAf (by omega)));have ee:vb<w.heap.size:=block_lt_of_cell (jl 0 _ (aAf (by omega)));have rI:(n:Int)+(1:Int) - (i:Int)=((n+1 - i:Nat):Int):=by omega
  have nG:i+(n+1 - i)=n+1:=by omega
  have jF:(cs.take (i*2)).length=i*2:=by rw [aAn,cK]; omega
  have hold:(Builtin.firstCells i0.size i (.slice (some ⟨b,off,none⟩) i c)).run Tryz.prog w.drew=.ok (cs.take (i*2)).toArray w.drew:=by
    rw [oq];exact run_firstCells_some w.drew 2 i ⟨b,off,none⟩ i c (cs.take (i*2)) jF (λ j v hj=>by
      rw [Addr.add_lit];rw [aBq] at hj;split at hj
      . exact cG j v hj
      . cases hj)
  obtain ⟨G,hG⟩:∃ G,G=grownCap w (n+1) c 104:=⟨_,rfl⟩;have uE:n+1<=G:=by rw [hG]; exact grownCap_ge w _ _ _
  have oU:G<=maxLen:=by
    rw [hG]; exact grownCap_le_maxLen w (n+1) c 104 (by unfold maxLen; omega)
  have uG:G<=9223372036854775807:=oU;obtain ⟨Z,hZ⟩:∃ Z:Array Value,Z=Builtin.zeroCells z.cells (n+1 - i)++Builtin.zeroCells z.cells (G - (n+1)):=⟨_,rfl⟩;have qN:Z.size=(G - i)*2:=by rw [hZ,aFl,SM kP,SM kP]; omega
  have pn:∀ ty,(Builtin.append_ #[81,3] ty #[.slice (some ⟨b,off,none⟩) i c,.int .i64 ((n:Int)+(1:Int) - (i:Int))]).run Tryz.prog w =
      .ok (.slice (some ⟨w.heap.size,0,none⟩) (n+1) G) (w.drew.alloc (.cells ((cs.take (i*2)).toArray++Z) 104)):=λ ty=>by
    have h:=Lib.run_append_grow_zeros w 81 3 ty 104 i0 z .i64 .i64 Tryz.underlying81 Tryz.underlying3 nH ot (some ⟨b,off,none⟩) i c (cs.take (i*2)) hold (n+1 - i) (by omega) (by omega) (by omega) (by omega) (by rw [oW]; omega) (by rw [oW,nG]; exact growslice_fits cy qI);rw [nG,<- hG,Array.append_assoc,<- hZ] at h;rw [rI];exact h
  obtain ⟨ROW,kb⟩:∃ ROW:Array Value,ROW=(cs.take (i*2)).toArray++Z:=⟨_,rfl⟩;rw [<- kb] at pn;have qS:(n+1)*2<=ROW.size:=by
    rw [kb,aFl,qN,aFi,jF];omega
  obtain ⟨W1,gE⟩:∃ W1,W1=w.drew.alloc (.cells ROW 104):=⟨_,rfl⟩;rw [<- gE] at pn;have hN:∀ j,j<(n+1)*2->(W1.cell? ⟨w.heap.size,j,none⟩).isSome=true:=λ j hj=>by
    rw [gE,World.cell?_alloc_at (w:=w.drew) ROW _ w.heap.size j rfl,aCe (by omega)]; rfl
  have sf:∀ j,W1.frozen? ⟨w.heap.size,j,none⟩=false:=λ j=>by rw [gE]; exact World.frozen?_alloc_at (w:=w.drew) ROW _ w.heap.size j rfl
  have oN:∀ j v,w.cell? ⟨b,j,none⟩=some v->W1.cell? ⟨b,j,none⟩=some v:=λ j v h=>by rw [gE,World.cell?_alloc_past (w:=w.drew) _ b j tZ]; exact h
  have uw:∀ j v,w.cell? ⟨vb,j,none⟩=some v->W1.cell? ⟨vb,j,none⟩=some v:=λ j v h=>by rw [gE,World.cell?_alloc_past (w:=w.drew) _ vb j ee]; exact h
  have qx:∀ (W:World),(∀ x,W.cell? x=W1.cell? x)->(∀ x,W.frozen? x=W1.frozen? x)->∀ ty dc,(Builtin.copy_ #[81,81] ty #[.slice (some ⟨w.heap.size,i*2,none⟩) (n+1 - i) dc,.slice (some ⟨vb,voff,none⟩) 1 vc]).run Tryz.prog W=.ok (goInt (Nat.min 1 (n+1 - i))) (W.setCells w.heap.size (i*2) vs):=λ W kM nY ty dc =>
    a31 W _ _ ty 104 2 w.heap.size (i*2) (n+1 - i) dc ⟨vb,voff,none⟩ 1 vc vs Tryz.underlying81 aW (by rw [iK]; simp only [aGp]; split<;>omega)
      (λ j v hj=>by rw [Addr.add_lit,kM]; exact uw _ v (jl j v hj))
      (λ j hj=>by rw [kM]; exact hN _ (by omega)) (λ j hj=>by rw [nY]; exact sf _) rf
  have vp:¬ (G=i):=by omega
  have uF:¬ (G=i+1):=by omega
  have kJ:¬ (c=i):=by omega
  have ud:b≠w.heap.size:=by omega
  have jd:(cs.drop (i*2)).length=(n - i)*2:=by rw [aAo,cK]; omega
  have qw:∀ (W:World),(∀ x,W.cell? x=(W1.setCells w.heap.size (i*2) vs).cell? x)->(∀ x,W.frozen? x=(W1.setCells w.heap.size (i*2) vs).frozen? x)->∀ ty dc sc,(Builtin.copy_ #[81,81] ty #[.slice (some ⟨w.heap.size,(i+1)*2,none⟩) (n - i) dc,.slice (some ⟨b,off+i*2,none⟩) (n - i) sc]).run Tryz.prog W=.ok (goInt (Nat.min (n - i) (n - i))) (W.setCells w.heap.size ((i+1)*2) (cs.drop (i*2))):=λ W kM nY ty dc sc =>
    a31 W _ _ ty 104 2 w.heap.size ((i+1)*2) (n - i) dc ⟨b,off+i*2,none⟩ (n - i) sc (cs.drop (i*2)) Tryz.underlying81 aW (by rw [jd]; simp only [aGp]; split<;>omega)
      (λ j v hj=>by
        rw [Addr.add_lit,kM,World.cell?_setCells_out _ _ _ _ _ (λ h _=>absurd h ud),aBo];exact oN _ v (cG (i*2+j) v (by rwa [aBl] at hj)))
      (λ j hj=>by rw [kM]; exact Gw _ _ _ _ (λ t ht=>hN _ (by omega)) _ (hN _ (by omega)))
      (λ j hj=>by rw [nY,World.frozen?_setCells]; exact sf _) (λ v hv=>lY v (aDx hv))
  subst gE;have uI:∀ x,((w.alloc (.cells ROW 104)).drew).cell? x=(w.drew.alloc (.cells ROW 104)).cell? x:=λ x=>rfl;have uH:∀ x,((w.alloc (.cells ROW 104)).drew).frozen? x=(w.drew.alloc (.cells ROW 104)).frozen? x:=λ x=>rfl;have om:∀ x,(((w.alloc (.cells ROW 104)).drew.setCells w.heap.size (i*2) vs).drew).cell? x=((w.drew.alloc (.cells ROW 104)).setCells w.heap.size (i*2) vs).cell? x:=λ x=>rfl;have oi:∀ x,(((w.alloc (.cells ROW 104)).drew.setCells w.heap.size (i*2) vs).drew).frozen? x=((w.drew.alloc (.cells ROW 104)).setCells w.heap.size (i*2) vs).frozen? x:=λ x=>rfl;have kj:IntKind.i64.wrap ((i:Int)+(1:Int))=(i:Int)+(1:Int):=by rw [IntKind.wrap_i64]; omega
  have dK:(0:Int)<=(i:Int)+(1:Int):=by omega
  have dy:i<=n:=by omega
  have ru:((i:Int)+(1:Int)).toNat=i+1:=by omega
  have qK:(i:Int)<=(n:Int):=by omega
  suffices eS:Calls Tryz.prog 100 #[.slice (some ⟨b,off,none⟩) n c,.int .i64 i,.slice (some ⟨vb,voff,none⟩) 1 vc] w λ e w'=>e=.returned (.slice (some ⟨w.heap.size,0,none⟩) (n+1) G) /\
      w'=(((w.alloc (.cells ROW 104)).drew.setCells w.heap.size (i*2) vs).drew).setCells w.heap.size ((i+1)*2) (cs.drop (i*2)) by
    refine eS.mono ?_;rintro e w' ⟨rfl,rfl⟩;exact ⟨G,Z,uE,oU,qN,rfl,by rw [<- kb]⟩
  clear rI nG hold qS eV aW nH ot oq oW kP hG hZ kb qN
  go_enter Tryz.func100,Tryz.ntmps100
  go_wp2_with (first
    | (at_builtin; refine Lib.wpList_append_run _ rfl _ _ _ _ rfl _ _ rfl rfl _ _ (pn _) ?_)
    | (at_builtin; refine Vl _ rfl _ _ 81 81 rfl _ _ rfl rfl (qx _ uI uH _ _) ?_))
  go_region_law_o (refine Vk rfl _ _ 81 81 rfl (.slice (some ⟨w.heap.size,(i+1)*2,none⟩) (n - i) (G - (i+1))) (.slice (some ⟨b,off+i*2,none⟩) (n - i) (c - i)) (by simp [Act.eval,Act.put]) (by simp [Act.eval,Act.put]) (qw _ om oi 3 (G - (i+1)) (c - i)) ?_)
  go_wp2
  go_ret
  exact ⟨rfl,rfl⟩
end Go.Proofs.YtijlnmgondibnaaGreatDoor
namespace Go.Proofs.YtijlnmgondibnaaGreatDoor
open Go.Ex
set_option maxRecDepth 100000
abbrev C7:=Int×yY×Unit
def zD (l:List C7) (i:Int) (m:List C7):List C7:=l.take i.toNat++m++l.drop i.toNat
theorem DB (b:Nat):∀ (vs:List Value) (o:Nat) (w:World),(w.setCells b o vs).heap.size=w.heap.size/\(w.setCells b o vs).os=w.os/\(w.setCells b o vs).output=w.output/\(w.setCells b o vs).tape=w.tape/\(w.setCells b o vs).drawn=w.drawn /\
    (∀ c,c≠b->(w.setCells b o vs).heap[c]?=w.heap[c]?)/\∀ arr T fz,w.heap[b]?=some (.cells arr T fz)->∃ dd,(w.setCells b o vs).heap[b]?=some (.cells dd T fz)/\dd.size=arr.size
  | [],_,_=>⟨rfl,rfl,rfl,rfl,rfl,λ _ _=>rfl,λ arr _ _ h=>⟨arr,h,rfl⟩⟩
  | v::r,o,w=>by
    obtain ⟨h1,h2,h3,h4,h5,h6,h7⟩:=DB b r (o+1) (w.setCell ⟨b,o,none⟩ v);have e1:(w.setCell ⟨b,o,none⟩ v).heap.size=w.heap.size:=by simp [World.setCell]
    have e2:∀ c,c≠b->(w.setCell ⟨b,o,none⟩ v).heap[c]?=w.heap[c]?:=λ c hc=>by
      simp only [World.setCell,aFu,if_neg (Ne.symm hc)]
    refine ⟨h1.trans e1,h2,h3,h4,h5,λ c hc=>(h6 c hc).trans (e2 c hc),λ arr T fz h=>?_⟩;have:(w.setCell ⟨b,o,none⟩ v).heap[b]?=some (.cells (arr.setIfInBounds o v) T fz):=by
      simp [World.setCell,aFu,h]
    obtain ⟨dd,g1,g2⟩:=h7 _ T fz this;exact ⟨dd,g1,by rw [g2,aGy]⟩
theorem Tf {w:World} {b off:Nat} {arr:Array Value} {T:TypeId} {fz:Nat×Nat} (h:w.heap[b]?=some (.cells arr T fz)) {F:List Value} {n:Nat} (hn:F.length=n) (hc:∀ j,j<n->w.cell? ⟨b,off+j,none⟩=F[j]?):e8 w.heap b off n=F:=by
  have bM:∀ k,w.cell? ⟨b,k,none⟩=arr[k]?:=λ k=>by simp [World.cell?,h]
  simp only [e8,y8,h];apply aEm;intro j;rw [aBq,aBl];by_cases hj:j<n
  . rw [if_pos hj,<- hc j hj,bM,Array.getElem?_toList]
  . rw [if_neg hj,aCd (by omega)]
theorem Te {α:Type} (A B C:List α) (j:Nat):(A++B++C)[j]?=if j<A.length then A[j]? else if j<A.length+B.length then B[j - A.length]? else C[j - (A.length+B.length)]?:=by
  rw [aHs,aHs,aAd]
  split<;>split<;>first|rfl|omega|(split<;>first|rfl|omega)
theorem PR {w:World} {S:Nat->Prop} {t:Ty} (ht:t.shared=true) {L:List Nat} {cs:List Value} {l:List t.den} (h:i6 w.heap S (.d0 true t) L cs l) (hl:0<l.length) :
    ∃ b off cap,L=[b]/\cs=[.slice (some ⟨b,off,none⟩) l.length cap]/\l.length<=cap/\AB true cap/\j5 (i6 w.heap S t) t.size [] (e8 w.heap b off (l.length*t.size)) l/\W3 t.isB w.heap b (off+cap*t.size):=by
  rcases h with ⟨_,_,rfl⟩|⟨b,off,cap,O',h1,h2,h3,h4,h5,h6,h7⟩
  . simp at hl
  have hO:O'=[]:=j5.Q8 (λ _ _ _ hr=>i6.Q8 ht hr) h5;subst hO;exact ⟨b,off,cap,h6,h1,h2,h3,h5,h7⟩
def AE:r9:={ ps:=[.own (.d0 true o7),.v f7,.own (.d0 true o7)],rs:=[.d0 true o7],pre:=λ x=>(LE.le (α:=Int) 0 x.2.1/\LT.lt (α:=Int) x.2.1 (List.length (α:=C7) x.1))/\List.length (α:=C7) x.1<=1000/\List.length (α:=C7) x.2.2.1=1,fn:=λ x=>(zD x.1 x.2.1 x.2.2.1,()),out:=λ _=>() }
theorem PS {w w':World} {L:List Nat} (h1:w'.os=w.os) (h2:w'.tape=w.tape) (h3:w.drawn<=w'.drawn) (h4:w'.output=w.output) (h5:w.heap.size<=w'.heap.size) (h6:∀ c,c<w.heap.size->c∉L->w'.heap[c]?=w.heap[c]?):G2 L w w':=⟨h1,⟨h2,h3⟩,h4,h5,h6⟩
theorem Uz:AE.Valid Tryz.prog 100:=by
  refine ⟨⟨_,Tryz.func100,by kernel_rfl,by kernel_rfl⟩,?_,λ h=>by cases h⟩;rintro w S vs ⟨(l:List C7),(i0:Int),(m:List C7),⟨⟩⟩ L hS - ⟨⟨(p0:0<=i0),(p1:i0<(l.length:Int))⟩,(p2:l.length<=1000),(p3:m.length=1)⟩ oE - aK hL;obtain ⟨v1,us,L1,L2,rfl,rfl,⟨cs1,rfl,r1⟩,v2,us,L3,L4,rfl,rfl,⟨rfl,cs2,rfl,r2⟩,v3,us,L5,L6,rfl,rfl,⟨cs3,rfl,r3⟩,rfl,rfl⟩:=oE;obtain ⟨i,rfl⟩:∃ i:Nat,i0=i:=⟨i0.toNat,by omega⟩;have r1:i6 w.heap S (.d0 true o7) L1 cs1 l:=r1;have r3:i6 w.heap S (.d0 true o7) L5 cs3 m:=r3;obtain ⟨b,off,cap,rfl,rfl,c2,c3,c4,c5⟩:=PR rfl r1 (by omega);obtain ⟨vb,voff,vc,rfl,rfl,d2,d3,d4,d5⟩:=PR rfl r3 (by omega);obtain ⟨-,rfl,-⟩:=r2;have aW:Ty.size o7=2:=rfl;have c4:j5 (i6 w.heap S o7) 2 [] (e8 w.heap b off (l.length*2)) l:=c4;have c5:W3 false w.heap b (off+cap*2):=c5;have d5:W3 false w.heap vb (voff+vc*2):=d5;have d4:j5 (i6 w.heap S o7) 2 [] (e8 w.heap vb voff (1*2)) m:=by rw [<- p3]; exact d4
  have oy:vb≠b:=by
    rintro rfl;simp at aK
  have oJ:=hL b (by simp);have kU:=hL vb (by simp);obtain ⟨arr,T,⟨fz,e1,ef⟩,en⟩:=c5;obtain rfl:fz=(0,0):=ef.elim id (λ h=>by cases h.1);obtain ⟨varr,vT,⟨vfz,g1,gf⟩,gn⟩:=d5;obtain rfl:vfz=(0,0):=gf.elim id (λ h=>by cases h.1);rw [p3];have cR:cap<=maxLen:=c3.1;have cK:(e8 w.heap b off (l.length*2)).length=l.length*2:=j5.length (λ _ _ _ h=>h.length) c4;have iK:(e8 w.heap vb voff (1*2)).length=2:=by have:=j5.length (λ _ _ _ h=>h.length) d4; rw [p3] at this; exact this
  have bV:=j5.plain (λ _ _ _ hr=>hr.plain) c4;have jJ:=j5.plain (λ _ _ _ hr=>hr.plain) d4;have bM:∀ k,w.cell? ⟨b,k,none⟩=arr[k]?:=λ k=>by simp [World.cell?,e1]
  have lG:∀ k,w.frozen? ⟨b,k,none⟩=false:=λ k=>by simp [World.frozen?,e1]
  have nI:∀ k,w.frozen? ⟨vb,k,none⟩=false:=λ k=>by simp [World.frozen?,g1]
  have cG:∀ j v,(e8 w.heap b off (l.length*2))[j]?=some v->w.cell? ⟨b,off+j,none⟩=some v:=λ j v h=>O8 h;have jl:∀ j v,(e8 w.heap vb voff (1*2))[j]?=some v->w.cell? ⟨vb,voff+j,none⟩=some v:=λ j v h=>O8 h;have jW:AE.fn (l,(i:Int),m,())=(l.take i++m++l.drop i,()):=rfl;have kF:i<l.length:=by omega
  obtain ⟨q1,q2⟩:j5 (i6 w.heap S o7) 2 [] ((e8 w.heap b off (l.length*2)).take (i*2)) (l.take i)/\j5 (i6 w.heap S o7) 2 [] ((e8 w.heap b off (l.length*2)).drop (i*2)) (l.drop i):=by
    obtain ⟨P1,P2,P3,e,k1,k2,k3⟩:=j5.split (d:=((0:Int),([]:yY),())) kF c4;have e:=e.symm;simp only [aBi] at e;obtain ⟨rfl,rfl,rfl⟩:=e;refine ⟨k1,?_⟩;have h9:l.drop i=l.getD i (0,[],())::l.drop (i+1):=by
      rw [aFg kF,aAb,aAf kF]; rfl
    rw [h9];refine ⟨[],[],rfl,k2,?_⟩;rw [aBm,show i*2+2=(i+1)*2 by omega];exact k3
  have pr:j5 (i6 w.heap S o7) 2 [] ((e8 w.heap b off (l.length*2)).take (i*2)++e8 w.heap vb voff (1*2)++(e8 w.heap b off (l.length*2)).drop (i*2)) (l.take i++m++l.drop i):=by
    have h1:=j5.append (λ _ _ _ h=>h.length) q1 d4;exact j5.append (λ _ _ _ h=>h.length) h1 q2
  have hlen:(l.take i++m++l.drop i).length=l.length+1:=by simp only [aAd,aAn,aAo]; omega
  have jF:((e8 w.heap b off (l.length*2)).take (i*2)).length=i*2:=by rw [aAn,cK]; omega
  have jd:((e8 w.heap b off (l.length*2)).drop (i*2)).length=(l.length - i)*2:=by rw [aAo,cK]; omega
  have fin:∀ {w':World} {c o G:Nat} {dd:Array Value} {T':TypeId},G2 [b,vb] w w'->(c=b\/w.heap.size<=c)->l.length+1<=G->G<=maxLen->w'.heap[c]?=some (.cells dd T' (0,0))->o+G*2<=dd.size ->
      e8 w'.heap c o ((l.length+1)*2)=(e8 w.heap b off (l.length*2)).take (i*2)++e8 w.heap vb voff (1*2)++(e8 w.heap b off (l.length*2)).drop (i*2) ->
      yf w S AE.rs AE.ps [s5 (.d0 true o7) [.slice (some ⟨b,off,none⟩) l.length cap],s5 f7 [.int .i64 i],s5 (.d0 true o7) [.slice (some ⟨vb,voff,none⟩) 1 vc]] [b,vb] (AE.fn (l,(i:Int),m,())) (AE.out (l,(i:Int),m,())) (.returned (.slice (some ⟨c,o,none⟩) (l.length+1) G)) w':=by
    intro w' c o G dd T' hp hc hG oU ha hs qD;have cj:∀ {cs:List Value} {l':List C7},j5 (i6 w.heap S o7) 2 [] cs l'->j5 (i6 w'.heap S o7) 2 [] cs l':=λ hr=>j5.mono (L:=[]) (λ _ h=>h) (λ O cs x hO hr=>hr.x7 (λ d hd=>by
      rcases hd with hd|hd
      . exact absurd (hO d hd) (by simp)
      . refine hp.frame d (hS d hd) (λ hm=>?_);rcases aAq.1 hm with rfl|hm
        . exact oJ.1 hd
        . rw [aBe] at hm; subst hm; exact kU.1 hd) (λ _ h=>h)) hr
    refine ⟨[.slice (some ⟨c,o,none⟩) (l.length+1) G],[c],[],S,rfl,hp,λ _ h=>h,λ _ h=>.inl h,⟨_,[],[c],[],[.slice (some ⟨c,o,none⟩) (l.length+1) G],rfl,rfl,rfl,?_,rfl,rfl⟩,⟨_,_,rfl,_,_,rfl,_,_,rfl,rfl,rfl⟩,by simp,?_⟩
    . rw [jW];refine .inr ⟨c,o,G,[],by rw [hlen],by rw [hlen]; exact hG,⟨oU,λ _=>by omega⟩,?_,?_,rfl,dd,T',⟨(0,0),ha,.inl rfl⟩,hs⟩
      . rw [hlen,aW]; simp only [y8,ha,aEx]; omega
      . rw [hlen,aW,qD]; exact cj pr
    . intro d hd;simp only [aAv,aBe] at hd;subst hd;refine ⟨λ h=>?_,?_,?_⟩
      . rcases hc with rfl|hc
        . exact oJ.1 h
        . have:=hS d h; omega
      . rcases hc with rfl|hc
        . right; simp
        . left; exact hc
      . exact (aAp.1 ha).1
  by_cases cy:l.length+1<=cap
  . have kx:(l.length+1)*2<=cap*2:=aAm _ cy;refine (ZY b off l.length cap i vb voff vc (e8 w.heap b off (l.length*2)) (e8 w.heap vb voff (1*2)) w kF cy cR oy cK iK cG
      (λ j hj=>by rw [bM,aCe (by omega)]; rfl) (λ j _=>lG _) jl (λ v hv=>(bV v hv).1) (λ v hv=>(jJ v hv).1)
      vT T varr.size arr.size (by simp [World.shape?,g1]) (by simp [World.shape?,e1]) (by omega) (nI _) (nI _)).mono ?_
    rintro e w' ⟨rfl,rfl⟩;obtain ⟨A1,A2,A3,A4,A5,A6,A7⟩:=DB b ((e8 w.heap b off (l.length*2)).drop (i*2)) (off+(i+1)*2) w.drew;obtain ⟨B1,B2,B3,B4,B5,B6,B7⟩:=DB b (e8 w.heap vb voff (1*2)) (off+i*2) (w.drew.setCells b (off+(i+1)*2) ((e8 w.heap b off (l.length*2)).drop (i*2)));obtain ⟨arr1,x1,x2⟩:=A7 arr T (0,0) e1;obtain ⟨arr2,y1,y2⟩:=B7 arr1 T (0,0) x1;have cu:∀ k,off+k<off+cap*2->(w.drew.cell? ⟨b,off+k,none⟩).isSome=true:=λ k hk=>by
      show (w.cell? ⟨b,off+k,none⟩).isSome=true;rw [bM,aCe (by omega)]; rfl
    have gG:∀ k,off+k<off+cap*2->((w.drew.setCells b (off+(i+1)*2) ((e8 w.heap b off (l.length*2)).drop (i*2))).cell? ⟨b,off+k,none⟩).isSome=true:=λ k hk =>
      Gw b _ _ _ (λ j hj=>by rw [jd] at hj; rw [aBo]; exact cu _ (by omega)) _ (cu k hk)
    refine fin (T':=T) (dd:=arr2) ?_ (.inl rfl) cy cR y1 (by rw [y2,x2]; exact en) ?_
    . refine PS (B2.trans A2) (B4.trans A4) (by rw [B5,A5]; exact aHu _) (B3.trans A3) (by rw [B1,A1]; exact aAk _) (λ c hc hn=>?_);have cD:c≠b:=λ e=>hn (by simp [e]);exact (B6 c cD).trans (A6 c cD)
    . refine Tf y1 (by rw [aAd,aAd,jF,iK,jd]; omega) (λ j hj=>?_);rw [Te,jF,iK];by_cases k1:j<i*2
      . rw [if_pos k1,World.cell?_setCells_out b _ _ _ _ (λ _ _=>.inl (by show off+j<_; omega)),World.cell?_setCells_out b _ _ _ _ (λ _ _=>.inl (by show off+j<_; omega)),aBq,if_pos k1];have jt:j<(e8 w.heap b off (l.length*2)).length:=by omega
        rw [aAf jt];exact cG j _ (aAf jt)
      . rw [if_neg k1];by_cases k2:j<i*2+2
        . rw [if_pos k2];have:=World.cell?_setCells_in b (e8 w.heap vb voff (1*2)) (off+i*2) (w.drew.setCells b (off+(i+1)*2) ((e8 w.heap b off (l.length*2)).drop (i*2))) (λ j hj=>by rw [aBo]; exact gG _ (by omega)) (j - i*2) (by omega);rw [show off+i*2+(j - i*2)=off+j by omega] at this;rw [this,aAf]
        . rw [if_neg k2,World.cell?_setCells_out b _ _ _ _ (λ _ _=>.inr (by show _<=off+j; rw [iK]; omega))];have:=World.cell?_setCells_in b ((e8 w.heap b off (l.length*2)).drop (i*2)) (off+(i+1)*2) w.drew (λ j hj=>by rw [jd] at hj; rw [aBo]; exact cu _ (by omega)) (j - (i*2+2)) (by omega);rw [show off+(i+1)*2+(j - (i*2+2))=off+j by omega] at this;rw [this,aAf]
  . refine (ZB b off l.length cap i vb voff vc (e8 w.heap b off (l.length*2)) (e8 w.heap vb voff (1*2)) w kF c2 (by omega) (by omega) cK iK cG jl (λ v hv=>(bV v hv).1) (λ v hv=>(jJ v hv).1)).mono ?_;rintro e w' ⟨G,Z,z1,z2,z3,rfl,rfl⟩;generalize kn:((e8 w.heap b off (l.length*2)).take (i*2)).toArray++Z=ROW;have uq:ROW.size=G*2:=by rw [<- kn,aFl,aFi,jF,z3]; omega
    generalize hN:w.heap.size=N;have n1:((w.alloc (.cells ROW 104)).drew).heap[N]?=some (.cells ROW 104 (0,0)):=by
      show (w.heap.push _)[N]?=_;rw [<- hN]; simp
    have n2:∀ c,c<N->((w.alloc (.cells ROW 104)).drew).heap[c]?=w.heap[c]?:=λ c hc=>by
      show (w.heap.push _)[c]?=_;rw [aEc,if_neg (by omega)]
    have n3:((w.alloc (.cells ROW 104)).drew).heap.size=N+1:=by show (w.heap.push _).size=_; rw [Array.size_push,hN]
    obtain ⟨A1,A2,A3,A4,A5,A6,A7⟩:=DB N (e8 w.heap vb voff (1*2)) (i*2) ((w.alloc (.cells ROW 104)).drew);generalize gE:((w.alloc (.cells ROW 104)).drew).setCells N (i*2) (e8 w.heap vb voff (1*2))=W1 at *
    obtain ⟨B1,B2,B3,B4,B5,B6,B7⟩:=DB N ((e8 w.heap b off (l.length*2)).drop (i*2)) ((i+1)*2) W1.drew;obtain ⟨arr1,x1,x2⟩:=A7 ROW 104 (0,0) n1;obtain ⟨arr2,y1,y2⟩:=B7 arr1 104 (0,0) x1;have rP:∀ k,((w.alloc (.cells ROW 104)).drew).cell? ⟨N,k,none⟩=ROW[k]?:=λ k=>by simp only [World.cell?,n1]; rfl
    have cu:∀ k,k<G*2->(((w.alloc (.cells ROW 104)).drew).cell? ⟨N,k,none⟩).isSome=true:=λ k hk=>by
      rw [rP,aCe (by omega)]; rfl
    have gG:∀ k,k<G*2->(W1.drew.cell? ⟨N,k,none⟩).isSome=true:=λ k hk=>by
      show (W1.cell? ⟨N,k,none⟩).isSome=true;rw [<- gE];exact Gw N _ _ _ (λ j hj=>cu _ (by omega)) _ (cu k hk)
    refine fin (c:=N) (o:=0) (G:=G) (T':=104) (dd:=arr2) ?_ (.inr (by omega)) z1 z2 y1 (by rw [y2,x2,uq]; omega) ?_
    . refine PS (B2.trans A2) (B4.trans A4) (by rw [B5]; show _<=W1.drawn+1; rw [A5]; show w.drawn<=w.drawn+1+1; omega) (B3.trans A3) (by rw [B1]; show _<=W1.heap.size; rw [A1,n3]; omega) (λ c hc hn=>?_);have cD:c≠N:=by omega
      exact (B6 c cD).trans ((A6 c cD).trans (n2 c (by omega)))
    . refine Tf y1 (by rw [aAd,aAd,jF,iK,jd]; omega) (λ j hj=>?_);rw [Te,jF,iK,aEz];by_cases k1:j<i*2
      . rw [if_pos k1,World.cell?_setCells_out N _ _ _ _ (λ _ _=>.inl (by show j<_; omega))];show W1.cell? ⟨N,j,none⟩=_;rw [<- gE,World.cell?_setCells_out N _ _ _ _ (λ _ _=>.inl (by show j<_; omega)),rP,<- kn];rw [aHo,if_pos (by rw [aFi,jF]; exact k1),List.getElem?_toArray]
      . rw [if_neg k1];by_cases k2:j<i*2+2
        . rw [if_pos k2,World.cell?_setCells_out N _ _ _ _ (λ _ _=>.inl (by show j<_; omega))];show W1.cell? ⟨N,j,none⟩=_;have:=World.cell?_setCells_in N (e8 w.heap vb voff (1*2)) (i*2) ((w.alloc (.cells ROW 104)).drew) (λ j hj=>cu _ (by omega)) (j - i*2) (by omega);rw [gE,show i*2+(j - i*2)=j by omega] at this;rw [this,aAf]
        . rw [if_neg k2];have:=World.cell?_setCells_in N ((e8 w.heap b off (l.length*2)).drop (i*2)) ((i+1)*2) W1.drew (λ j hj=>by rw [jd] at hj; exact gG _ (by omega)) (j - (i*2+2)) (by omega);rw [show (i+1)*2+(j - (i*2+2))=j by omega] at this;rw [this,aAf]
def No:r9:={ ps:=[.own (.d0 true o7),.v f7,.own (.d0 true o7)],rs:=[.d0 true o7],pre:=λ x=>x.2.1=(List.length (α:=C7) x.1:Int)/\List.length (α:=C7) x.1<=1000/\List.length (α:=C7) x.2.2.1=1,fn:=λ x=>(zD x.1 x.2.1 x.2.2.1,()),out:=λ _=>() }
noncomputable def Hf:Env:={ P:=Tryz.prog,tt:=tt,E3:=[],res:=[Go.ResultVar.tmp 6],rs:=[Ty.d0 true o7],ps:=[PK.own (Ty.d0 true o7),PK.v f7,PK.own (Ty.d0 true o7)],D5:=[],nt:=95 }
theorem QJ:B8 Hf:=C4 s7 trivial
theorem Qw:D7 Hf Tryz.f100:=⟨rfl,rfl⟩
theorem Ww (x0:List (Int×yY×Unit)) (x1:Int) (x2:List (Int×yY×Unit)):exec Hf 1000 [.code (d8 Tryz.prog 100)] (w9 No.ps ((x0,x1,x2,()))) =
  .f8 ((0:Int)<=x1/\x1<=(↑(List.length x0):Int)/\(↑(List.length x0):Int)<=(↑(List.length x0):Int)) (cond (decide ((↑(List.length x2):Int)=(0:Int))) (.ret ((x0,()))) (cond (decide (x1=(↑(List.length x0):Int))) (.f8 (List.length x0+List.length x2<=140737488355328/\(List.length x0+List.length x2)*Ty.wb o7<=140737488355328) (.ret ((x0++x2,())))) (.f8 (w4 IntKind.i64 ((↑(List.length x0):Int)+(↑(List.length x2):Int))) (.stuck "cap")))):=by kernel_rfl
theorem b9g:No.Valid Tryz.prog 100:=by
  refine r9.p7 QJ rfl rfl Tryz.func100 (c:=d8 Tryz.prog 100) rfl rfl Qw rfl ?_;rintro ⟨(l:List C7),(i:Int),(m:List C7),⟨⟩⟩ ⟨(p1:i=(l.length:Int)),(p2:l.length<=1000),(p3:m.length=1)⟩ -
  subst p1;refine j6 (n:=1000) QJ Qw ?_;refine i7 (Ww l (l.length:Int) m) ?_;have Vn:Ty.wb o7=24:=rfl;simp only [j7,Tree.holds,Vn,sL];refine ⟨by omega,λ _=>⟨λ h=>absurd h (by omega),λ _=>⟨⟨⟨by omega,by omega⟩,λ _=>?_⟩,λ h=>absurd trivial h⟩⟩⟩;show ((l++m,()):List C7×Unit)=(zD l (l.length:Int) m,());unfold zD;rw [aCa,aDp,aGl,aAv]
def Nb:r9:={ ps:=[.own (.d0 true o7),.v f7,.own (.d0 true o7)],rs:=[.d0 true o7],pre:=λ x=>(LE.le (α:=Int) 0 x.2.1/\LE.le (α:=Int) x.2.1 (List.length (α:=C7) x.1))/\List.length (α:=C7) x.1<=1000/\List.length (α:=C7) x.2.2.1=1,fn:=λ x=>(zD x.1 x.2.1 x.2.2.1,()),out:=λ _=>() }
theorem c2m:Nb.Valid Tryz.prog 100:=by
  refine ⟨Uz.ent,?_,λ h=>by cases h⟩;rintro w S vs ⟨(l:List C7),(i:Int),(m:List C7),⟨⟩⟩ L hS ed ⟨⟨(p0:0<=i),(p1:i<=(l.length:Int))⟩,(p2:l.length<=1000),(p3:m.length=1)⟩ oE dn aK hL;by_cases h:i<(l.length:Int)
  . exact Uz.run w S vs (l,i,m,()) L hS ed ⟨⟨p0,h⟩,p2,p3⟩ oE dn aK hL
  . exact b9g.run w S vs (l,i,m,()) L hS ed ⟨by show i=(l.length:Int); omega,p2,p3⟩ oE dn aK hL
theorem Xb:Ty.wb o7=24:=rfl
def HC:r9:={ ps:=[.v (.d0 false o7)],rs:=[.d0 true o7],pre:=λ x=>List.length (α:=s8) x.1<=1048576,fn:=λ x=>x,out:=λ _=>() }
noncomputable def HD:Env:={ P:=Tryz.prog,tt:=tt,E3:=[],res:=[Go.ResultVar.tmp 2],rs:=[Ty.d0 true o7],ps:=[PK.v K5],D5:=[],nt:=8 }
theorem Qk:B8 HD:=C4 s7 trivial
theorem QB:D7 HD Tryz.f97:=⟨rfl,rfl⟩
theorem WC (x0:List (Int×yY×Unit)):exec HD 1000 [.code (d8 Tryz.prog 97)] (w9 HC.ps ((x0,()))) =
  .both (x0=[]) (.ret (([],()))) (.f8 ((0:Nat)+List.length x0<=140737488355328/\((0:Nat)+List.length x0)*Ty.wb o7<=140737488355328) (.ret (([]++x0,())))):=by kernel_rfl
theorem b86:HC.Valid Tryz.prog 97:=by
  refine r9.p7 Qk rfl rfl Tryz.func97 (c:=d8 Tryz.prog 97) rfl rfl QB rfl ?_;rintro ⟨(l:List (s8)),⟨⟩⟩ hp -
  have hp:l.length<=1048576:=hp;refine j6 (n:=1000) Qk QB ?_;refine i7 (WC l) ?_;simp only [j7,Tree.holds,Xb,sL];refine ⟨λ h=>?_,by omega,λ _=>rfl⟩;show (([],()):List (s8)×Unit)=(l,());rw [show l=[] from h]
def IZ:r9:={ ps:=[.v ToT,.v o7],rs:=[ToO,.d0 true .str,f7],pre:=λ _=>True,fn:=λ x=>E6 x.1 x.2.1,out:=λ _=>() }
noncomputable def ED:Env:={ P:=Tryz.prog,tt:=tt,E3:=[(96,GV),(75,BA),(59,AJ),(97,HC),(98,GG),(100,Nb)],res:=[Go.ResultVar.cell 4 83,Go.ResultVar.tmp 5,Go.ResultVar.tmp 6],rs:=[Ty.pair f7 (Ty.pair (Ty.d0 true o7) Ty.unit),Ty.d0 true Ty.str,Ty.int IntKind.i64],ps:=[PK.v ToT,PK.v o7],D5:=[(17,[(4,none),(8,none),(11,some (Ty.d0 true Ty.str))])],nt:=116 }
theorem Lh:B8 ED:=C4 s7 ⟨c1S,Lw,Gt,b86,c2z,c2m,trivial⟩
theorem Ll:D7 ED Tryz.f83:=⟨rfl,rfl⟩
theorem Yj (aO:Int) (ab:List (Int×yY×Unit)) (bz:Int) (aJ:yY):exec ED 1000 [.code (d8 Tryz.prog 83)] (w9 IZ.ps (((aO,ab,()),(bz,aJ,()),()))) =
  .f8 (True) (cond (decide (toE (aO,ab,())≠(0:Int))) (.ret ((((0:Int),[],()),[],toE (aO,ab,()),()))) (.f8 (True) (cond (!inF bz (0:Int) (16777214:Int)) (.ret ((((0:Int),[],()),[],(1:Int),()))) (.f8 (True) (cond (F3 aJ) (.ret ((((0:Int),[],()),[],(2:Int),()))) (.f8 (List.length ab<=1048576) (.f8 ((List.length ab<=1000/\sorted ab)/\(-100000000:Int)<=bz/\bz<=(100000000:Int)) (cond (decide (bz<aO)) (.ret (((aO,ab,()),[],(0:Int),()))) (.f8 (w4 IntKind.i64 (aO+(16:Int))) (cond (decide (aO+(16:Int)<=bz)) (.ret (((aO,ab,()),[],(0:Int),()))) (cond (wG bz ab) (.ret (((aO,ab,()),[],(0:Int),()))) (cond (decide (aO<bz)) (.f8 (((0:Int)<=(↑(atF bz ab):Int)/\(↑(atF bz ab):Int)<=(↑(List.length ab):Int))/\List.length ab<=1000/\List.length (List.set [((0:Int),[],())] (Int.toNat (↑0:Int)) (bz,aJ,()))=1) (.ret (((aO,zD ab (↑(atF bz ab):Int) (List.set [((0:Int),[],())] (Int.toNat (↑0:Int)) (bz,aJ,())),()),[],(0:Int),())))) (.f8 (w4 IntKind.i64 (aO+(1:Int))) (.ctL (f9 (d8 Tryz.prog 83) 17) (St.mk [(4,AV.ptr 4 []),(8,AV.ptr 8 []),(11,AV.at_ 1000011 [])] [(4,g9.var ToO ((0:Int),[],())),(8,g9.var ToO (aO+(1:Int),ab,())),(1000011,g9.own (Ty.d0 true Ty.str) (List.set [[]] (Int.toNat (↑0:Int)) aJ))]))))))))))))))):=by kernel_rfl
def Tu (jA:Int) (fw:List (Int×yY×Unit)) (fS:Int) (bE:List (Int×yY×Unit)) (bs:List yY):St:=St.mk [(4,AV.ptr 4 []),(8,AV.ptr 8 []),(11,AV.at_ 1000011 [])] [(4,g9.var ToO (jA,fw,())),(8,g9.var ToO (fS,bE,())),(1000011,g9.own (Ty.d0 true Ty.str) bs)]
theorem c3d (jA:Int) (fw:List (Int×yY×Unit)) (fS:Int) (bE:List (Int×yY×Unit)) (bs:List yY):exec ED 1000 (.code (f9 (d8 Tryz.prog 83) 17).1::.inLoop (f9 (d8 Tryz.prog 83) 17).1::(f9 (d8 Tryz.prog 83) 17).2) (Tu jA fw fS bE bs) =
  cond (decide ((0:Int)<(↑(List.length bE):Int))) (.f8 ((0:Int)<=(0:Int)/\(0:Int)<(↑(List.length bE):Int)) (cond (decide (Prod.fst (List.getD bE (Int.toNat (0:Int)) ((0:Int),[],()))=fS)) (.f8 ((0:Int)<=(0:Int)/\(0:Int)<(↑(List.length bE):Int)) (.f8 (List.length bs+List.length (List.set [[]] (Int.toNat (↑0:Int)) (List.getD bE (Int.toNat (0:Int)) ((0:Int),[],())).2.1)<=140737488355328/\(List.length bs+List.length (List.set [[]] (Int.toNat (↑0:Int)) (List.getD bE (Int.toNat (0:Int)) ((0:Int),[],())).2.1))*Ty.wb Ty.str<=140737488355328) (.f8 ((0:Int)<=(1:Int)/\(1:Int)<=(↑(List.length bE):Int)/\(↑(List.length bE):Int)<=(↑(List.length bE):Int)) (.f8 ([]++[Step.m0 1]=[]++[Step.m0 1]/\True) (.f8 (w4 IntKind.i64 (fS+(1:Int))) (.ctL (f9 (d8 Tryz.prog 83) 17) (St.mk [(4,AV.ptr 4 []),(8,AV.ptr 8 []),(11,AV.at_ 1000011 [])] [(4,g9.var ToO (jA,fw,())),(8,g9.var ToO (fS+(1:Int),o6 (1:Int) (↑(List.length bE):Int) bE,())),(1000011,g9.own (Ty.d0 true Ty.str) (bs++List.set [[]] (Int.toNat (↑0:Int)) (List.getD bE (Int.toNat (0:Int)) ((0:Int),[],())).2.1))]))))))) (.f8 (List.length bE<=1048576) (.ret (((fS,bE,()),bs,(0:Int),())))))) (.f8 (List.length bE<=1048576) (.ret (((fS,bE,()),bs,(0:Int),())))):=by kernel_rfl
theorem VD {n:Int} {l:List s8}:atF n l<=l.length:=by
  rw [atF]; exact (List.takeWhile_sublist _).length_le
theorem xV.sorted {r:Int} {l:List s8} (h:xV r l):sorted l:=⟨b8L h.up,λ i hi=>by
  have h1:=JX h.up (Fk (d:=p00) hi);have h2:=(h.b _ (Fk (d:=p00) hi)).1;have:=h.rg;omega⟩
theorem b6Z:IZ.Valid Tryz.prog 83:=by
  refine r9.p7 Lh rfl rfl Tryz.func83 (c:=d8 Tryz.prog 83) rfl rfl Ll rfl ?_;rintro ⟨⟨(r:Int),(l:List s8),⟨⟩⟩,⟨(q:Int),(x:yY),⟨⟩⟩,⟨⟩⟩ - -
  refine j6 (n:=1000) Lh Ll ?_;refine i7 (Yj r l q x) ?_;have key:∀ {y:ToD×List yY×Int×Unit},E6 (r,l,()) (q,x,())=y->y=E6 (r,l,()) (q,x,()):=λ h=>h.symm;have hd:E6 (r,l,()) (q,x,())=if toE (r,l,())≠0 then (t00,[],toE (r,l,()),()) else if inF q 0 16777214=false then (t00,[],1,()) else if F3 x=true then (t00,[],2,()) else
    if q<r\/r+16<=q\/wG q l=true then ((r,l,()),[],0,()) else if r<q then ((r,xH (q,x,()) l,()),[],0,()) else
    (((F2 l (r+1)).1,(F2 l (r+1)).2.1,()),x::(F2 l (r+1)).2.2,0,()):=rfl
  have hw:Ty.wb .str=16:=rfl;simp only [j7,Tree.holds,hw,sL];refine ⟨λ a=>key (by rw [hd,if_pos a]<;>rfl),λ a=>?_⟩;have aH:=JK.1 (aBt.1 a);have mf:=aH.rg;have hlen:=aH.len;rw [if_neg a] at hd;refine ⟨λ c=>key (by rw [hd,if_pos c]<;>rfl),λ c=>?_⟩;have hq:=yp.1 c;rw [if_neg (lnf c)] at hd;refine ⟨λ d=>key (by rw [hd,if_pos d]<;>rfl),λ d=>⟨by omega,λ _=>⟨⟨⟨by omega,aH.sorted⟩,by omega,by omega⟩,λ _=>?_⟩⟩⟩;rw [if_neg (by rw [d]; simp)] at hd;refine ⟨λ e=>key (by rw [hd,if_pos (.inl e)]<;>rfl),λ e=>⟨by omega,λ _=>⟨λ f=>key (by rw [hd,if_pos (.inr (.inl f))]<;>rfl),λ f=>⟨λ g=>key (by rw [hd,if_pos (.inr (.inr g))]<;>rfl),λ g=>?_⟩⟩⟩⟩;rw [if_neg (by rintro (h|h|h); exact e h; exact f h; rw [g] at h; cases h)] at hd;have iv:=VD (n:=q) (l:=l);refine ⟨λ k=>⟨⟨⟨by omega,by omega⟩,by omega,trivial⟩,λ _=>key (by rw [hd,if_pos k]; simp [zD,xH]; rfl)⟩,λ k=>⟨by omega,λ _=>?_⟩⟩;rw [if_neg k] at hd;refine Reach.N4 Lh Ll (λ s:Int×List s8×List yY=>Tu 0 [] s.1 s.2.1 s.2.2) (λ s=>((F2 s.2.1 s.1).1=(F2 l (r+1)).1/\(F2 s.2.1 s.1).2.1=(F2 l (r+1)).2.1/\s.2.2++(F2 s.2.1 s.1).2.2=x::(F2 l (r+1)).2.2)/\s.2.1.length<=16/\s.2.2.length+s.2.1.length<=17/\0<=s.1/\s.1+s.2.1.length<=20000000)
    (λ s=>s.2.1.length) 1000 (λ _=>⟨w6 rfl,w6 rfl⟩) ?_ (r+1,l,[x]) ⟨⟨rfl,rfl,rfl⟩,hlen,by show 1+l.length<=17; omega,by show 0<=r+1; omega,by show r+1+(l.length:Int)<=20000000; omega⟩
  rintro ⟨n,m,ts⟩ ⟨⟨k1,k2,k3⟩,k4,k5,k6,k7⟩ - ih;have k1:(F2 m n).1=(F2 l (r+1)).1:=k1;have k2:(F2 m n).2.1=(F2 l (r+1)).2.1:=k2;have k3:ts++(F2 m n).2.2=x::(F2 l (r+1)).2.2:=k3;have k4:m.length<=16:=k4;have k5:ts.length+m.length<=17:=k5;have k6:0<=n:=k6;have k7:n+(m.length:Int)<=20000000:=k7;rw [<- k1,<- k2,<- k3] at hd;refine i7 (c3d ..) ?_;rw [show ((n,m,ts):Int×List s8×List yY).1=n from rfl,show ((n,m,ts):Int×List s8×List yY).2.1=m from rfl,show ((n,m,ts):Int×List s8×List yY).2.2=ts from rfl];cases m with
  | nil =>
    simp only [j7,Tree.holds,hw,sL];refine ⟨λ c2=>absurd c2 (by simp),λ _=>⟨by omega,λ _=>key ?_⟩⟩;rw [hd,F2,aAv]; rfl
  | cons p m =>
    have g0:List.getD (p::m) (Int.toNat 0) (0,[],())=p:=rfl;have jX:o6 1 ((p::m).length:Int) (p::m)=m:=by
      rw [o6,aAw (by simp)]; rfl
    simp only [aAh] at k4 k5 k7;have jK:F2 (p::m) n=if p.1=n then ((F2 m (n+1)).1,(F2 m (n+1)).2.1,p.2.1::(F2 m (n+1)).2.2) else (n,p::m,[]):=rfl
    simp only [j7,Tree.holds,hw,g0,jX,sL];refine ⟨λ c2=>⟨by omega,λ _=>⟨λ c3=>?_,λ c3=>⟨by omega,λ _=>key ?_⟩⟩⟩,λ c2=>absurd (by omega) c2⟩
    . rw [if_pos c3] at jK;rw [jK] at k1 k2 k3;have next:=ih (n+1,m,ts++[p.2.1]) ⟨⟨k1,k2,by rw [aAj]; exact k3⟩,by show m.length<=16; omega,by show (ts++[p.2.1]).length+m.length<=17; rw [aAd,aBn]; omega,by show 0<=n+1; omega,by show n+1+(m.length:Int)<=20000000; omega⟩ (by show m.length<(p::m).length; simp)
      have nO:o6 1 ((m.length+1:Nat):Int) (p::m)=m:=jX;rw [nO];exact ⟨by omega,λ _=>⟨⟨by omega,by omega⟩,λ _=>⟨by omega,λ _=>⟨by omega,λ _=>next⟩⟩⟩⟩
    . rw [if_neg c3] at jK;rw [hd,jK,aAv]; rfl
attribute [local irreducible] Go.Ex.exec
abbrev FrD:=Int×List yY×Unit
abbrev o5:=Bool×List C7×FrD×ToD×ToD×Unit
abbrev d9:=vX×List o5×List yY×List yY×Unit
def g8:o5:=(false,[],(0,[],()),(0,[],()),(0,[],()),())
def Aq:r9:={ ps:=[.v f7,.v f7,.v f7],rs:=[.bool],pre:=λ _=>True,fn:=λ x=>(I4 x.1 x.2.1 x.2.2.1,()),out:=λ _=>() }
noncomputable def GA:Env:={ P:=Tryz.prog,tt:=tt,E3:=[],res:=[Go.ResultVar.tmp 6],rs:=[Ty.bool],ps:=[PK.v f7,PK.v f7,PK.v f7],D5:=[],nt:=15 }
theorem Pc:B8 GA:=C4 s7 trivial
theorem Pm:D7 GA Tryz.f40:=⟨rfl,rfl⟩
theorem Wh (x0:Int) (x1:Int) (x2:Int):exec GA 1000 [.code (d8 Tryz.prog 40)] (w9 Aq.ps ((x0,x1,x2,()))) =
  cond (decide (x1<=x0)) (.ret ((decide (x0<=x2),()))) (.ret ((false,()))):=by kernel_rfl
theorem Ga:Aq.Valid Tryz.prog 40:=by
  refine r9.p7 Pc rfl rfl Tryz.func40 (c:=d8 Tryz.prog 40) rfl rfl Pm rfl ?_;rintro ⟨(n:Int),(a:Int),(b:Int),⟨⟩⟩ - -
  refine j6 (n:=1000) Pc Pm ?_;refine i7 (Wh n a b) ?_;simp only [j7,Tree.holds,sL];refine ⟨λ c=>?_,λ c=>?_⟩
  . show ((decide _,()):Bool×Unit)=(I4 n a b,()); rw [I4,decide_eq_true c,aFo]
  . show ((false,()):Bool×Unit)=(I4 n a b,()); rw [I4,decide_eq_false c,aGw]
def tz (m:Int):Int:=(((List.range 8).find? (λ i=>decide (m / 2^i % 2=1))).getD 8:Nat)
def ctz:r9:={ ps:=[.v U8],rs:=[f7],pre:=λ _=>True,fn:=λ x=>(tz x.1,()),out:=λ _=>() }
noncomputable def Etz:Env:={ P:=Tryz.prog,tt:=tt,E3:=[],res:=[Go.ResultVar.tmp 2],rs:=[Ty.int IntKind.i64],ps:=[PK.v U8],D5:=[],nt:=6 }
theorem Ob:B8 Etz:=C4 s7 trivial
theorem Oc:D7 Etz Tryz.f78:=⟨rfl,rfl⟩
theorem VJ (x0:Int):exec Etz 1000 [.code (d8 Tryz.prog 78)] (w9 ctz.ps ((x0,()))) =
  .f8 ((0:Int)<=x0/\x0<(↑(List.length (Array.toList (ByteArray.data (ByteArray.mk (List.toArray (List.append (List.append ([8,0,1,0,2,0,1,0,3,0,1,0,2,0,1,0,4,0,1,0,2,0,1,0,3,0,1,0,2,0,1,0,5,0,1,0,2,0,1,0,3,0,1,0,2,0,1,0,4,0,1,0,2,0,1,0,3,0,1,0,2,0,1,0]:yY) ([6,0,1,0,2,0,1,0,3,0,1,0,2,0,1,0,4,0,1,0,2,0,1,0,3,0,1,0,2,0,1,0,5,0,1,0,2,0,1,0,3,0,1,0,2,0,1,0,4,0,1,0,2,0,1,0,3,0,1,0,2,0,1,0]:yY)) (List.append ([7,0,1,0,2,0,1,0,3,0,1,0,2,0,1,0,4,0,1,0,2,0,1,0,3,0,1,0,2,0,1,0,5,0,1,0,2,0,1,0,3,0,1,0,2,0,1,0,4,0,1,0,2,0,1,0,3,0,1,0,2,0,1,0]:yY) ([6,0,1,0,2,0,1,0,3,0,1,0,2,0,1,0,4,0,1,0,2,0,1,0,3,0,1,0,2,0,1,0,5,0,1,0,2,0,1,0,3,0,1,0,2,0,1,0,4,0,1,0,2,0,1,0,3,0,1,0,2,0,1,0]:yY)))))))):Int)) (.ret ((IntKind.wrap IntKind.i64 (↑(UInt8.toNat (List.getD (Array.toList (ByteArray.data (ByteArray.mk (List.toArray (List.append (List.append ([8,0,1,0,2,0,1,0,3,0,1,0,2,0,1,0,4,0,1,0,2,0,1,0,3,0,1,0,2,0,1,0,5,0,1,0,2,0,1,0,3,0,1,0,2,0,1,0,4,0,1,0,2,0,1,0,3,0,1,0,2,0,1,0]:yY) ([6,0,1,0,2,0,1,0,3,0,1,0,2,0,1,0,4,0,1,0,2,0,1,0,3,0,1,0,2,0,1,0,5,0,1,0,2,0,1,0,3,0,1,0,2,0,1,0,4,0,1,0,2,0,1,0,3,0,1,0,2,0,1,0]:yY)) (List.append ([7,0,1,0,2,0,1,0,3,0,1,0,2,0,1,0,4,0,1,0,2,0,1,0,3,0,1,0,2,0,1,0,5,0,1,0,2,0,1,0,3,0,1,0,2,0,1,0,4,0,1,0,2,0,1,0,3,0,1,0,2,0,1,0]:yY) ([6,0,1,0,2,0,1,0,3,0,1,0,2,0,1,0,4,0,1,0,2,0,1,0,3,0,1,0,2,0,1,0,5,0,1,0,2,0,1,0,3,0,1,0,2,0,1,0,4,0,1,0,2,0,1,0,3,0,1,0,2,0,1,0]:yY))))))) (Int.toNat x0) (0:UInt8))):Int),()))):=by kernel_rfl
theorem c4G:ctz.Valid Tryz.prog 78:=by
  refine r9.p7 Ob rfl rfl Tryz.func78 (c:=d8 Tryz.prog 78) rfl rfl Oc rfl ?_;rintro ⟨(x0:Int),⟨⟩⟩ - ⟨h0,-⟩;refine j6 (n:=1000) Ob Oc ?_;refine i7 (VJ x0) ?_;have g0:0<=x0/\x0<=255:=h0;obtain ⟨n,rfl⟩:∃ n:Fin 256,x0=((n.val:Nat):Int):=⟨⟨x0.toNat,by omega⟩,by simp; omega⟩;refine ⟨?_,λ _=>?_⟩
  . clear h0 g0; revert n; decide +kernel
  . show ((_,()):Int×Unit)=(tz n,());clear h0 g0; revert n; decide +kernel
def zb (v:vX):Int×Int×Unit:=if R3 v≠0 then (0,R3 v,()) else (tz v.2.1,0,())
def EB:r9:={ ps:=[.v View],rs:=[f7,f7],pre:=λ _=>True,fn:=λ x=>zb x.1,out:=λ _=>() }
noncomputable def Im:Env:={ P:=Tryz.prog,tt:=tt,E3:=[(70,Ct),(78,ctz)],res:=[Go.ResultVar.tmp 2,Go.ResultVar.tmp 3],rs:=[Ty.int IntKind.i64,Ty.int IntKind.i64],ps:=[PK.v View],D5:=[],nt:=13 }
theorem Rl:B8 Im:=C4 s7 ⟨UZ,c4G,trivial⟩
theorem SG:D7 Im Tryz.f61:=⟨rfl,rfl⟩
theorem YF (aO:Int) (ab:Int):exec Im 1000 [.code (d8 Tryz.prog 61)] (w9 EB.ps (((aO,ab,()),()))) =
  .f8 (True) (cond (decide (R3 (aO,ab,())≠(0:Int))) (.ret (((0:Int),R3 (aO,ab,()),()))) (.f8 (True) (.ret ((tz ab,(0:Int),()))))):=by kernel_rfl
theorem b69:EB.Valid Tryz.prog 61:=by
  refine r9.p7 Rl rfl rfl Tryz.func61 (c:=d8 Tryz.prog 61) rfl rfl SG rfl ?_;rintro ⟨⟨(x0:Int),(x1:Int),⟨⟩⟩,⟨⟩⟩ - -
  refine j6 (n:=1000) Rl SG ?_;refine i7 (YF x0 x1) ?_;simp only [j7,Tree.holds,sL];have key:∀ r:Int×Int×Unit,zb (x0,x1,())=r->((r:DL [Ty.int .i64,Ty.int .i64])=EB.fn ((x0,x1,()),())):=by rintro r rfl; rfl
  refine ⟨λ a=>key _ ?_,λ a=>key _ ?_⟩
  . rw [zb,if_pos a]; rfl
  . rw [zb,if_neg a]; rfl
def j8 (w:d9) (p:Int):Bool:=I4 p 0 ((w.2.1.length:Int) - 1) && decide (U2 .u8 (w.1.2.1 / (2:Int)^min p.toNat IntKind.u8.bits) 1=1) && !(w.2.1.getD p.toNat g8).1
def zB:r9:={ ps:=[.rd I0,.v f7],rs:=[.bool],pre:=λ x=>List.length (α:=o5) (x.1:d9).2.1<=6,fn:=λ x=>(j8 x.1 x.2.1,()),out:=λ _=>() }
noncomputable def GY:Env:={ P:=Tryz.prog,tt:=tt,E3:=[(40,Aq)],res:=[Go.ResultVar.tmp 4],rs:=[Ty.bool],ps:=[PK.rd I0,PK.v f7],D5:=[],nt:=35 }
theorem PV:B8 GY:=C4 s7 ⟨Ga,trivial⟩
theorem Qo:D7 GY Tryz.f47:=⟨rfl,rfl⟩
theorem Wm (ai:Int) (af:Int) (ab:List o5) (ae:List yY) (aa:List yY) (x1:Int):exec GY 1000 [.code (d8 Tryz.prog 47)] (w9 zB.ps ((((ai,af,()),ab,ae,aa,()),x1,()))) =
  .f8 (w4 IntKind.i64 ((↑(List.length ab):Int) - (1:Int))) (.f8 (True) (cond (I4 x1 (0:Int) ((↑(List.length ab):Int) - (1:Int))) (.f8 ((0:Int)<=x1) (cond (decide (U2 IntKind.u8 (af / (2:Int)^min (Int.toNat x1) (IntKind.bits IntKind.u8)) (1:Int)=(1:Int))) (.f8 ((0:Int)<=x1/\x1<(↑(List.length ab):Int)) (.ret ((!Prod.fst (List.getD ab (Int.toNat x1) (false,[],((0:Int),[],()),((0:Int),[],()),((0:Int),[],()),())),())))) (.ret ((false,()))))) (.ret ((false,()))))):=by kernel_rfl
theorem Dq:zB.Valid Tryz.prog 47:=by
  refine r9.p7 PV rfl rfl Tryz.func47 (c:=d8 Tryz.prog 47) rfl rfl Qo rfl ?_;rintro ⟨⟨⟨(v0:Int),(v1:Int),⟨⟩⟩,(al:List o5),(od:List yY),(wy:List yY),⟨⟩⟩,(p:Int),⟨⟩⟩ (hp:al.length<=6) -
  refine j6 (n:=1000) PV Qo ?_;refine i7 (Wm v0 v1 al od wy p) ?_;simp only [j7,Tree.holds,sL];have key:∀ r:Bool,j8 ((v0,v1,()),al,od,wy,()) p=r->(((r,()):Bool×Unit)=(j8 ((v0,v1,()),al,od,wy,()) p,())):=by rintro r rfl; rfl
  refine ⟨⟨by omega,by omega⟩,λ _=>⟨λ a=>⟨(N5.1 a).1,λ _=>⟨λ b=>⟨⟨(N5.1 a).1,by have:=(N5.1 a).2; show p<(al.length:Int); omega⟩,λ _=>key _ ?_⟩,λ b=>key _ ?_⟩⟩,λ a=>key _ ?_⟩⟩
  . show (I4 p 0 ((al.length:Int) - 1) && _ && _)=_;rw [a,aFo];exact congrArg (· && _) (decide_eq_true b)
  . show (I4 p 0 ((al.length:Int) - 1) && decide _ && _)=_;rw [a,aFo,decide_eq_false b]; rfl
  . show (I4 p 0 ((al.length:Int) - 1) && _ && _)=_;rw [a]; rfl
def known (w:d9) (p:Int):Int:=if I4 p 0 ((w.2.1.length:Int) - 1)=true then 0 else 1
def zM:r9:={ ps:=[.rd I0,.v f7],rs:=[f7],pre:=λ x=>List.length (α:=o5) (x.1:d9).2.1<=6,fn:=λ x=>(known x.1 x.2.1,()),out:=λ _=>() }
noncomputable def Jv:Env:={ P:=Tryz.prog,tt:=tt,E3:=[(40,Aq)],res:=[Go.ResultVar.tmp 4],rs:=[Ty.int IntKind.i64],ps:=[PK.rd I0,PK.v f7],D5:=[],nt:=14 }
theorem Tr:B8 Jv:=C4 s7 ⟨Ga,trivial⟩
theorem TB:D7 Jv Tryz.f49:=⟨rfl,rfl⟩
theorem Zl (ai:Int) (af:Int) (ab:List o5) (ae:List yY) (aa:List yY) (x1:Int):exec Jv 1000 [.code (d8 Tryz.prog 49)] (w9 zM.ps ((((ai,af,()),ab,ae,aa,()),x1,()))) =
  .f8 (w4 IntKind.i64 ((↑(List.length ab):Int) - (1:Int))) (.f8 (True) (cond (!I4 x1 (0:Int) ((↑(List.length ab):Int) - (1:Int))) (.ret (((1:Int),()))) (.ret (((0:Int),()))))):=by kernel_rfl
theorem Dv:zM.Valid Tryz.prog 49:=by
  refine r9.p7 Tr rfl rfl Tryz.func49 (c:=d8 Tryz.prog 49) rfl rfl TB rfl ?_;rintro ⟨⟨⟨(v0:Int),(v1:Int),⟨⟩⟩,(al:List o5),(od:List yY),(wy:List yY),⟨⟩⟩,(p:Int),⟨⟩⟩ (hp:al.length<=6) -
  refine j6 (n:=1000) Tr TB ?_;refine i7 (Zl v0 v1 al od wy p) ?_;simp only [j7,Tree.holds,sL];have key:∀ r:Int,known ((v0,v1,()),al,od,wy,()) p=r->(((r,()):Int×Unit)=(known ((v0,v1,()),al,od,wy,()) p,())):=by rintro r rfl; rfl
  refine ⟨⟨by omega,by omega⟩,λ _=>⟨λ a=>key _ ?_,λ a=>key _ ?_⟩⟩
  . exact if_neg (by simpa using a)
  . exact if_pos (by simpa using a)
def K1 (w:d9) (p:Int):Int:=if known w p≠0 then known w p else if j8 w p=true then 0 else 11
def En:r9:={ ps:=[.rd I0,.v f7],rs:=[f7],pre:=λ x=>List.length (α:=o5) (x.1:d9).2.1<=6,fn:=λ x=>(K1 x.1 x.2.1,()),out:=λ _=>() }
noncomputable def IK:Env:={ P:=Tryz.prog,tt:=tt,E3:=[(49,zM),(47,zB)],res:=[Go.ResultVar.tmp 4],rs:=[Ty.int IntKind.i64],ps:=[PK.rd I0,PK.v f7],D5:=[],nt:=16 }
theorem Ru:B8 IK:=C4 s7 ⟨Dv,Dq,trivial⟩
theorem Sf:D7 IK Tryz.f41:=⟨rfl,rfl⟩
theorem YQ (ai:Int) (af:Int) (ab:List o5) (ae:List yY) (aa:List yY) (x1:Int):exec IK 1000 [.code (d8 Tryz.prog 41)] (w9 En.ps ((((ai,af,()),ab,ae,aa,()),x1,()))) =
  .f8 (List.length ab<=6) (cond (decide (known ((ai,af,()),ab,ae,aa,()) x1≠(0:Int))) (.ret ((known ((ai,af,()),ab,ae,aa,()) x1,()))) (.f8 (List.length ab<=6) (cond (!j8 ((ai,af,()),ab,ae,aa,()) x1) (.ret (((11:Int),()))) (.ret (((0:Int),())))))):=by kernel_rfl
theorem Ui:En.Valid Tryz.prog 41:=by
  refine r9.p7 Ru rfl rfl Tryz.func41 (c:=d8 Tryz.prog 41) rfl rfl Sf rfl ?_;rintro ⟨⟨⟨(v0:Int),(v1:Int),⟨⟩⟩,(al:List o5),(od:List yY),(wy:List yY),⟨⟩⟩,(p:Int),⟨⟩⟩ (hp:al.length<=6) -
  refine j6 (n:=1000) Ru Sf ?_;refine i7 (YQ v0 v1 al od wy p) ?_;simp only [j7,Tree.holds,sL];have key:∀ r:Int,K1 ((v0,v1,()),al,od,wy,()) p=r->(((r,()):Int×Unit)=(K1 ((v0,v1,()),al,od,wy,()) p,())):=by rintro r rfl; rfl
  refine ⟨hp,λ _=>⟨λ a=>key _ ?_,λ a=>⟨hp,λ _=>⟨λ b=>key _ ?_,λ b=>key _ ?_⟩⟩⟩⟩
  . exact if_pos a
  . rw [K1,if_neg (by simpa using a),if_neg (by simpa using b)]
  . rw [K1,if_neg (by simpa using a),if_pos (by simpa using b)]
def r7 (w:d9):Int:=(zb w.1).1
def Ah:r9:={ ps:=[.rd I0],rs:=[f7],pre:=λ _=>True,fn:=λ x=>(r7 x.1,()),out:=λ _=>() }
noncomputable def Hc:Env:={ P:=Tryz.prog,tt:=tt,E3:=[(61,EB)],res:=[Go.ResultVar.tmp 2],rs:=[Ty.int IntKind.i64],ps:=[PK.rd I0],D5:=[],nt:=14 }
theorem QD:B8 Hc:=C4 s7 ⟨b69,trivial⟩
theorem Qs:D7 Hc Tryz.f44:=⟨rfl,rfl⟩
theorem Wq (ai:Int) (af:Int) (ab:List o5) (ae:List yY) (aa:List yY):exec Hc 1000 [.code (d8 Tryz.prog 44)] (w9 Ah.ps ((((ai,af,()),ab,ae,aa,()),()))) =
  .f8 (True) (.ret ((Prod.fst (zb (ai,af,())),()))):=by kernel_rfl
theorem Gb:Ah.Valid Tryz.prog 44:=by
  refine r9.p7 QD rfl rfl Tryz.func44 (c:=d8 Tryz.prog 44) rfl rfl Qs rfl ?_;rintro ⟨⟨⟨(v0:Int),(v1:Int),⟨⟩⟩,(al:List o5),(od:List yY),(wy:List yY),⟨⟩⟩,⟨⟩⟩ - -
  refine j6 (n:=1000) QD Qs ?_;refine i7 (Wq v0 v1 al od wy) ?_;exact ⟨trivial,λ _=>rfl⟩
def M7 (w:d9) (k f t s:Int) (x:yY):d9 :=
  let r:=V4 (k,f,t,w.1.1,s,[0,0,0,0,0,0],x,())
  if r.2.1=0/\(w.2.2.2.1.length:Int)<60 then (w.1,w.2.1,w.2.2.1,w.2.2.2.1++[r.1],()) else w
theorem CY {w:d9} {k f t s:Int} {x:yY} (h:(V4 (k,f,t,w.1.1,s,[0,0,0,0,0,0],x,())).2.1=0) (h2:(w.2.2.2.1.length:Int)<60) :
    M7 w k f t s x=(w.1,w.2.1,w.2.2.1,w.2.2.2.1++[(V4 (k,f,t,w.1.1,s,[0,0,0,0,0,0],x,())).1],()):=by
  unfold M7; exact if_pos ⟨h,h2⟩
theorem CX {w:d9} {k f t s:Int} {x:yY} (h:¬ ((V4 (k,f,t,w.1.1,s,[0,0,0,0,0,0],x,())).2.1=0/\(w.2.2.2.1.length:Int)<60)) :
    M7 w k f t s x=w:=by
  unfold M7; exact if_neg h
def Au:r9:={ ps:=[.rw s9,.v f7,.v f7,.v f7,.v f7,.v .str],rs:=[],pre:=λ _=>True,fn:=λ _=>(),out:=λ x=>(M7 x.1 x.2.1 x.2.2.1 x.2.2.2.1 x.2.2.2.2.1 x.2.2.2.2.2.1,()) }
noncomputable def II:Env:={ P:=Tryz.prog,tt:=tt,E3:=[(60,HB)],res:=[],rs:=[],ps:=[PK.rw s9,PK.v f7,PK.v f7,PK.v f7,PK.v f7,PK.v Ty.str],D5:=[],nt:=49 }
theorem Rr:B8 II:=C4 s7 ⟨b87,trivial⟩
theorem Sd:D7 II Tryz.f43:=⟨rfl,rfl⟩
theorem YN (ai:Int) (af:Int) (ab:List o5) (ae:List yY) (aa:List yY) (x1:Int) (x2:Int) (x3:Int) (x4:Int) (x5:yY):exec II 1000 [.code (d8 Tryz.prog 43)] (w9 Au.ps ((((ai,af,()),ab,ae,aa,()),x1,x2,x3,x4,x5,()))) =
  .f8 (True) (cond (decide (Prod.fst (V4 (x1,x2,x3,ai,x4,[(0:Int),(0:Int),(0:Int),(0:Int),(0:Int),(0:Int)],x5,())).2=(0:Int))) (cond (decide ((↑(List.length aa):Int)<(60:Int))) (.f8 (True/\True/\[]++[Step.m0 3]=[]++[Step.m0 3]/\List.length aa+List.length (List.set [[]] (Int.toNat (↑0:Int)) (V4 (x1,x2,x3,ai,x4,[(0:Int),(0:Int),(0:Int),(0:Int),(0:Int),(0:Int)],x5,())).1)<=140737488355328/\(List.length aa+List.length (List.set [[]] (Int.toNat (↑0:Int)) (V4 (x1,x2,x3,ai,x4,[(0:Int),(0:Int),(0:Int),(0:Int),(0:Int),(0:Int)],x5,())).1))*Ty.wb Ty.str<=140737488355328) (.ret ((((ai,af,()),ab,ae,aa++List.set [[]] (Int.toNat (↑0:Int)) (V4 (x1,x2,x3,ai,x4,[(0:Int),(0:Int),(0:Int),(0:Int),(0:Int),(0:Int)],x5,())).1,()),())))) (.ret ((((ai,af,()),ab,ae,aa,()),())))) (.ret ((((ai,af,()),ab,ae,aa,()),())))):=by kernel_rfl
attribute [local irreducible] V4 M7 in
theorem Gf:Au.Valid Tryz.prog 43:=by
  refine r9.p7 Rr rfl rfl Tryz.func43 (c:=d8 Tryz.prog 43) rfl rfl Sd rfl ?_;rintro ⟨⟨⟨(v0:Int),(v1:Int),⟨⟩⟩,(al:List o5),(od:List yY),(wy:List yY),⟨⟩⟩,(k:Int),(f:Int),(t:Int),(s:Int),(x:yY),⟨⟩⟩ - -
  refine j6 (n:=1000) Rr Sd ?_;refine i7 (YN v0 v1 al od wy k f t s x) ?_;simp only [j7,Tree.holds,sL];have key:∀ r:d9,M7 ((v0,v1,()),al,od,wy,()) k f t s x=r->(((r,()):d9×Unit)=(M7 ((v0,v1,()),al,od,wy,()) k f t s x,())):=by rintro r rfl; rfl
  refine ⟨λ a=>⟨λ b=>⟨?_,λ _=>key _ ?_⟩,λ b=>key _ ?_⟩,λ a=>key _ ?_⟩
  . have b':wy.length<60:=by exact_mod_cast b
    refine ⟨?_,?_⟩
    . show wy.length+1<=140737488355328; omega
    . show (wy.length+1)*16<=140737488355328; omega
  . exact CY a b
  . exact CX (λ h=>b h.2)
  . exact CX (λ h=>a h.1)
def wA (w:d9) (p:Int):d9×Int :=
  if known w p≠0 then (w,known w p) else ((w.1,w.2.1.set p.toNat (true,(w.2.1.getD p.toNat g8).2),w.2.2),0)
def Hp:r9:={ ps:=[.rw s9,.v f7],rs:=[f7],pre:=λ x=>List.length (α:=o5) (x.1:d9).2.1<=6,fn:=λ x=>((wA x.1 x.2.1).2,()),out:=λ x=>((wA x.1 x.2.1).1,()) }
noncomputable def Iq:Env:={ P:=Tryz.prog,tt:=tt,E3:=[(49,zM)],res:=[Go.ResultVar.tmp 4],rs:=[Ty.int IntKind.i64],ps:=[PK.rw s9,PK.v f7],D5:=[],nt:=19 }
theorem Ro:B8 Iq:=C4 s7 ⟨Dv,trivial⟩
theorem Sa:D7 Iq Tryz.f37:=⟨rfl,rfl⟩
theorem YJ (ai:Int) (af:Int) (ab:List o5) (ae:List yY) (aa:List yY) (x1:Int):exec Iq 1000 [.code (d8 Tryz.prog 37)] (w9 Hp.ps ((((ai,af,()),ab,ae,aa,()),x1,()))) =
  .f8 (List.length ab<=6) (cond (decide (known ((ai,af,()),ab,ae,aa,()) x1≠(0:Int))) (.ret ((known ((ai,af,()),ab,ae,aa,()) x1,((ai,af,()),ab,ae,aa,()),()))) (.f8 ((0:Int)<=x1/\x1<(↑(List.length ab):Int)) (.ret (((0:Int),((ai,af,()),List.set ab (Int.toNat x1) (true,Prod.snd (List.getD ab (Int.toNat x1) (false,[],((0:Int),[],()),((0:Int),[],()),((0:Int),[],()),()))),ae,aa,()),()))))):=by kernel_rfl
theorem b9n:Hp.Valid Tryz.prog 37:=by
  refine r9.p7 Ro rfl rfl Tryz.func37 (c:=d8 Tryz.prog 37) rfl rfl Sa rfl ?_;rintro ⟨⟨⟨(v0:Int),(v1:Int),⟨⟩⟩,(al:List o5),(od:List yY),(wy:List yY),⟨⟩⟩,(p:Int),⟨⟩⟩ (hp:al.length<=6) -
  refine j6 (n:=1000) Ro Sa ?_;refine i7 (YJ v0 v1 al od wy p) ?_;simp only [j7,Tree.holds,sL];have key:∀ r:d9×Int,wA ((v0,v1,()),al,od,wy,()) p=r->(((r.2,r.1,()):Int×d9×Unit)=((wA ((v0,v1,()),al,od,wy,()) p).2,(wA ((v0,v1,()),al,od,wy,()) p).1,())):=by rintro r rfl; rfl
  have dy:¬ known ((v0,v1,()),al,od,wy,()) p≠0->0<=p/\p<(al.length:Int):=by
    intro a;unfold known at a;split at a
    . rename_i hb;have:=N5.1 hb;simp only at this; omega
    . exact absurd (by decide) a
  refine ⟨hp,λ _=>⟨λ a=>key (_,_) ?_,λ a=>⟨dy a,λ _=>key (_,_) ?_⟩⟩⟩
  . rw [wA,if_pos a]; rfl
  . rw [wA,if_neg a]; rfl
def ttW:List (TypeId×TI):=(78,TI.mk T1 32)::(83,TI.mk ToT 32)::tt
theorem Oj:ttW.all (yc Tryz.prog)=true:=by kernel_rfl
def Nc:r9:={ ps:=[.v T1,.v .str],rs:=[T1,f7],new:=true,pre:=Hx.pre,fn:=λ x=>L9 x.1 x.2.1,out:=λ _=>() }
theorem c2a:Nc.Valid Tryz.prog 42:=b9c.share (rs':=[T1,f7]) rfl rfl rfl
def NV:r9:={ ps:=[.v T1,.v f7],rs:=[T1,f7],new:=true,pre:=JG.pre,fn:=λ x=>T7 x.1 x.2.1,out:=λ _=>() }
theorem b67:NV.Valid Tryz.prog 86:=b5E.share (rs':=[T1,f7]) rfl rfl rfl
def HU:r9:={ ps:=[.v ToT,.v o7],rs:=[ToT,.d0 true .str,f7],new:=true,pre:=IZ.pre,fn:=λ x=>E6 x.1 x.2.1,out:=λ _=>() }
theorem Uh:HU.Valid Tryz.prog 83:=b6Z.share (rs':=[ToT,.d0 true .str,f7]) rfl rfl rfl
end Go.Proofs.YtijlnmgondibnaaGreatDoor
