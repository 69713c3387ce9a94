/- Laws over rows that list package-level variables: from the row's condition to what the contracts ask of the world. -/
import Derived.Test.YtgmbfnlhmnpciaaDoorTys
import Derived.Test.YtgmbfnlhmnpciaaDoorRows
import Derived.Lib.LaidU8
import Derived.LaidMore
import Derived.LaidSub
import Derived.Shelf.Vars
import Derived.JoinedCond
namespace Go.Proofs.YtgmbfnlhmnpciaaDoor
open Go.Ex Go.ChangeShapes Go.WideShapes Go.ChangeAt Go.RowKit
set_option maxRecDepth 100000

theorem law_laidU {X:Type} {enc:TypeId×Value→X} {C:Checked} {os:Os} {f:FuncId} {fn:Func} {s:OpenSpec} {k:(H:Type)→List (DataW H)→Bool} (hk:s.cond=some k) {F:Stop.Interp} {conds:List PathCond} {apart fresh handsOn again:Bool} {us:List Ty} {tb:TypeId} {a:Assume} {Y:World→Array Value→Prop}
    (hX:∀ (w w':World) (args:Array Value),w.heap=w'.heap→Y w args→Y w' args)
    (own:ownKnob C.prog.godebug=none) (started:os.Started) (noInit:C.prog.inits.idxOf? f=none) (hfn:C.prog.funcs[f]?=some fn)
    (witness:∃ (w:World) (tape:Tape) (i:Input),w.os=os∧(w.forCall tape i).Shaped C.prog∧i.vars=[]∧Input.okWide C.prog (w.forCall tape i) .any w.heap.size f i ∧
      ((s.pre enc C.prog fn conds apart (w.forCall tape i).memory i.args∧Y (w.forCall tape i).memory i.args)∧sizedMet enc C.prog fn s apart (w.forCall tape i).memory i.args)∧a.holds C.prog (lone (Frame.enter C.prog f i.args .normal) [] (w.forCall tape i)))
    (hkb:∀ ds:List (DataW X),k X ds=true→bulkWAll ds≤1048576)
    (hl:laidOutB C.prog=true) (hty:tysOk C.prog fn.params.toList us=true) (hvars:s.vars=[]) (hs:∀ ds:List (DataW X),ds.length=fn.params.toList.length→s.fn F X ds={ results:=[.lit (.bool true)],args:=ds })
    (hres:fn.resultTypes=#[tb]) (htb:C.prog.underlying tb=some .bool) (hv:(smallC us).Valid C.prog f) (hgl:∀ W args,W.ShapedOpen C.prog→Y W args→GlOk C.prog W (fun b=>b<W.heap.size)) :
    ReturnsInHanded a C os f .any (fun w args=>(s.pre enc C.prog fn conds apart w args∧Y w args)∧sizedMet enc C.prog fn s apart w args) ((s.at F).post enc C.prog fn apart fresh handsOn again):=by
  refine returnsInHanded_of_calls own started noInit witness ?_
  intro w tape i _ hsh _ hok hpre hholds
  obtain ⟨_,_,_,fn',hfn',_,_,_,_,hval⟩:=hok
  have e:fn'=fn:=Option.some.inj (hfn'.symm.trans hfn)
  subst e
  obtain ⟨⟨hp0,hx⟩,hz⟩:=hpre
  obtain ⟨ds,gs,before,hw,hc,hkk⟩:=(OpenSpec.pre_some hk conds apart _ _).1 hp0
  have hw':=DataW.Whole.of_heap (w':=w.forCall tape i) (by rfl) hw
  have hg:gs=[]:=by
    obtain ⟨p,q,hA,hV,_⟩:=hw
    rw [hvars] at hV
    exact (trodVars_none hV).1
  subst hg
  rw [List.append_nil] at hkk
  refine (law_calls (s:=s.at F) (apart:=apart) (fresh:=fresh) (handsOn:=handsOn) (again:=again) hl hty hvars hs hres htb hv (hgl _ _ hsh (hX _ _ _ (by rfl) hx)) (fun x hx=>Nat.le_trans hx (hkb ds hkk)) hval hw').mono fun e W' ⟨v,he,hp⟩=>?_
  subst he
  exact ChangeSpec.post_blind hp

theorem var_lt {P:Program} {W:World} {n:String} {g:Nat} {cs:Array Value} (hg:P.globalNamed n=some g) (h:W.var? P n=some cs):g<W.heap.size:=by
  unfold World.var? at h
  rw [hg,Option.bind_some] at h
  by_cases hlt:g<W.heap.size
  · exact hlt
  · rw [Array.getElem?_eq_none (by omega)] at h
    cases h

theorem cell_var {P:Program} {W:World} {n:String} {g:Nat} {v:Value} (hg:P.globalNamed n=some g) (h:W.cell? ⟨g,0,none⟩=some v):∃ cs,W.var? P n=some cs∧cs[0]?=some v:=by
  unfold World.var?
  rw [hg,Option.bind_some]
  unfold World.cell? at h
  split at h
  · rename_i cs T fz hh
    exact ⟨cs,by rw [hh],h⟩
  · cases h

theorem laid_gl {l:List (String×DataW Unit)} {W:World} (hsh:W.ShapedOpen Tryd.prog) (hl:laidMetH Tryd.prog l W) (hf:(l.filter fun x=>x.2.handleName?.isSome)=[]) (hm:("internal/strconv.uint64pow10",Rows.laid_internal_strconv_uint64pow10)∈l) :
    GlOk Tryd.prog W (fun b=>b<W.heap.size):=by
  unfold laidMetH at hl
  rw [hf] at hl
  obtain ⟨g,t,cs,fuel,p,h1,h2,h3,h4⟩:=Lib.laidMet.reads hl hm
  intro x hx g' hg'
  simp only [glTabs,List.mem_cons,List.mem_nil_iff,or_false] at hx
  rcases hx with rfl|rfl
  · refine ⟨var_lt hg' h3,cs,h3,?_⟩
    obtain rfl:=Option.some.inj ((show Tryd.prog.globalNamed "internal/strconv.uint64pow10"=some 0 by kernel_rfl).symm.trans h1)
    obtain rfl:=Option.some.inj ((show (Tryd.prog.globals[0]?).map (·.type)=some 133 by kernel_rfl).symm.trans h2)
    have:=Lib.cells_of_tab (n:=20) (e:=114) (k:=.u64) (zs:=(List.range 20).map fun i=>((10^i:Nat):Int)) (by kernel_rfl) (by kernel_rfl) (by kernel_rfl) (by kernel_rfl) h4
    rw [← this]
  · obtain rfl:=Option.some.inj ((show Tryd.prog.globalNamed "internal/bytealg.MaxLen"=some 1 by kernel_rfl).symm.trans hg')
    obtain ⟨m,hm⟩:=cell_of_shapedOpen_int (g:=1) (t:=3) (zero:=#[.int .i64 0]) (k:=.i64) hsh (Nat.le_of_ble_eq_true (by kernel_rfl)) (by kernel_rfl) rfl (by kernel_rfl) (by kernel_rfl) (by kernel_rfl)
    obtain ⟨cs,k1,k2⟩:=cell_var (show Tryd.prog.globalNamed "internal/bytealg.MaxLen"=some 1 by kernel_rfl) hm
    exact ⟨var_lt (show Tryd.prog.globalNamed "internal/bytealg.MaxLen"=some 1 by kernel_rfl) k1,cs,k1,m,k2⟩
end Go.Proofs.YtgmbfnlhmnpciaaDoor
