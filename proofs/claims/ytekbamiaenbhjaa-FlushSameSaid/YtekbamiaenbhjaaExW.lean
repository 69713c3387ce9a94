import Derived.Test.YtekbamiaenbhjaaExK9
import Derived.JoinedCond

namespace Go.Ex
open Go.ChangeShapes Go.WideShapes Go.ChangeAt Go.RowKit

section
variable {P:Program} {X:Type} {enc:TypeId×Value→X} {W W':World} {sp:Nat→Bool} {held:Bool}

theorem b1x {k:Nat} {T:TypeId} {t:Ty} (hT:n7 P k T t=true) {r:Go.Reach} {base:Nat} {v:Value} (h:Value.okWide P W r base T v):v=j7 t v.cells.toList:=by
 obtain ⟨d,hd,hag⟩:=I7 hT
 unfold Value.okWide at h
 rw [hd] at h
 cases t with
 | int q =>
  have hu:=S8 hT
  rw [hd] at hu; cases hu
  simp only [Cell.okWide,hd,Cell.ok] at h
  cases v<;>simp_all [j7,Ty.agg,Value.cells]
 | bool =>
  have hu:=a0s hT
  rw [hd] at hu; cases hu
  simp only [Cell.okWide,hd,Cell.ok] at h
  cases v<;>simp_all [j7,Ty.agg,Value.cells]
 | str =>
  have hu:=L3 hT
  rw [hd] at hu; cases hu
  simp only [Cell.okWide,hd,Cell.ok] at h
  cases v<;>simp_all [j7,Ty.agg,Value.cells]
 | fn f =>
  obtain ⟨_,_,_,hu⟩:=b1N hT
  rw [hd] at hu; cases hu
  simp only [Cell.okWide,hd,Cell.ok] at h
  cases v<;>simp_all [j7,Ty.agg,Value.cells]
 | map o a b =>
  obtain ⟨_,_,_,hu,_⟩:=a51 hT
  rw [hd] at hu; cases hu
  simp only [Cell.okWide,hd,Cell.ok] at h
  cases v<;>simp_all [j7,Ty.agg,Value.cells]
 | box o g a =>
  cases g with
  | none =>
   obtain ⟨_,_,hu,_⟩:=a9l hT
   rw [hd] at hu; cases hu
   simp only [Cell.okWide,hd,Cell.ok] at h
   cases v<;>simp_all [j7,Ty.agg,Value.cells]
  | some f =>
   obtain ⟨_,_,_,hu⟩:=a76 hT
   rw [hd] at hu; cases hu
   simp only [Cell.okWide,hd,Cell.ok] at h
   cases v<;>simp_all [j7,Ty.agg,Value.cells]
 | d0 o u =>
  obtain ⟨e,_,hu,_⟩:=B3 hT
  rw [hd] at hu; cases hu
  simp only [Cell.okWide,hd,Cell.ok] at h
  cases v<;>simp_all [j7,Ty.agg,Value.cells]
 | hole u =>
  obtain ⟨e,hu⟩:=a75 hT
  rw [hd] at hu; cases hu
  simp only [Cell.okWide,hd,Cell.ok] at h
  cases v<;>simp_all [j7,Ty.agg,Value.cells]
 | r7 u =>
  obtain ⟨e,hu⟩:=a9k hT
  rw [hd] at hu; cases hu
  simp only [Cell.okWide,hd,Cell.ok] at h
  cases v<;>simp_all [j7,Ty.agg,Value.cells]
 | _ =>
  cases d<;>first|(exact (Bool.false_ne_true hag.symm).elim)|skip
  all_goals
   obtain ⟨cs,rfl,_⟩:=h
   simp [j7,Ty.agg,Value.cells]

def a3u (P:Program):List TypeId→List Ty→Bool
 | [],[]=>true
 | T::ts,t::us=>n7 P 100 T t && t.flat && P.readableRec T && decide (T<P.types.size) && a3u P ts us
 | _,_=>false

def a9g:(us:List Ty)→DK (us.map .v)→Nat
 | [],_=>0
 | t::us,x=>t.R2 x.1+a9g us x.2

theorem a65:∀ {ts:List TypeId} {us:List Ty},a3u P ts us=true→∀ {vs:List Value} {ds:List (DataW X)} {ps:List MemPlace} {base:Nat} {r:Go.Reach},DataW.TrodAll enc P W 0 sp held ts vs ds ps →
  (∀ (j:Nat) T v,ts[j]?=some T→vs[j]?=some v→Value.okWide P W r base T v)→∃ x:DK (us.map .v),I6 W.heap (fun b=>b<W.heap.size) (us.map .v) vs x []∧ds.length=ts.length∧a9g us x≤V9 ds
 | [],[],_,vs,ds,ps,base,r,h,_=>by
  obtain ⟨rfl,rfl,rfl⟩:=trodAll_nil h
  exact ⟨(),⟨rfl,rfl⟩,rfl,Nat.le_refl _⟩
 | [],_::_,h,_,_,_,_,_,_,_=>by cases h
 | _::_,[],h,_,_,_,_,_,_,_=>by cases h
 | T::ts,t::us,hty,vs,ds,ps,base,r,h,hok=>by
  simp only [a3u,Bool.and_eq_true] at hty
  obtain ⟨⟨⟨⟨h1,h2⟩,_⟩,_⟩,h5⟩:=hty
  obtain ⟨v,vs',d,ds',p,q,rfl,rfl,rfl,⟨fuel,hv⟩,hr⟩:=trodAll_cons h
  obtain ⟨y,hy,hb⟩:=(a6N t h2).1 h1 hv
  obtain ⟨x,hx,hl,hb2⟩:=a65 h5 hr (fun j T v hT hv=>hok (j+1) T v (by simpa using hT) (by simpa using hv))
  exact ⟨(y,x),⟨v,vs',[],[],rfl,rfl,⟨rfl,_,b1x h1 (hok 0 T v rfl rfl),hy⟩,hx⟩,by simp [hl],by simp only [a9g,V9]; exact Nat.add_le_add hb hb2⟩

theorem a4e (hl:laidOutB P=true) (hb:Below W.heap.size W W'):∀ {ts:List TypeId} {us:List Ty},a3u P ts us=true→∀ {vs:List Value} {ds:List (DataW X)} {ps:List MemPlace},DataW.TrodAll enc P W 0 (fun _=>true) true ts vs ds ps →
  (∀ p∈ps,p.block<W.heap.size)→(∀ p∈ps,sp p.block=true)→DataW.TrodAll enc P W' 0 sp true ts vs ds ps
 | [],[],_,vs,ds,ps,h,_,_=>by
  obtain ⟨rfl,rfl,rfl⟩:=trodAll_nil h
  rfl
 | [],_::_,h,_,_,_,_,_,_=>by cases h
 | _::_,[],h,_,_,_,_,_,_=>by cases h
 | T::ts,t::us,hty,vs,ds,ps,h,hlt,hsp=>by
  simp only [a3u,Bool.and_eq_true] at hty
  obtain ⟨⟨⟨⟨_,_⟩,h3⟩,h4⟩,h5⟩:=hty
  obtain ⟨v,vs',d,ds',p,q,rfl,rfl,rfl,hv,hr⟩:=trodAll_cons h
  refine trodAll_cons_mk (WideElems.Trod_stays hl h3 (of_decide_eq_true h4) hv (fun x hx=>hb.same (hlt x (by simp [hx]))) (fun x hx=>hsp x (by simp [hx]))) ?_
  exact a4e hl hb h5 hr (fun x hx=>hlt x (by simp [hx])) (fun x hx=>hsp x (by simp [hx]))

def b5L (us:List Ty) (pre:DK (us.map .v)→Prop):D4:={ ps:=us.map .v,rs:=[.bool],pre:=pre,fn:=fun _=>(true,()),out:=fun _=>b6u us }
where b6u:(us:List Ty)→DL (u6 (us.map .v))
 | []=>()
 | _::us=>b6u us

theorem b2e:∀ us:List Ty,(us.map PK.v).any PK.lnk=false
 | []=>rfl
 | _::us=>b2e us

theorem b4C {C:Checked} {f:FuncId} {fn:Func} {s:ChangeSpec} {apart fresh handsOn again:Bool} {us:List Ty} {tb:TypeId} {pre:DK (us.map .v)→Prop}
  (hl:laidOutB C.prog=true) (hty:a3u C.prog fn.params.toList us=true) (hvars:s.vars=[]) (hs:∀ ds:List (DataW X),ds.length=fn.params.toList.length→s.fn X ds={ results:=[.lit (.bool true)],args:=ds })
  (hres:fn.resultTypes=#[tb]) (htb:C.prog.underlying tb=some .bool) (hv:(b5L us pre).Valid C.prog f)
  {W:World} (hgl:Z4 C.prog W (fun b=>b<W.heap.size)) {base:Nat} {args:Array Value} {ds gs:List (DataW X)} {before:List MemPlace} {rr:Go.Reach} (hpre:∀ x,a9g us x≤V9 ds→pre x)
  (hval:∀ (j:Nat) t v,fn.params[j]?=some t→args[j]?=some v→Value.okWide C.prog W rr base t v) (hW:DataW.Whole enc C.prog fn.params.toList s.vars apart W args.toList ds gs before) :
  Calls C.prog f args W fun e W'=>∃ v,e=.returned v∧s.post enc C.prog fn apart fresh handsOn again W args v W':=by
 have hlt:=DataW.Whole.lt hW
 have hW':=hW
 obtain ⟨p,q,hA,hV,rfl,hz,hn⟩:=hW
 rw [hvars] at hV
 obtain ⟨rfl,rfl⟩:=trodVars_none hV
 simp only [List.append_nil] at hlt hz hn hW'
 obtain ⟨x,hx,hlen,hbk⟩:=a65 hty hA (fun j T v hT hv=>hval j T v (by simpa using hT) (by simpa using hv))
 have hc:=hv.run W (fun b=>b<W.heap.size) args.toList x [] (fun _ h=>h) hgl (hpre x hbk) hx (a0a (b2e us)) List.nodup_nil (by simp)
 refine Calls.mono (by simpa using hc) ?_
 rintro e w' ⟨us',O,Lo,S',rfl,hpast,_,_,⟨v,us2,O1,O2,cs,rfl,rfl,rfl,hR,hR2⟩,_,_,_⟩
 have hb:RowKit.Below W.heap.size W w':=⟨hpast.os,hpast.tape.1,hpast.out,hpast.size,fun k hk=>hpast.frame k hk (by simp)⟩
 obtain ⟨rfl,rfl⟩:=hR2
 obtain ⟨_,rfl⟩:=hR
 have hret:a18 [j7 .bool [.bool ((b5L us pre).fn x).1]]=.bool true:=rfl
 rw [hret]
 have hfn':=hs ds hlen
 have hargs:∀ sp:Nat→Bool,(∀ x∈p,sp x.block=true)→DataW.TrodAll enc C.prog w' 0 sp true fn.params.toList args.toList ds p:=fun sp hsp=>a4e hl hb hty hA hlt hsp
 have hrs:∀ (b:Nat) (sp:Nat→Bool) (hd:Bool),DataW.TrodAll enc C.prog w' b sp hd fn.resultTypes.toList ((Value.bool true).resultList fn.resultTypes.size) [.lit (.bool true)] []:=by
  intro b sp hd
  rw [hres]
  exact trodAll_cons_mk (shut_bool htb _) trodAll_mk0
 have hvs:∀ sp:Nat→Bool,DataW.TrodVars enc C.prog w' sp s.vars [] []:=by intro sp; rw [hvars]; rfl
 have hold:∀ x∈p,(fun b=>decide (b<W.heap.size)) x.block=true:=fun x hx=>by simpa using hlt x hx
 refine ⟨_,rfl,ds,[],p,[],p,[],hW',?_,?_,?_,?_,?_⟩
 ·rw [List.append_nil,hfn']; exact hrs _ _ _
 ·rw [List.append_nil,hfn']; exact hargs _ hold
 ·rw [List.append_nil,hfn']; exact hvs _
 ·exact hb.frame _
 ·intro _
  refine ⟨ok_one hres rfl (okWide_bool_mk htb _),.lit (.bool true)::ds,[],p,⟨[]++p,[],trodAll_append (hargs _ (fun _ _=>rfl)) (hrs _ _ _),hvs _,by simp,?_,?_⟩,fun x hx _=>by simpa using hx⟩
  ·intro b off hp
   rw [hb.frozen (hlt _ hp)]
   exact hz b off hp
  ·exact hn

theorem b4B {C:Checked} {os:Os} {f:FuncId} {fn:Func} {s:ChangeSpec} {conds:List PathCond} {apart fresh handsOn again:Bool} {us:List Ty} {tb:TypeId} {a:Assume}
  (own:ownKnob C.prog.godebug=none) (started:os.Started) (noInit:C.prog.inits.idxOf? f=none) (hfn:C.prog.funcs[f]?=some fn)
  (witness:∃ (w:World) (tape:Tape) (i:Input),w.os=os∧(w.forCall tape i).Shaped C.prog∧i.vars=[]∧Input.okWide C.prog (w.forCall tape i) .any w.heap.size f i ∧
   s.pre6 enc C.prog fn conds apart (w.forCall tape i).memory i.args∧a.holds C.prog (lone (Frame.enter C.prog f i.args .normal) [] (w.forCall tape i)))
  (hl:laidOutB C.prog=true) (hty:a3u C.prog fn.params.toList us=true) (hvars:s.vars=[]) (hs:∀ ds:List (DataW X),ds.length=fn.params.toList.length→s.fn X ds={ results:=[.lit (.bool true)],args:=ds })
  (hres:fn.resultTypes=#[tb]) (htb:C.prog.underlying tb=some .bool) (hv:(b5L us (fun _=>True)).Valid C.prog f) (hno:(a9O.all fun x=>(C.prog.globalNamed x.1).isNone)=true:=by kernel_rfl) :
  ReturnsInHanded a C os f .any (s.pre6 enc C.prog fn conds apart) (s.post enc C.prog fn apart fresh handsOn again):=by
 refine returnsInHanded_of_change own started noInit hfn witness ?_
 intro W base args ds gs before hval hW _ _
 exact b4C hl hty hvars hs hres htb hv (Z4.none hno) (fun _ _=>trivial) hval hW

end
end Go.Ex
