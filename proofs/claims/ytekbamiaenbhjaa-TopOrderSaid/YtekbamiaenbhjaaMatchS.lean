/- match.search: its contract, by the number of nodes not yet seen. No condition but those named. -/
import Derived.Test.YtekbamiaenbhjaaPairA
namespace Go.Proofs.Ytekbamiaenbhjaa
open Go.Ex
set_option maxRecDepth 100000
abbrev s5:=Int×Int×Unit
abbrev t7:=List (List Bool)×List Int×List Bool×Unit
def I3 (g:t7) (b:Nat):t7:=(g.1,g.2.1,g.2.2.1.set b true,())
def b0m (g:t7) (b:Nat) (a:Int):t7:=(g.1,g.2.1.set b a,g.2.2.1,())
def O7 (rec:t7→Int→t7×Bool×Unit) (a:Int) (row:List Bool):Nat→Nat→t7→t7×Bool×Unit
  | 0,_,g=>(g,false,())
  | r+1,b,g =>
    if row.getD b false=false then O7 rec a row r (b+1) g else if g.2.2.1.getD b false=true then O7 rec a row r (b+1) g else
    if g.2.1.getD b 0<0 then (b0m (I3 g b) b a,true,()) else
    if (rec (I3 g b) (g.2.1.getD b 0)).2.1=true then (b0m (rec (I3 g b) (g.2.1.getD b 0)).1 b a,true,()) else O7 rec a row r (b+1) (rec (I3 g b) (g.2.1.getD b 0)).1
def E5:Nat→t7→Int→t7×Bool×Unit
  | 0,g,_=>(g,false,())
  | k+1,g,a=>O7 (E5 k) a (g.1.getD a.toNat []) (g.1.getD a.toNat []).length 0 g
def I8 (l:List Bool):Nat:=(l.filter (fun x=>!x)).length
structure S4 (g:t7):Prop where
  seen:g.2.2.1.length=g.2.1.length
  row:∀ a,a<g.1.length→(g.1.getD a []).length=g.2.1.length
  left:∀ b:Nat,0≤g.2.1.getD b 0→b<g.2.1.length→g.2.1.getD b 0<g.1.length
  few:g.1.length≤1000∧g.2.1.length≤1000
theorem a7G:∀ {l m:List Bool},m.length=l.length→(∀ b,l.getD b false=true→m.getD b false=true)→I8 m≤I8 l
  | [],[],_,_=>Nat.le_refl _
  | x::l,y::m,hl,h=>by
    have ih:=a7G (l:=l) (m:=m) (by simpa using hl) (fun b hb=>h (b+1) hb)
    have h0:x=true→y=true:=h 0
    simp only [I8] at ih ⊢
    cases x<;>cases y<;>simp at h0 ⊢<;>omega
  | [],_::_,h,_=>by simp at h
  | _::_,[],h,_=>by simp at h
theorem a42:∀ {l:List Bool} {b:Nat},b<l.length→l.getD b false=false→I8 (l.set b true)+1=I8 l
  | [],_,h,_=>by simp at h
  | x::l,0,_,h=>by
    have h:x=false:=h
    subst h
    simp [I8]
  | x::l,b+1,hb,h=>by
    have ih:=a42 (l:=l) (b:=b) (by simpa using hb) h
    simp only [I8,List.set_cons_succ] at ih ⊢
    cases x<;>simp<;>omega
structure Kept (g g':t7):Prop where
  ok:S4 g'
  may:g'.1=g.1
  len:g'.2.1.length=g.2.1.length
  seen:∀ b,g.2.2.1.getD b false=true→g'.2.2.1.getD b false=true
theorem Kept.refl {g:t7} (h:S4 g):Kept g g:=⟨h,rfl,rfl,fun _ h=>h⟩
theorem Kept.trans {g g' g'':t7} (h:Kept g g') (h':Kept g' g''):Kept g g'':=⟨h'.ok,h'.may.trans h.may,h'.len.trans h.len,fun b hb=>h'.seen b (h.seen b hb)⟩
theorem Kept.few {g g':t7} (h:S4 g) (k:Kept g g'):I8 g'.2.2.1≤I8 g.2.2.1:=a7G (by rw [k.ok.seen,h.seen,k.len]) k.seen
theorem S4.set {g:t7} (h:S4 g) {b:Nat} (hb:b<g.2.1.length):Kept g (I3 g b):=by
  refine ⟨⟨by show (g.2.2.1.set b true).length=_; rw [List.length_set]; exact h.seen,h.row,h.left,h.few⟩,rfl,rfl,fun c hc=>?_⟩
  show (g.2.2.1.set b true).getD c false=true
  rw [B8 (by rw [h.seen]; exact hb)]
  split
  · rfl
  · exact hc
theorem S4.put {g:t7} (h:S4 g) {b:Nat} (hb:b<g.2.1.length) {a:Int} (ha:a<g.1.length):Kept g (b0m g b a):=by
  refine ⟨⟨by show g.2.2.1.length=(g.2.1.set b a).length; rw [List.length_set]; exact h.seen,fun c hc=>by show _=(g.2.1.set b a).length; rw [List.length_set]; exact h.row c hc,fun c h0 hc=>?_,by show g.1.length≤1000∧(g.2.1.set b a).length≤1000; rw [List.length_set]; exact h.few⟩,rfl,by show (g.2.1.set b a).length=_; rw [List.length_set],fun c hc=>hc⟩
  have hc:c<(g.2.1.set b a).length:=hc
  rw [List.length_set] at hc
  have h0:0≤(g.2.1.set b a).getD c 0:=h0
  show (g.2.1.set b a).getD c 0<g.1.length
  rw [B8 hb] at h0 ⊢
  split
  · exact ha
  · rename_i e; rw [if_neg e] at h0; exact h.left c h0 hc
theorem a0I {rec:t7→Int→t7×Bool×Unit} (hrec:∀ (g:t7) (x:Int),S4 g→0≤x→x<g.1.length→Kept g (rec g x).1) {a:Int} {row:List Bool}:∀ {r b:Nat} {g:t7},S4 g→a<g.1.length→b+r≤g.2.1.length→Kept g (O7 rec a row r b g).1
  | 0,b,g,h,_,_=>Kept.refl h
  | r+1,b,g,h,ha,hb=>by
    rw [O7]
    split
    · exact a0I hrec h ha (by omega)
    split
    · exact a0I hrec h ha (by omega)
    have k1:=h.set (b:=b) (by omega)
    split
    · exact k1.trans (k1.ok.put (by rw [k1.len]; omega) ha)
    · rename_i hl
      have k2:=hrec (I3 g b) (g.2.1.getD b 0) k1.ok (by omega) (h.left b (by omega) (by omega))
      have k3:=k1.trans k2
      split
      · exact k3.trans (k3.ok.put (by rw [k3.len]; omega) (by rw [k3.may]; exact ha))
      · exact k3.trans (a0I hrec k3.ok (by rw [k3.may]; exact ha) (by rw [k3.len]; omega))
theorem S9:∀ {k:Nat} {g:t7} {a:Int},S4 g→0≤a→a<g.1.length→Kept g (E5 k g a).1
  | 0,g,a,h,_,_=>Kept.refl h
  | k+1,g,a,h,h0,ha=>by
    rw [E5]
    exact a0I (fun g x hg h1 h2=>S9 hg h1 h2) h ha (by rw [h.row a.toNat (by omega)]; omega)
def sK (k:Nat) (g:t7) (a:Int):Prop:=S4 g∧0≤a∧a<g.1.length∧I8 g.2.2.1<k
def bK (k:Nat) (g:t7) (a:Int):Bool:=(E5 k g a).2.1
def gK (k:Nat) (g:t7) (a:Int):t7:=(E5 k g a).1
def a1k (k:Nat):w9:={ ps:=[.rw b4k,.v i5],rs:=[.bool],pre:=fun x=>sK k x.1 x.2.1,fn:=fun x=>(bK k x.1 x.2.1,()),out:=fun x=>(gK k x.1 x.2.1,()) }
noncomputable def a7A (k:Nat):Env:={ P:=Try.prog,tt:=ttG,F2:=[(264,(a1k k))],res:=[Go.ResultVar.tmp 4],rs:=[Ty.bool],ps:=[PK.rw (Ty.pair (Ty.d0 false (Ty.d0 false Ty.bool)) (Ty.pair Is (Ty.pair (Ty.d0 true Ty.bool) Ty.unit))),PK.v i5],D8:=[(2,[(0,none),(1,none),(13,none),(14,none),(15,none)])],nt:=64 }
theorem a5S {k:Nat} (hk:(a1k k).Valid Try.prog 264):B6 (a7A k):=D0 b2S ⟨hk,trivial⟩
theorem a5M {k:Nat}:E3 (a7A k) Try.f264:=⟨rfl,rfl⟩
theorem c0t (k:Nat) (x0_1:List (List Bool)) (x0_2_1:List Int) (x0_2_2_1:List Bool) (x1:Int):exec (a7A k) 1000 [.code (d8 Try.prog 264)] (A5 (a1k k).ps (((x0_1,x0_2_1,x0_2_2_1,()),x1,()))) =
  .e8 ((0:Int)≤x1∧x1<(↑(List.length x0_1):Int)) (.ctL (d9 (d8 Try.prog 264) 2) (St.mk [(0,AV.ptr 2000000 []),(1,vI x1),(13,AV.val (Ty.d0 false Ty.bool) (List.getD x0_1 (Int.toNat x1) [])),(14,vI (↑(List.length (List.getD x0_1 (Int.toNat x1) [])):Int)),(15,vI (0:Int))] [(2000000,f7.var (Ty.pair (Ty.d0 false (Ty.d0 false Ty.bool)) (Ty.pair Is (Ty.pair (Ty.d0 true Ty.bool) Ty.unit))) (x0_1,x0_2_1,x0_2_2_1,()))])):=by kernel_rfl
def a96 (v1:Int) (v13:List Bool) (v14:Int) (v15:Int) (o2000000_1:List (List Bool)) (o2000000_2_1:List Int) (o2000000_2_2_1:List Bool):St:=St.mk [(0,AV.ptr 2000000 []),(1,vI v1),(13,AV.val (Ty.d0 false Ty.bool) v13),(14,vI v14),(15,vI v15)] [(2000000,f7.var (Ty.pair (Ty.d0 false (Ty.d0 false Ty.bool)) (Ty.pair Is (Ty.pair (Ty.d0 true Ty.bool) Ty.unit))) (o2000000_1,o2000000_2_1,o2000000_2_2_1,()))]
theorem b8x (k:Nat) (v1:Int) (v13:List Bool) (v14:Int) (v15:Int) (o2000000_1:List (List Bool)) (o2000000_2_1:List Int) (o2000000_2_2_1:List Bool):exec (a7A k) 1000 (.code (d9 (d8 Try.prog 264) 2).1::.inLoop (d9 (d8 Try.prog 264) 2).1::(d9 (d8 Try.prog 264) 2).2) (a96 v1 v13 v14 v15 o2000000_1 o2000000_2_1 o2000000_2_2_1) =
  let q1:=(Ty.pair (Ty.d0 false (Ty.d0 false Ty.bool)) (Ty.pair Is (Ty.pair (Ty.d0 true Ty.bool) Ty.unit))); let q2:=(o2000000_1,o2000000_2_1,List.set o2000000_2_2_1 (Int.toNat v15) true,()); let q3:=(15,vI (v15+(1:Int))); let q4:=(List.getD o2000000_2_1 (Int.toNat v15) (0:Int)); let q0:=(gK k q2 q4); let q5:=(o2000000_1,o2000000_2_1,o2000000_2_2_1,()); cond (decide (v15<v14)) (.e8 ((0:Int)≤v15∧v15<(↑(List.length v13):Int)) (cond (!List.getD v13 (Int.toNat v15) false) (.e8 (r9 IntKind.i64 (v15+(1:Int))) (.ctL (d9 (d8 Try.prog 264) 2) (St.mk [(0,AV.ptr 2000000 []),(1,vI v1),(13,AV.val (Ty.d0 false Ty.bool) v13),(14,vI v14),q3] [(2000000,f7.var q1 q5)]))) (.e8 ((0:Int)≤v15∧v15<(↑(List.length o2000000_2_2_1):Int)) (cond (List.getD o2000000_2_2_1 (Int.toNat v15) false) (.e8 (r9 IntKind.i64 (v15+(1:Int))) (.ctL (d9 (d8 Try.prog 264) 2) (St.mk [(0,AV.ptr 2000000 []),(1,vI v1),(13,AV.val (Ty.d0 false Ty.bool) v13),(14,vI v14),q3] [(2000000,f7.var q1 q5)]))) (.e8 ((0:Int)≤v15∧v15<(↑(List.length o2000000_2_2_1):Int)) (.e8 ((0:Int)≤v15∧v15<(↑(List.length o2000000_2_1):Int)) (cond (decide (List.getD o2000000_2_1 (Int.toNat v15) (0:Int)<(0:Int))) (.e8 ((0:Int)≤v15∧v15<(↑(List.length o2000000_2_1):Int)) (.ret ((true,(o2000000_1,List.set o2000000_2_1 (Int.toNat v15) v1,List.set o2000000_2_2_1 (Int.toNat v15) true,()),())))) (.e8 ((0:Int)≤v15∧v15<(↑(List.length o2000000_2_1):Int)) (.e8 (sK k q2 q4) (cond (bK k q2 q4) (.e8 ((0:Int)≤v15∧v15<(↑(List.length (Prod.fst (Prod.snd q0))):Int)) (.ret ((true,(Prod.fst q0,List.set (Prod.fst (Prod.snd q0)) (Int.toNat v15) v1,Prod.snd (Prod.snd q0)),())))) (.e8 (r9 IntKind.i64 (v15+(1:Int))) (.ctL (d9 (d8 Try.prog 264) 2) (St.mk [(0,AV.ptr 2000000 []),(1,vI v1),(13,AV.val (Ty.d0 false Ty.bool) v13),(14,vI v14),q3] [(2000000,f7.var q1 q0)]))))))))))))) (.ret ((false,q5,()))):=by kernel_rfl
theorem b3P {k:Nat} (hk:(a1k k).Valid Try.prog 264):(a1k (k+1)).Valid Try.prog 264:=by
  refine w9.u7 (a5S hk) rfl rfl Try.func264 (c:=d8 Try.prog 264) rfl rfl a5M rfl ?_
  rintro ⟨⟨(mv:List (List Bool)),(lf:List Int),(sn:List Bool),⟨⟩⟩,(a:Int),⟨⟩⟩ ⟨(h0:S4 (mv,lf,sn,())),(ha0:0≤a),(ha1:a<mv.length),(hu:I8 sn<k+1)⟩ -
  refine n7 (n:=1000) (a5S hk) a5M ?_
  refine g9 (c0t k mv lf sn a) ?_
  refine ⟨⟨ha0,ha1⟩,fun _=>?_⟩
  have hrow:(mv.getD a.toNat []).length=lf.length:=h0.row a.toNat (by show a.toNat<mv.length; omega)
  have hfew:mv.length≤1000∧lf.length≤1000:=h0.few
  have htot:E5 (k+1) (mv,lf,sn,()) a=O7 (E5 k) a (mv.getD a.toNat []) (mv.getD a.toNat []).length 0 (mv,lf,sn,()):=rfl
  refine Reach.C1 (a5S hk) a5M (fun s:Nat×t7=>a96 a (mv.getD a.toNat []) ((mv.getD a.toNat []).length:Int) (s.1:Int) s.2.1 s.2.2.1 s.2.2.2.1) (fun s=>s.1≤lf.length∧Kept (mv,lf,sn,()) s.2∧O7 (E5 k) a (mv.getD a.toNat []) (lf.length - s.1) s.1 s.2=E5 (k+1) (mv,lf,sn,()) a) (fun s=>lf.length - s.1) 1000 (fun _=>⟨j7 rfl,j7 rfl⟩) ?_ (0,(mv,lf,sn,())) ⟨by omega,Kept.refl h0,by rw [htot,hrow]; rfl⟩
  rintro ⟨i,⟨m1,l1,s1,⟨⟩⟩⟩ ⟨k1,k2,k3⟩ - ih
  have k1:i≤lf.length:=k1
  have k2:Kept (mv,lf,sn,()) (m1,l1,s1,()):=k2
  have k3:O7 (E5 k) a (mv.getD a.toNat []) (lf.length - i) i (m1,l1,s1,())=E5 (k+1) (mv,lf,sn,()) a:=k3
  refine g9 (b8x k ..) ?_
  have hl1:l1.length=lf.length:=k2.len
  have hs1:s1.length=l1.length:=k2.ok.seen
  have hm1:m1=mv:=k2.may
  have hun:I8 s1≤I8 sn:=k2.few h0
  simp only [i9,Tree.holds,true_and,true_implies,decide_eq_true_eq,decide_eq_false_iff_not,Bool.not_eq_true',Bool.not_eq_false',Int.toNat_natCast,l7,List.length_set,List.length_cons,List.length_nil]
  have fin:∀ {b:Bool} {G:t7},E5 (k+1) (mv,lf,sn,()) a=(G,b,())→((b,G,()):Bool×t7×Unit)=(bK (k+1) (mv,lf,sn,()) a,gK (k+1) (mv,lf,sn,()) a,()):=fun h=>by rw [bK,gK,h]
  refine ⟨fun c=>⟨by omega,fun _=>?_⟩,fun c=>fin ?_⟩
  · have hi:i<lf.length:=by omega
    rw [show lf.length - i=(lf.length - (i+1))+1 by omega,O7] at k3
    refine ⟨fun e=>?_,fun e=>⟨by omega,fun _=>⟨fun e2=>?_,fun e2=>⟨by omega,fun _=>⟨by omega,fun _=>⟨fun e3=>⟨by omega,fun _=>fin ?_⟩,fun e3=>⟨by omega,fun _=>?_⟩⟩⟩⟩⟩⟩⟩
    · rw [if_pos e] at k3
      exact ⟨by omega,fun _=>ih (i+1,(m1,l1,s1,())) ⟨by show i+1≤_; omega,k2,k3⟩ (by show _ - (i+1)<_ - i; omega)⟩
    · rw [if_neg (by rw [e]; simp),if_pos e2] at k3
      exact ⟨by omega,fun _=>ih (i+1,(m1,l1,s1,())) ⟨by show i+1≤_; omega,k2,k3⟩ (by show _ - (i+1)<_ - i; omega)⟩
    · rw [if_neg (by rw [e]; simp),if_neg (by show ¬ s1.getD i false=true; rw [e2]; simp),if_pos e3] at k3
      exact k3.symm
    · rw [if_neg (by rw [e]; simp),if_neg (by show ¬ s1.getD i false=true; rw [e2]; simp),if_neg e3] at k3
      have q1:Kept (m1,l1,s1,()) (m1,l1,s1.set i true,()):=k2.ok.set (b:=i) (by show i<l1.length; omega)
      have hx:l1.getD i 0<m1.length:=k2.ok.left i (by show 0≤l1.getD i 0; omega) (by show i<l1.length; omega)
      have hus:=a42 (l:=s1) (b:=i) (by omega) e2
      have q2:Kept (m1,l1,s1.set i true,()) (E5 k (m1,l1,s1.set i true,()) (l1.getD i 0)).1:=S9 q1.ok (by omega) hx
      have q3:=(k2.trans q1).trans q2
      refine ⟨⟨q1.ok,by omega,hx,by show I8 (s1.set i true)<k; omega⟩,fun _=>⟨fun e4=>⟨?_,fun _=>fin ?_⟩,fun e4=>⟨by omega,fun _=>ih (i+1,(E5 k (m1,l1,s1.set i true,()) (l1.getD i 0)).1) ⟨by show i+1≤_; omega,q3,?_⟩ (by show _ - (i+1)<_ - i; omega)⟩⟩⟩
      · have:=q3.len
        have h9:(gK k (m1,l1,s1.set i true,()) (l1.getD i 0)).2.1.length=lf.length:=this
        omega
      · have e4:(E5 k (I3 (m1,l1,s1,()) i) (l1.getD i 0)).2.1=true:=e4
        rw [if_pos e4] at k3
        exact k3.symm
      · have e4:(E5 k (I3 (m1,l1,s1,()) i) (l1.getD i 0)).2.1=false:=e4
        rw [if_neg (by show ¬ (E5 k (I3 (m1,l1,s1,()) i) (l1.getD i 0)).2.1=true; rw [e4]; simp)] at k3
        exact k3
  · have:i=lf.length:=by omega
    rw [this,Nat.sub_self,O7] at k3
    exact k3.symm
theorem _root_.Go.Ex.w9.Valid.never {P:Program} {f:FuncId} {c:w9} (h:∃ fn,P.funcs[f]?=some fn∧(fn.name == "runtime.NumGoroutine")=false∧fn.body.isNone=false) (hn:∀ x,¬ c.pre x):c.Valid P f :=
  ⟨h,fun _ _ _ x _ _ _ hp=>absurd hp (hn x),fun _ _ _ _ x _ _ _ hp=>absurd hp (hn x)⟩
theorem b5h:∃ fn,Try.prog.funcs[264]?=some fn∧(fn.name == "runtime.NumGoroutine")=false∧fn.body.isNone=false:=⟨_,Try.func264,by kernel_rfl,by kernel_rfl⟩
theorem a54:∀ k,(a1k k).Valid Try.prog 264
  | 0=>by
    refine w9.Valid.never ?_ ?_
    · exact (b5h)
    · rintro ⟨⟨(mv:List (List Bool)),(lf:List Int),(sn:List Bool),⟨⟩⟩,(a:Int),⟨⟩⟩ ⟨_,_,_,h⟩
      exact absurd h (Nat.not_lt_zero _)
  | k+1=>b3P (a54 k)
end Go.Proofs.Ytekbamiaenbhjaa
