/- match.search: its contract, by the number of nodes not yet seen. No condition but those named. -/
import Derived.Test.YtekbamiaenbhjaaPairA
namespace Go.Proofs.Ytekbamiaenbhjaa
open Go.Ex
set_option maxRecDepth 100000
abbrev l6:=Int×Int×Unit
abbrev p9:=List (List Bool)×List Int×List Bool×Unit
def I0 (g:p9) (b:Nat):p9:=(g.1,g.2.1,g.2.2.1.set b true,())
def a8L (g:p9) (b:Nat) (a:Int):p9:=(g.1,g.2.1.set b a,g.2.2.1,())
def O7 (rec:p9→Int→p9×Bool×Unit) (a:Int) (row:List Bool):Nat→Nat→p9→p9×Bool×Unit
  | 0,_,g=>(g,false,())
  | r+1,b,g =>
    if row.getD b false=false then O7 rec a row r (b+1) g else if g.2.2.1.getD b false=true then O7 rec a row r (b+1) g else
    if g.2.1.getD b 0<0 then (a8L (I0 g b) b a,true,()) else
    if (rec (I0 g b) (g.2.1.getD b 0)).2.1=true then (a8L (rec (I0 g b) (g.2.1.getD b 0)).1 b a,true,()) else O7 rec a row r (b+1) (rec (I0 g b) (g.2.1.getD b 0)).1
def E0:Nat→p9→Int→p9×Bool×Unit
  | 0,g,_=>(g,false,())
  | k+1,g,a=>O7 (E0 k) a (g.1.getD a.toNat []) (g.1.getD a.toNat []).length 0 g
def C9 (l:List Bool):Nat:=(l.filter (fun x=>!x)).length
structure T3 (g:p9):Prop where
  seen:g.2.2.1.length=g.2.1.length
  row:∀ a,a<g.1.length→(g.1.getD a []).length=g.2.1.length
  left:∀ b:Nat,0≤g.2.1.getD b 0→b<g.2.1.length→g.2.1.getD b 0<g.1.length
  few:g.1.length≤1000∧g.2.1.length≤1000
theorem a3t:∀ {l m:List Bool},m.length=l.length→(∀ b,l.getD b false=true→m.getD b false=true)→C9 m≤C9 l
  | [],[],_,_=>Nat.le_refl _
  | x::l,y::m,hl,h=>by
    have ih:=a3t (l:=l) (m:=m) (by simpa using hl) (fun b hb=>h (b+1) hb)
    have h0:x=true→y=true:=h 0
    simp only [C9] at ih ⊢
    cases x<;>cases y<;>simp at h0 ⊢<;>omega
  | [],_::_,h,_=>by simp at h
  | _::_,[],h,_=>by simp at h
theorem a2m:∀ {l:List Bool} {b:Nat},b<l.length→l.getD b false=false→C9 (l.set b true)+1=C9 l
  | [],_,h,_=>by simp at h
  | x::l,0,_,h=>by
    have h:x=false:=h
    subst h
    simp [C9]
  | x::l,b+1,hb,h=>by
    have ih:=a2m (l:=l) (b:=b) (by simpa using hb) h
    simp only [C9,List.set_cons_succ] at ih ⊢
    cases x<;>simp<;>omega
structure Kept (g g':p9):Prop where
  ok:T3 g'
  may:g'.1=g.1
  len:g'.2.1.length=g.2.1.length
  seen:∀ b,g.2.2.1.getD b false=true→g'.2.2.1.getD b false=true
theorem Kept.refl {g:p9} (h:T3 g):Kept g g:=⟨h,rfl,rfl,fun _ h=>h⟩
theorem Kept.trans {g g' g'':p9} (h:Kept g g') (h':Kept g' g''):Kept g g'':=⟨h'.ok,h'.may.trans h.may,h'.len.trans h.len,fun b hb=>h'.seen b (h.seen b hb)⟩
theorem Kept.few {g g':p9} (h:T3 g) (k:Kept g g'):C9 g'.2.2.1≤C9 g.2.2.1:=a3t (by rw [k.ok.seen,h.seen,k.len]) k.seen
theorem T3.set {g:p9} (h:T3 g) {b:Nat} (hb:b<g.2.1.length):Kept g (I0 g b):=by
  refine ⟨⟨by show (g.2.2.1.set b true).length=_; rw [List.length_set]; exact h.seen,h.row,h.left,h.few⟩,rfl,rfl,fun c hc=>?_⟩
  show (g.2.2.1.set b true).getD c false=true
  rw [E3 (by rw [h.seen]; exact hb)]
  split
  · rfl
  · exact hc
theorem T3.put {g:p9} (h:T3 g) {b:Nat} (hb:b<g.2.1.length) {a:Int} (ha:a<g.1.length):Kept g (a8L g b a):=by
  refine ⟨⟨by show g.2.2.1.length=(g.2.1.set b a).length; rw [List.length_set]; exact h.seen,fun c hc=>by show _=(g.2.1.set b a).length; rw [List.length_set]; exact h.row c hc,fun c h0 hc=>?_,by show g.1.length≤1000∧(g.2.1.set b a).length≤1000; rw [List.length_set]; exact h.few⟩,rfl,by show (g.2.1.set b a).length=_; rw [List.length_set],fun c hc=>hc⟩
  have hc:c<(g.2.1.set b a).length:=hc
  rw [List.length_set] at hc
  have h0:0≤(g.2.1.set b a).getD c 0:=h0
  show (g.2.1.set b a).getD c 0<g.1.length
  rw [E3 hb] at h0 ⊢
  split
  · exact ha
  · rename_i e; rw [if_neg e] at h0; exact h.left c h0 hc
theorem a0q {rec:p9→Int→p9×Bool×Unit} (hrec:∀ (g:p9) (x:Int),T3 g→0≤x→x<g.1.length→Kept g (rec g x).1) {a:Int} {row:List Bool}:∀ {r b:Nat} {g:p9},T3 g→a<g.1.length→b+r≤g.2.1.length→Kept g (O7 rec a row r b g).1
  | 0,b,g,h,_,_=>Kept.refl h
  | r+1,b,g,h,ha,hb=>by
    rw [O7]
    split
    · exact a0q hrec h ha (by omega)
    split
    · exact a0q hrec h ha (by omega)
    have k1:=h.set (b:=b) (by omega)
    split
    · exact k1.trans (k1.ok.put (by rw [k1.len]; omega) ha)
    · rename_i hl
      have k2:=hrec (I0 g b) (g.2.1.getD b 0) k1.ok (by omega) (h.left b (by omega) (by omega))
      have k3:=k1.trans k2
      split
      · exact k3.trans (k3.ok.put (by rw [k3.len]; omega) (by rw [k3.may]; exact ha))
      · exact k3.trans (a0q hrec k3.ok (by rw [k3.may]; exact ha) (by rw [k3.len]; omega))
theorem T7:∀ {k:Nat} {g:p9} {a:Int},T3 g→0≤a→a<g.1.length→Kept g (E0 k g a).1
  | 0,g,a,h,_,_=>Kept.refl h
  | k+1,g,a,h,h0,ha=>by
    rw [E0]
    exact a0q (fun g x hg h1 h2=>T7 hg h1 h2) h ha (by rw [h.row a.toNat (by omega)]; omega)
def sK (k:Nat) (g:p9) (a:Int):Prop:=T3 g∧0≤a∧a<g.1.length∧C9 g.2.2.1<k
def bK (k:Nat) (g:p9) (a:Int):Bool:=(E0 k g a).2.1
def gK (k:Nat) (g:p9) (a:Int):p9:=(E0 k g a).1
def a0U (k:Nat):w8:={ ps:=[.rw b2G,.v A4],rs:=[.bool],pre:=fun x=>sK k x.1 x.2.1,fn:=fun x=>(bK k x.1 x.2.1,()),out:=fun x=>(gK k x.1 x.2.1,()) }
noncomputable def a6i (k:Nat):Env:={ P:=Try.prog,tt:=ttG,F7:=[(264,(a0U k))],res:=[Go.ResultVar.tmp 4],rs:=[Ty.bool],ps:=[PK.rw (Ty.pair (Ty.d0 false (Ty.d0 false Ty.bool)) (Ty.pair Is (Ty.pair (Ty.d0 true Ty.bool) Ty.unit))),PK.v (Ty.int IntKind.i64)],H2:=[(2,[(0,none),(1,none),(13,none),(14,none),(15,none)])],nt:=64 }
theorem a4P {k:Nat} (hk:(a0U k).Valid Try.prog 264):D7 (a6i k):=G8 a43 ⟨hk,trivial⟩
theorem a4O {k:Nat}:H9 (a6i k) Try.f264:=⟨rfl,rfl⟩
theorem b7Z (k:Nat) (x0_1:List (List Bool)) (x0_2_1:List Int) (x0_2_2_1:List Bool) (x1:Int):exec (a6i k) 1000 [.code (d8 Try.prog 264)] (C2 (a0U k).ps (((x0_1,x0_2_1,x0_2_2_1,()),x1,()))) =
  .g9 ((0:Int)≤x1∧x1<(↑(List.length x0_1):Int)) (.cut (e8 (d8 Try.prog 264) 2).1 (e8 (d8 Try.prog 264) 2).2 (St.mk [(0,AV.ptr 2000000 []),(1,AV.val (Ty.int IntKind.i64) x1),(13,AV.val (Ty.d0 false Ty.bool) (List.getD x0_1 (Int.toNat x1) [])),(14,AV.val (Ty.int IntKind.i64) (↑(List.length (List.getD x0_1 (Int.toNat x1) [])):Int)),(15,AV.val (Ty.int IntKind.i64) (0:Int))] [(2000000,f7.var (Ty.pair (Ty.d0 false (Ty.d0 false Ty.bool)) (Ty.pair Is (Ty.pair (Ty.d0 true Ty.bool) Ty.unit))) (x0_1,x0_2_1,x0_2_2_1,()))])):=by kernel_rfl
def a8x (v1:Int) (v13:List Bool) (v14:Int) (v15:Int) (o2000000_1:List (List Bool)) (o2000000_2_1:List Int) (o2000000_2_2_1:List Bool):St:=St.mk [(0,AV.ptr 2000000 []),(1,AV.val (Ty.int IntKind.i64) v1),(13,AV.val (Ty.d0 false Ty.bool) v13),(14,AV.val (Ty.int IntKind.i64) v14),(15,AV.val (Ty.int IntKind.i64) v15)] [(2000000,f7.var (Ty.pair (Ty.d0 false (Ty.d0 false Ty.bool)) (Ty.pair Is (Ty.pair (Ty.d0 true Ty.bool) Ty.unit))) (o2000000_1,o2000000_2_1,o2000000_2_2_1,()))]
theorem b6o (k:Nat) (v1:Int) (v13:List Bool) (v14:Int) (v15:Int) (o2000000_1:List (List Bool)) (o2000000_2_1:List Int) (o2000000_2_2_1:List Bool):exec (a6i k) 1000 (.code (e8 (d8 Try.prog 264) 2).1::.inLoop (e8 (d8 Try.prog 264) 2).1::(e8 (d8 Try.prog 264) 2).2) (a8x v1 v13 v14 v15 o2000000_1 o2000000_2_1 o2000000_2_2_1) =
  cond (decide (v15<v14)) (.g9 ((0:Int)≤v15∧v15<(↑(List.length v13):Int)) (cond (!List.getD v13 (Int.toNat v15) false) (.g9 (B2 IntKind.i64 (v15+(1:Int))) (.cut (e8 (d8 Try.prog 264) 2).1 (e8 (d8 Try.prog 264) 2).2 (St.mk [(0,AV.ptr 2000000 []),(1,AV.val (Ty.int IntKind.i64) v1),(13,AV.val (Ty.d0 false Ty.bool) v13),(14,AV.val (Ty.int IntKind.i64) v14),(15,AV.val (Ty.int IntKind.i64) (v15+(1:Int)))] [(2000000,f7.var (Ty.pair (Ty.d0 false (Ty.d0 false Ty.bool)) (Ty.pair Is (Ty.pair (Ty.d0 true Ty.bool) Ty.unit))) (o2000000_1,o2000000_2_1,o2000000_2_2_1,()))]))) (.g9 ((0:Int)≤v15∧v15<(↑(List.length o2000000_2_2_1):Int)) (cond (List.getD o2000000_2_2_1 (Int.toNat v15) false) (.g9 (B2 IntKind.i64 (v15+(1:Int))) (.cut (e8 (d8 Try.prog 264) 2).1 (e8 (d8 Try.prog 264) 2).2 (St.mk [(0,AV.ptr 2000000 []),(1,AV.val (Ty.int IntKind.i64) v1),(13,AV.val (Ty.d0 false Ty.bool) v13),(14,AV.val (Ty.int IntKind.i64) v14),(15,AV.val (Ty.int IntKind.i64) (v15+(1:Int)))] [(2000000,f7.var (Ty.pair (Ty.d0 false (Ty.d0 false Ty.bool)) (Ty.pair Is (Ty.pair (Ty.d0 true Ty.bool) Ty.unit))) (o2000000_1,o2000000_2_1,o2000000_2_2_1,()))]))) (.g9 ((0:Int)≤v15∧v15<(↑(List.length o2000000_2_2_1):Int)) (.g9 ((0:Int)≤v15∧v15<(↑(List.length o2000000_2_1):Int)) (cond (decide (List.getD o2000000_2_1 (Int.toNat v15) (0:Int)<(0:Int))) (.g9 ((0:Int)≤v15∧v15<(↑(List.length o2000000_2_1):Int)) (.ret ((true,(o2000000_1,List.set o2000000_2_1 (Int.toNat v15) v1,List.set o2000000_2_2_1 (Int.toNat v15) true,()),())))) (.g9 ((0:Int)≤v15∧v15<(↑(List.length o2000000_2_1):Int)) (.g9 (sK k (o2000000_1,o2000000_2_1,List.set o2000000_2_2_1 (Int.toNat v15) true,()) (List.getD o2000000_2_1 (Int.toNat v15) (0:Int))) (cond (bK k (o2000000_1,o2000000_2_1,List.set o2000000_2_2_1 (Int.toNat v15) true,()) (List.getD o2000000_2_1 (Int.toNat v15) (0:Int))) (.g9 ((0:Int)≤v15∧v15<(↑(List.length (Prod.fst (Prod.snd (gK k (o2000000_1,o2000000_2_1,List.set o2000000_2_2_1 (Int.toNat v15) true,()) (List.getD o2000000_2_1 (Int.toNat v15) (0:Int)))))):Int)) (.ret ((true,(Prod.fst (gK k (o2000000_1,o2000000_2_1,List.set o2000000_2_2_1 (Int.toNat v15) true,()) (List.getD o2000000_2_1 (Int.toNat v15) (0:Int))),List.set (Prod.fst (Prod.snd (gK k (o2000000_1,o2000000_2_1,List.set o2000000_2_2_1 (Int.toNat v15) true,()) (List.getD o2000000_2_1 (Int.toNat v15) (0:Int))))) (Int.toNat v15) v1,Prod.snd (Prod.snd (gK k (o2000000_1,o2000000_2_1,List.set o2000000_2_2_1 (Int.toNat v15) true,()) (List.getD o2000000_2_1 (Int.toNat v15) (0:Int))))),())))) (.g9 (B2 IntKind.i64 (v15+(1:Int))) (.cut (e8 (d8 Try.prog 264) 2).1 (e8 (d8 Try.prog 264) 2).2 (St.mk [(0,AV.ptr 2000000 []),(1,AV.val (Ty.int IntKind.i64) v1),(13,AV.val (Ty.d0 false Ty.bool) v13),(14,AV.val (Ty.int IntKind.i64) v14),(15,AV.val (Ty.int IntKind.i64) (v15+(1:Int)))] [(2000000,f7.var (Ty.pair (Ty.d0 false (Ty.d0 false Ty.bool)) (Ty.pair Is (Ty.pair (Ty.d0 true Ty.bool) Ty.unit))) (gK k (o2000000_1,o2000000_2_1,List.set o2000000_2_2_1 (Int.toNat v15) true,()) (List.getD o2000000_2_1 (Int.toNat v15) (0:Int))))]))))))))))))) (.ret ((false,(o2000000_1,o2000000_2_1,o2000000_2_2_1,()),()))):=by kernel_rfl
theorem b2d {k:Nat} (hk:(a0U k).Valid Try.prog 264):(a0U (k+1)).Valid Try.prog 264:=by
  refine w8.y8 (a4P hk) rfl rfl Try.func264 (c:=d8 Try.prog 264) rfl rfl a4O rfl ?_
  rintro ⟨⟨(mv:List (List Bool)),(lf:List Int),(sn:List Bool),⟨⟩⟩,(a:Int),⟨⟩⟩ ⟨(h0:T3 (mv,lf,sn,())),(ha0:0≤a),(ha1:a<mv.length),(hu:C9 sn<k+1)⟩ -
  refine p8 (n:=1000) (a4P hk) a4O ?_
  refine l4 (b7Z k mv lf sn a) ?_
  refine ⟨⟨ha0,ha1⟩,fun _=>?_⟩
  have hrow:(mv.getD a.toNat []).length=lf.length:=h0.row a.toNat (by show a.toNat<mv.length; omega)
  have hfew:mv.length≤1000∧lf.length≤1000:=h0.few
  have htot:E0 (k+1) (mv,lf,sn,()) a=O7 (E0 k) a (mv.getD a.toNat []) (mv.getD a.toNat []).length 0 (mv,lf,sn,()):=rfl
  refine Reach.J8 (a4P hk) a4O (fun s:Nat×p9=>a8x a (mv.getD a.toNat []) ((mv.getD a.toNat []).length:Int) (s.1:Int) s.2.1 s.2.2.1 s.2.2.2.1) (fun s=>s.1≤lf.length∧Kept (mv,lf,sn,()) s.2∧O7 (E0 k) a (mv.getD a.toNat []) (lf.length - s.1) s.1 s.2=E0 (k+1) (mv,lf,sn,()) a) (fun s=>lf.length - s.1) 1000 (fun _=>⟨r9 rfl,r9 rfl⟩) ?_ (0,(mv,lf,sn,())) ⟨by omega,Kept.refl h0,by rw [htot,hrow]; rfl⟩
  rintro ⟨i,⟨m1,l1,s1,⟨⟩⟩⟩ ⟨k1,k2,k3⟩ - ih
  have k1:i≤lf.length:=k1
  have k2:Kept (mv,lf,sn,()) (m1,l1,s1,()):=k2
  have k3:O7 (E0 k) a (mv.getD a.toNat []) (lf.length - i) i (m1,l1,s1,())=E0 (k+1) (mv,lf,sn,()) a:=k3
  refine l4 (b6o k ..) ?_
  have hl1:l1.length=lf.length:=k2.len
  have hs1:s1.length=l1.length:=k2.ok.seen
  have hm1:m1=mv:=k2.may
  have hun:C9 s1≤C9 sn:=k2.few h0
  simp only [p7,Tree.holds,true_and,true_implies,decide_eq_true_eq,decide_eq_false_iff_not,Bool.not_eq_true',Bool.not_eq_false',Int.toNat_natCast,u7,List.length_set,List.length_cons,List.length_nil]
  have fin:∀ {b:Bool} {G:p9},E0 (k+1) (mv,lf,sn,()) a=(G,b,())→((b,G,()):Bool×p9×Unit)=(bK (k+1) (mv,lf,sn,()) a,gK (k+1) (mv,lf,sn,()) a,()):=fun h=>by rw [bK,gK,h]
  refine ⟨fun c=>⟨by omega,fun _=>?_⟩,fun c=>fin ?_⟩
  · have hi:i<lf.length:=by omega
    rw [show lf.length - i=(lf.length - (i+1))+1 by omega,O7] at k3
    refine ⟨fun e=>?_,fun e=>⟨by omega,fun _=>⟨fun e2=>?_,fun e2=>⟨by omega,fun _=>⟨by omega,fun _=>⟨fun e3=>⟨by omega,fun _=>fin ?_⟩,fun e3=>⟨by omega,fun _=>?_⟩⟩⟩⟩⟩⟩⟩
    · rw [if_pos e] at k3
      exact ⟨by omega,fun _=>ih (i+1,(m1,l1,s1,())) ⟨by show i+1≤_; omega,k2,k3⟩ (by show _ - (i+1)<_ - i; omega)⟩
    · rw [if_neg (by rw [e]; simp),if_pos e2] at k3
      exact ⟨by omega,fun _=>ih (i+1,(m1,l1,s1,())) ⟨by show i+1≤_; omega,k2,k3⟩ (by show _ - (i+1)<_ - i; omega)⟩
    · rw [if_neg (by rw [e]; simp),if_neg (by show ¬ s1.getD i false=true; rw [e2]; simp),if_pos e3] at k3
      exact k3.symm
    · rw [if_neg (by rw [e]; simp),if_neg (by show ¬ s1.getD i false=true; rw [e2]; simp),if_neg e3] at k3
      have q1:Kept (m1,l1,s1,()) (m1,l1,s1.set i true,()):=k2.ok.set (b:=i) (by show i<l1.length; omega)
      have hx:l1.getD i 0<m1.length:=k2.ok.left i (by show 0≤l1.getD i 0; omega) (by show i<l1.length; omega)
      have hus:=a2m (l:=s1) (b:=i) (by omega) e2
      have q2:Kept (m1,l1,s1.set i true,()) (E0 k (m1,l1,s1.set i true,()) (l1.getD i 0)).1:=T7 q1.ok (by omega) hx
      have q3:=(k2.trans q1).trans q2
      refine ⟨⟨q1.ok,by omega,hx,by show C9 (s1.set i true)<k; omega⟩,fun _=>⟨fun e4=>⟨?_,fun _=>fin ?_⟩,fun e4=>⟨by omega,fun _=>ih (i+1,(E0 k (m1,l1,s1.set i true,()) (l1.getD i 0)).1) ⟨by show i+1≤_; omega,q3,?_⟩ (by show _ - (i+1)<_ - i; omega)⟩⟩⟩
      · have:=q3.len
        have h9:(gK k (m1,l1,s1.set i true,()) (l1.getD i 0)).2.1.length=lf.length:=this
        omega
      · have e4:(E0 k (I0 (m1,l1,s1,()) i) (l1.getD i 0)).2.1=true:=e4
        rw [if_pos e4] at k3
        exact k3.symm
      · have e4:(E0 k (I0 (m1,l1,s1,()) i) (l1.getD i 0)).2.1=false:=e4
        rw [if_neg (by show ¬ (E0 k (I0 (m1,l1,s1,()) i) (l1.getD i 0)).2.1=true; rw [e4]; simp)] at k3
        exact k3
  · have:i=lf.length:=by omega
    rw [this,Nat.sub_self,O7] at k3
    exact k3.symm
theorem _root_.Go.Ex.w8.Valid.never {P:Program} {f:FuncId} {c:w8} (h:∃ fn,P.funcs[f]?=some fn∧(fn.name == "runtime.NumGoroutine")=false∧fn.body.isNone=false) (hn:∀ x,¬ c.pre x):c.Valid P f :=
  ⟨h,fun _ _ _ x _ _ _ hp=>absurd hp (hn x),fun _ _ _ _ x _ _ _ hp=>absurd hp (hn x)⟩
theorem b3t:∃ fn,Try.prog.funcs[264]?=some fn∧(fn.name == "runtime.NumGoroutine")=false∧fn.body.isNone=false:=⟨_,Try.func264,by kernel_rfl,by kernel_rfl⟩
theorem a4X:∀ k,(a0U k).Valid Try.prog 264
  | 0=>by
    refine w8.Valid.never ?_ ?_
    · exact (b3t)
    · rintro ⟨⟨(mv:List (List Bool)),(lf:List Int),(sn:List Bool),⟨⟩⟩,(a:Int),⟨⟩⟩ ⟨_,_,_,h⟩
      exact absurd h (Nat.not_lt_zero _)
  | k+1=>b2d (a4X k)
end Go.Proofs.Ytekbamiaenbhjaa
