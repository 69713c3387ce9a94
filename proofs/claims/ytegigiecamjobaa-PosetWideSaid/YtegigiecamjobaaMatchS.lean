/- match.search: its contract, by the number of nodes not yet seen. No condition but those named. -/
import Derived.Test.YtegigiecamjobaaBase
namespace Go.Proofs.Ytegigiecamjobaa
open Go.Ex
set_option maxRecDepth 100000
abbrev PairD:=Int×Int×Unit
abbrev GraphD:=List (List Bool)×List Int×List Bool×Unit
def setSeen (g:GraphD) (b:Nat):GraphD:=(g.1,g.2.1,g.2.2.1.set b true,())
def setLeft (g:GraphD) (b:Nat) (a:Int):GraphD:=(g.1,g.2.1.set b a,g.2.2.1,())
def sLoop (rec:GraphD→Int→GraphD×Bool×Unit) (a:Int) (row:List Bool):Nat→Nat→GraphD→GraphD×Bool×Unit
  | 0,_,g=>(g,false,())
  | r+1,b,g =>
    if row.getD b false=false then sLoop rec a row r (b+1) g else if g.2.2.1.getD b false=true then sLoop rec a row r (b+1) g else
    if g.2.1.getD b 0<0 then (setLeft (setSeen g b) b a,true,()) else
    if (rec (setSeen g b) (g.2.1.getD b 0)).2.1=true then (setLeft (rec (setSeen g b) (g.2.1.getD b 0)).1 b a,true,()) else sLoop rec a row r (b+1) (rec (setSeen g b) (g.2.1.getD b 0)).1
def searchF:Nat→GraphD→Int→GraphD×Bool×Unit
  | 0,g,_=>(g,false,())
  | k+1,g,a=>sLoop (searchF k) a (g.1.getD a.toNat []) (g.1.getD a.toNat []).length 0 g
def unseen (l:List Bool):Nat:=(l.filter (fun x=>!x)).length
structure GOk (g:GraphD):Prop where
  seen:g.2.2.1.length=g.2.1.length
  row:∀ a,a<g.1.length→(g.1.getD a []).length=g.2.1.length
  left:∀ b:Nat,0≤g.2.1.getD b 0→b<g.2.1.length→g.2.1.getD b 0<g.1.length
  few:g.1.length≤1000∧g.2.1.length≤1000
theorem unseen_mono:∀ {l m:List Bool},m.length=l.length→(∀ b,l.getD b false=true→m.getD b false=true)→unseen m≤unseen l
  | [],[],_,_=>Nat.le_refl _
  | x::l,y::m,hl,h=>by
    have ih:=unseen_mono (l:=l) (m:=m) (by simpa using hl) (fun b hb=>h (b+1) hb)
    have h0:x=true→y=true:=h 0
    simp only [unseen] at ih ⊢
    cases x<;>cases y<;>simp at h0 ⊢<;>omega
  | [],_::_,h,_=>by simp at h
  | _::_,[],h,_=>by simp at h
theorem unseen_set:∀ {l:List Bool} {b:Nat},b<l.length→l.getD b false=false→unseen (l.set b true)+1=unseen l
  | [],_,h,_=>by simp at h
  | x::l,0,_,h=>by
    have h:x=false:=h
    subst h
    simp [unseen]
  | x::l,b+1,hb,h=>by
    have ih:=unseen_set (l:=l) (b:=b) (by simpa using hb) h
    simp only [unseen,List.set_cons_succ] at ih ⊢
    cases x<;>simp<;>omega
structure Kept (g g':GraphD):Prop where
  ok:GOk g'
  may:g'.1=g.1
  len:g'.2.1.length=g.2.1.length
  seen:∀ b,g.2.2.1.getD b false=true→g'.2.2.1.getD b false=true
theorem Kept.refl {g:GraphD} (h:GOk g):Kept g g:=⟨h,rfl,rfl,fun _ h=>h⟩
theorem Kept.trans {g g' g'':GraphD} (h:Kept g g') (h':Kept g' g''):Kept g g'':=⟨h'.ok,h'.may.trans h.may,h'.len.trans h.len,fun b hb=>h'.seen b (h.seen b hb)⟩
theorem Kept.few {g g':GraphD} (h:GOk g) (k:Kept g g'):unseen g'.2.2.1≤unseen g.2.2.1:=unseen_mono (by rw [k.ok.seen,h.seen,k.len]) k.seen
theorem GOk.set {g:GraphD} (h:GOk g) {b:Nat} (hb:b<g.2.1.length):Kept g (setSeen g b):=by
  refine ⟨⟨by show (g.2.2.1.set b true).length=_; rw [List.length_set]; exact h.seen,h.row,h.left,h.few⟩,rfl,rfl,fun c hc=>?_⟩
  show (g.2.2.1.set b true).getD c false=true
  rw [getD_set (by rw [h.seen]; exact hb)]
  split
  · rfl
  · exact hc
theorem GOk.put {g:GraphD} (h:GOk g) {b:Nat} (hb:b<g.2.1.length) {a:Int} (ha:a<g.1.length):Kept g (setLeft g b a):=by
  refine ⟨⟨by show g.2.2.1.length=(g.2.1.set b a).length; rw [List.length_set]; exact h.seen,fun c hc=>by show _=(g.2.1.set b a).length; rw [List.length_set]; exact h.row c hc,fun c h0 hc=>?_,by show g.1.length≤1000∧(g.2.1.set b a).length≤1000; rw [List.length_set]; exact h.few⟩,rfl,by show (g.2.1.set b a).length=_; rw [List.length_set],fun c hc=>hc⟩
  have hc:c<(g.2.1.set b a).length:=hc
  rw [List.length_set] at hc
  have h0:0≤(g.2.1.set b a).getD c 0:=h0
  show (g.2.1.set b a).getD c 0<g.1.length
  rw [getD_set hb] at h0 ⊢
  split
  · exact ha
  · rename_i e; rw [if_neg e] at h0; exact h.left c h0 hc
theorem sLoop_kept {rec:GraphD→Int→GraphD×Bool×Unit} (hrec:∀ (g:GraphD) (x:Int),GOk g→0≤x→x<g.1.length→Kept g (rec g x).1) {a:Int} {row:List Bool}:∀ {r b:Nat} {g:GraphD},GOk g→a<g.1.length→b+r≤g.2.1.length→Kept g (sLoop rec a row r b g).1
  | 0,b,g,h,_,_=>Kept.refl h
  | r+1,b,g,h,ha,hb=>by
    rw [sLoop]
    split
    · exact sLoop_kept hrec h ha (by omega)
    split
    · exact sLoop_kept hrec h ha (by omega)
    have k1:=h.set (b:=b) (by omega)
    split
    · exact k1.trans (k1.ok.put (by rw [k1.len]; omega) ha)
    · rename_i hl
      have k2:=hrec (setSeen g b) (g.2.1.getD b 0) k1.ok (by omega) (h.left b (by omega) (by omega))
      have k3:=k1.trans k2
      split
      · exact k3.trans (k3.ok.put (by rw [k3.len]; omega) (by rw [k3.may]; exact ha))
      · exact k3.trans (sLoop_kept hrec k3.ok (by rw [k3.may]; exact ha) (by rw [k3.len]; omega))
theorem searchF_kept:∀ {k:Nat} {g:GraphD} {a:Int},GOk g→0≤a→a<g.1.length→Kept g (searchF k g a).1
  | 0,g,a,h,_,_=>Kept.refl h
  | k+1,g,a,h,h0,ha=>by
    rw [searchF]
    exact sLoop_kept (fun g x hg h1 h2=>searchF_kept hg h1 h2) h ha (by rw [h.row a.toNat (by omega)]; omega)
def sK (k:Nat) (g:GraphD) (a:Int):Prop:=GOk g∧0≤a∧a<g.1.length∧unseen g.2.2.1<k
def bK (k:Nat) (g:GraphD) (a:Int):Bool:=(searchF k g a).2.1
def gK (k:Nat) (g:GraphD) (a:Int):GraphD:=(searchF k g a).1
def csearchK (k:Nat):Ctr:={ ps:=[.rw GraphS,.v I64],rs:=[.bool],pre:=fun x=>sK k x.1 x.2.1,fn:=fun x=>(bK k x.1 x.2.1,()),out:=fun x=>(gK k x.1 x.2.1,()) }
noncomputable def Esearch (k:Nat):Env:={ P:=Try.prog,tt:=tt,ctr:=[(125,(csearchK k))],res:=[Go.ResultVar.tmp 4],rs:=[Ty.bool],ps:=[PK.rw (Ty.pair (Ty.slc false (Ty.slc false Ty.bool)) (Ty.pair Is (Ty.pair (Ty.slc true Ty.bool) Ty.unit))),PK.v (Ty.int IntKind.i64)],cuts:=[(2,[(0,none),(1,none),(13,none),(14,none),(15,none)])],nt:=64 }
theorem Esearch_ok {k:Nat} (hk:(csearchK k).Valid Try.prog 125):EnvOk (Esearch k):=envOk tt_ok ⟨hk,trivial⟩
theorem Fsearch_ok {k:Nat}:FnOk (Esearch k) Try.f125:=⟨rfl,rfl⟩
theorem Esearch_t (k:Nat) (x0_1:List (List Bool)) (x0_2_1:List Int) (x0_2_2_1:List Bool) (x1:Int):exec (Esearch k) 1000 [.code (bodyOf Try.prog 125)] (initSt (csearchK k).ps (((x0_1,x0_2_1,x0_2_2_1,()),x1,()))) =
  .need ((0:Int)≤x1∧x1<(↑(List.length x0_1):Int)) (.cut (loopAt (bodyOf Try.prog 125) 2).1 (loopAt (bodyOf Try.prog 125) 2).2 (St.mk [(0,AV.ptr 2000000 []),(1,AV.val (Ty.int IntKind.i64) x1),(13,AV.val (Ty.slc false Ty.bool) (List.getD x0_1 (Int.toNat x1) [])),(14,AV.val (Ty.int IntKind.i64) (↑(List.length (List.getD x0_1 (Int.toNat x1) [])):Int)),(15,AV.val (Ty.int IntKind.i64) (0:Int))] [(2000000,Ent.var (Ty.pair (Ty.slc false (Ty.slc false Ty.bool)) (Ty.pair Is (Ty.pair (Ty.slc true Ty.bool) Ty.unit))) (x0_1,x0_2_1,x0_2_2_1,()))])):=by kernel_rfl
def Esearch_s2 (v1:Int) (v13:List Bool) (v14:Int) (v15:Int) (o2000000_1:List (List Bool)) (o2000000_2_1:List Int) (o2000000_2_2_1:List Bool):St:=St.mk [(0,AV.ptr 2000000 []),(1,AV.val (Ty.int IntKind.i64) v1),(13,AV.val (Ty.slc false Ty.bool) v13),(14,AV.val (Ty.int IntKind.i64) v14),(15,AV.val (Ty.int IntKind.i64) v15)] [(2000000,Ent.var (Ty.pair (Ty.slc false (Ty.slc false Ty.bool)) (Ty.pair Is (Ty.pair (Ty.slc true Ty.bool) Ty.unit))) (o2000000_1,o2000000_2_1,o2000000_2_2_1,()))]
theorem Esearch_l2 (k:Nat) (v1:Int) (v13:List Bool) (v14:Int) (v15:Int) (o2000000_1:List (List Bool)) (o2000000_2_1:List Int) (o2000000_2_2_1:List Bool):exec (Esearch k) 1000 (.code (loopAt (bodyOf Try.prog 125) 2).1::.inLoop (loopAt (bodyOf Try.prog 125) 2).1::(loopAt (bodyOf Try.prog 125) 2).2) (Esearch_s2 v1 v13 v14 v15 o2000000_1 o2000000_2_1 o2000000_2_2_1) =
  cond (decide (v15<v14)) (.need ((0:Int)≤v15∧v15<(↑(List.length v13):Int)) (cond (!List.getD v13 (Int.toNat v15) false) (.need (inK IntKind.i64 (v15+(1:Int))) (.cut (loopAt (bodyOf Try.prog 125) 2).1 (loopAt (bodyOf Try.prog 125) 2).2 (St.mk [(0,AV.ptr 2000000 []),(1,AV.val (Ty.int IntKind.i64) v1),(13,AV.val (Ty.slc false Ty.bool) v13),(14,AV.val (Ty.int IntKind.i64) v14),(15,AV.val (Ty.int IntKind.i64) (v15+(1:Int)))] [(2000000,Ent.var (Ty.pair (Ty.slc false (Ty.slc false Ty.bool)) (Ty.pair Is (Ty.pair (Ty.slc true Ty.bool) Ty.unit))) (o2000000_1,o2000000_2_1,o2000000_2_2_1,()))]))) (.need ((0:Int)≤v15∧v15<(↑(List.length o2000000_2_2_1):Int)) (cond (List.getD o2000000_2_2_1 (Int.toNat v15) false) (.need (inK IntKind.i64 (v15+(1:Int))) (.cut (loopAt (bodyOf Try.prog 125) 2).1 (loopAt (bodyOf Try.prog 125) 2).2 (St.mk [(0,AV.ptr 2000000 []),(1,AV.val (Ty.int IntKind.i64) v1),(13,AV.val (Ty.slc false Ty.bool) v13),(14,AV.val (Ty.int IntKind.i64) v14),(15,AV.val (Ty.int IntKind.i64) (v15+(1:Int)))] [(2000000,Ent.var (Ty.pair (Ty.slc false (Ty.slc false Ty.bool)) (Ty.pair Is (Ty.pair (Ty.slc true Ty.bool) Ty.unit))) (o2000000_1,o2000000_2_1,o2000000_2_2_1,()))]))) (.need ((0:Int)≤v15∧v15<(↑(List.length o2000000_2_2_1):Int)) (.need ((0:Int)≤v15∧v15<(↑(List.length o2000000_2_1):Int)) (cond (decide (List.getD o2000000_2_1 (Int.toNat v15) (0:Int)<(0:Int))) (.need ((0:Int)≤v15∧v15<(↑(List.length o2000000_2_1):Int)) (.ret ((true,(o2000000_1,List.set o2000000_2_1 (Int.toNat v15) v1,List.set o2000000_2_2_1 (Int.toNat v15) true,()),())))) (.need ((0:Int)≤v15∧v15<(↑(List.length o2000000_2_1):Int)) (.need (sK k (o2000000_1,o2000000_2_1,List.set o2000000_2_2_1 (Int.toNat v15) true,()) (List.getD o2000000_2_1 (Int.toNat v15) (0:Int))) (cond (bK k (o2000000_1,o2000000_2_1,List.set o2000000_2_2_1 (Int.toNat v15) true,()) (List.getD o2000000_2_1 (Int.toNat v15) (0:Int))) (.need ((0:Int)≤v15∧v15<(↑(List.length (Prod.fst (Prod.snd (gK k (o2000000_1,o2000000_2_1,List.set o2000000_2_2_1 (Int.toNat v15) true,()) (List.getD o2000000_2_1 (Int.toNat v15) (0:Int)))))):Int)) (.ret ((true,(Prod.fst (gK k (o2000000_1,o2000000_2_1,List.set o2000000_2_2_1 (Int.toNat v15) true,()) (List.getD o2000000_2_1 (Int.toNat v15) (0:Int))),List.set (Prod.fst (Prod.snd (gK k (o2000000_1,o2000000_2_1,List.set o2000000_2_2_1 (Int.toNat v15) true,()) (List.getD o2000000_2_1 (Int.toNat v15) (0:Int))))) (Int.toNat v15) v1,Prod.snd (Prod.snd (gK k (o2000000_1,o2000000_2_1,List.set o2000000_2_2_1 (Int.toNat v15) true,()) (List.getD o2000000_2_1 (Int.toNat v15) (0:Int))))),())))) (.need (inK IntKind.i64 (v15+(1:Int))) (.cut (loopAt (bodyOf Try.prog 125) 2).1 (loopAt (bodyOf Try.prog 125) 2).2 (St.mk [(0,AV.ptr 2000000 []),(1,AV.val (Ty.int IntKind.i64) v1),(13,AV.val (Ty.slc false Ty.bool) v13),(14,AV.val (Ty.int IntKind.i64) v14),(15,AV.val (Ty.int IntKind.i64) (v15+(1:Int)))] [(2000000,Ent.var (Ty.pair (Ty.slc false (Ty.slc false Ty.bool)) (Ty.pair Is (Ty.pair (Ty.slc true Ty.bool) Ty.unit))) (gK k (o2000000_1,o2000000_2_1,List.set o2000000_2_2_1 (Int.toNat v15) true,()) (List.getD o2000000_2_1 (Int.toNat v15) (0:Int))))]))))))))))))) (.ret ((false,(o2000000_1,o2000000_2_1,o2000000_2_2_1,()),()))):=by kernel_rfl
theorem csearch_step {k:Nat} (hk:(csearchK k).Valid Try.prog 125):(csearchK (k+1)).Valid Try.prog 125:=by
  refine Ctr.valid_of (Esearch_ok hk) rfl rfl Try.func125 (c:=bodyOf Try.prog 125) rfl rfl Fsearch_ok rfl ?_
  rintro ⟨⟨(mv:List (List Bool)),(lf:List Int),(sn:List Bool),⟨⟩⟩,(a:Int),⟨⟩⟩ ⟨(h0:GOk (mv,lf,sn,())),(ha0:0≤a),(ha1:a<mv.length),(hu:unseen sn<k+1)⟩ -
  refine exec_sound (n:=1000) (Esearch_ok hk) Fsearch_ok ?_
  refine holds_of_eq (Esearch_t k mv lf sn a) ?_
  refine ⟨⟨ha0,ha1⟩,fun _=>?_⟩
  have hrow:(mv.getD a.toNat []).length=lf.length:=h0.row a.toNat (by show a.toNat<mv.length; omega)
  have hfew:mv.length≤1000∧lf.length≤1000:=h0.few
  have htot:searchF (k+1) (mv,lf,sn,()) a=sLoop (searchF k) a (mv.getD a.toNat []) (mv.getD a.toNat []).length 0 (mv,lf,sn,()):=rfl
  refine Reach.loopI (Esearch_ok hk) Fsearch_ok (fun s:Nat×GraphD=>Esearch_s2 a (mv.getD a.toNat []) ((mv.getD a.toNat []).length:Int) (s.1:Int) s.2.1 s.2.2.1 s.2.2.2.1) (fun s=>s.1≤lf.length∧Kept (mv,lf,sn,()) s.2∧sLoop (searchF k) a (mv.getD a.toNat []) (lf.length - s.1) s.1 s.2=searchF (k+1) (mv,lf,sn,()) a) (fun s=>lf.length - s.1) 1000 (fun _=>⟨uniq_of rfl,uniq_of rfl⟩) ?_ (0,(mv,lf,sn,())) ⟨by omega,Kept.refl h0,by rw [htot,hrow]; rfl⟩
  rintro ⟨i,⟨m1,l1,s1,⟨⟩⟩⟩ ⟨k1,k2,k3⟩ - ih
  have k1:i≤lf.length:=k1
  have k2:Kept (mv,lf,sn,()) (m1,l1,s1,()):=k2
  have k3:sLoop (searchF k) a (mv.getD a.toNat []) (lf.length - i) i (m1,l1,s1,())=searchF (k+1) (mv,lf,sn,()) a:=k3
  refine holds_of_eq (Esearch_l2 k ..) ?_
  have hl1:l1.length=lf.length:=k2.len
  have hs1:s1.length=l1.length:=k2.ok.seen
  have hm1:m1=mv:=k2.may
  have hun:unseen s1≤unseen sn:=k2.few h0
  simp only [holds_cond,Tree.holds,true_and,true_implies,decide_eq_true_eq,decide_eq_false_iff_not,Bool.not_eq_true',Bool.not_eq_false',Int.toNat_natCast,inK_i64,List.length_set,List.length_cons,List.length_nil]
  have fin:∀ {b:Bool} {G:GraphD},searchF (k+1) (mv,lf,sn,()) a=(G,b,())→((b,G,()):Bool×GraphD×Unit)=(bK (k+1) (mv,lf,sn,()) a,gK (k+1) (mv,lf,sn,()) a,()):=fun h=>by rw [bK,gK,h]
  refine ⟨fun c=>⟨by omega,fun _=>?_⟩,fun c=>fin ?_⟩
  · have hi:i<lf.length:=by omega
    rw [show lf.length - i=(lf.length - (i+1))+1 by omega,sLoop] at k3
    refine ⟨fun e=>?_,fun e=>⟨by omega,fun _=>⟨fun e2=>?_,fun e2=>⟨by omega,fun _=>⟨by omega,fun _=>⟨fun e3=>⟨by omega,fun _=>fin ?_⟩,fun e3=>⟨by omega,fun _=>?_⟩⟩⟩⟩⟩⟩⟩
    · rw [if_pos e] at k3
      exact ⟨by omega,fun _=>ih (i+1,(m1,l1,s1,())) ⟨by show i+1≤_; omega,k2,k3⟩ (by show _ - (i+1)<_ - i; omega)⟩
    · rw [if_neg (by rw [e]; simp),if_pos e2] at k3
      exact ⟨by omega,fun _=>ih (i+1,(m1,l1,s1,())) ⟨by show i+1≤_; omega,k2,k3⟩ (by show _ - (i+1)<_ - i; omega)⟩
    · rw [if_neg (by rw [e]; simp),if_neg (by show ¬ s1.getD i false=true; rw [e2]; simp),if_pos e3] at k3
      exact k3.symm
    · rw [if_neg (by rw [e]; simp),if_neg (by show ¬ s1.getD i false=true; rw [e2]; simp),if_neg e3] at k3
      have q1:Kept (m1,l1,s1,()) (m1,l1,s1.set i true,()):=k2.ok.set (b:=i) (by show i<l1.length; omega)
      have hx:l1.getD i 0<m1.length:=k2.ok.left i (by show 0≤l1.getD i 0; omega) (by show i<l1.length; omega)
      have hus:=unseen_set (l:=s1) (b:=i) (by omega) e2
      have q2:Kept (m1,l1,s1.set i true,()) (searchF k (m1,l1,s1.set i true,()) (l1.getD i 0)).1:=searchF_kept q1.ok (by omega) hx
      have q3:=(k2.trans q1).trans q2
      refine ⟨⟨q1.ok,by omega,hx,by show unseen (s1.set i true)<k; omega⟩,fun _=>⟨fun e4=>⟨?_,fun _=>fin ?_⟩,fun e4=>⟨by omega,fun _=>ih (i+1,(searchF k (m1,l1,s1.set i true,()) (l1.getD i 0)).1) ⟨by show i+1≤_; omega,q3,?_⟩ (by show _ - (i+1)<_ - i; omega)⟩⟩⟩
      · have:=q3.len
        have h9:(gK k (m1,l1,s1.set i true,()) (l1.getD i 0)).2.1.length=lf.length:=this
        omega
      · have e4:(searchF k (setSeen (m1,l1,s1,()) i) (l1.getD i 0)).2.1=true:=e4
        rw [if_pos e4] at k3
        exact k3.symm
      · have e4:(searchF k (setSeen (m1,l1,s1,()) i) (l1.getD i 0)).2.1=false:=e4
        rw [if_neg (by show ¬ (searchF k (setSeen (m1,l1,s1,()) i) (l1.getD i 0)).2.1=true; rw [e4]; simp)] at k3
        exact k3
  · have:i=lf.length:=by omega
    rw [this,Nat.sub_self,sLoop] at k3
    exact k3.symm
theorem _root_.Go.Ex.Ctr.Valid.never {P:Program} {f:FuncId} {c:Ctr} (h:∃ fn,P.funcs[f]?=some fn∧(fn.name == "runtime.NumGoroutine")=false∧fn.body.isNone=false) (hn:∀ x,¬ c.pre x):c.Valid P f :=
  ⟨h,fun _ _ _ x _ _ hp=>absurd hp (hn x),fun _ _ _ _ x _ _ hp=>absurd hp (hn x)⟩
theorem csearch_ent:∃ fn,Try.prog.funcs[125]?=some fn∧(fn.name == "runtime.NumGoroutine")=false∧fn.body.isNone=false:=⟨_,Try.func125,by kernel_rfl,by kernel_rfl⟩
theorem csearch_valid:∀ k,(csearchK k).Valid Try.prog 125
  | 0=>by
    refine Ctr.Valid.never ?_ ?_
    · exact (csearch_ent)
    · rintro ⟨⟨(mv:List (List Bool)),(lf:List Int),(sn:List Bool),⟨⟩⟩,(a:Int),⟨⟩⟩ ⟨_,_,_,h⟩
      exact absurd h (Nat.not_lt_zero _)
  | k+1=>csearch_step (csearch_valid k)
end Go.Proofs.Ytegigiecamjobaa
