/- match.Cover's search: what it marks; its contract, by the number of left nodes not yet marked. No condition but those named. -/
import Derived.Test.YtekbamiaenbhjaaMatchX
namespace Go.Proofs.Ytekbamiaenbhjaa
open Go.Ex
set_option maxRecDepth 100000
abbrev BS:Ty:=.d0 true .bool
abbrev c1q:Ty:=.pair (.d0 false (.d0 false .bool)) (.pair (.d0 false A4) (.pair (.d0 false .bool) .unit))
abbrev GP:Ty:=.box false none c1q
abbrev LR:Type:=List Bool×List Bool
def X7 (rec:LR→Int→LR) (g:p9) (row:List Bool):Nat→Nat→LR→LR
  | 0,_,s=>s
  | r+1,b,s =>
    if row.getD b false=true∧s.2.getD b false=false then
      (if 0≤g.2.1.getD b 0 then X7 rec g row r (b+1) (rec (s.1,s.2.set b true) (g.2.1.getD b 0)) else X7 rec g row r (b+1) (s.1,s.2.set b true))
    else X7 rec g row r (b+1) s
def I9:Nat→p9→LR→Int→LR
  | 0,_,s,_=>s
  | k+1,g,s,a=>if s.1.getD a.toNat false=true then s else X7 (I9 k g) g (g.1.getD a.toNat []) (g.1.getD a.toNat []).length 0 (s.1.set a.toNat true,s.2)
structure K3 (s s':LR):Prop where
  l1:s'.1.length=s.1.length
  l2:s'.2.length=s.2.length
  m1:∀ a,s.1.getD a false=true→s'.1.getD a false=true
  m2:∀ b,s.2.getD b false=true→s'.2.getD b false=true
theorem K3.refl (s:LR):K3 s s:=⟨rfl,rfl,fun _ h=>h,fun _ h=>h⟩
theorem K3.trans {s s' s'':LR} (h:K3 s s') (h':K3 s' s''):K3 s s'':=⟨h'.l1.trans h.l1,h'.l2.trans h.l2,fun a ha=>h'.m1 a (h.m1 a ha),fun b hb=>h'.m2 b (h.m2 b hb)⟩
theorem b1k {l:List Bool} {i j:Nat} (h:l.getD j false=true):(l.set i true).getD j false=true:=by
  by_cases hi:i<l.length
  · rw [E3 hi]; split
    · rfl
    · exact h
  · rw [List.set_eq_of_length_le (by omega)]; exact h
theorem K3.c0U (s:LR) (a:Nat):K3 s (s.1.set a true,s.2):=⟨List.length_set ..,rfl,fun _ h=>b1k h,fun _ h=>h⟩
theorem K3.b1m (s:LR) (b:Nat):K3 s (s.1,s.2.set b true):=⟨rfl,List.length_set ..,fun _ h=>h,fun _ h=>b1k h⟩
theorem a2o {rec:LR→Int→LR} {g:p9} {row:List Bool} (h:∀ s a,K3 s (rec s a)):∀ {r b:Nat} {s:LR},K3 s (X7 rec g row r b s)
  | 0,_,s=>K3.refl s
  | r+1,b,s=>by
    rw [X7]
    split
    · split
      · exact ((K3.b1m s b).trans (h _ _)).trans (a2o h)
      · exact (K3.b1m s b).trans (a2o h)
    · exact a2o h
theorem a3B:∀ {k:Nat} {g:p9} {s:LR} {a:Int},K3 s (I9 k g s a)
  | 0,_,s,_=>K3.refl s
  | k+1,g,s,a=>by
    rw [I9]
    split
    · exact K3.refl s
    · exact (K3.c0U s _).trans (a2o (fun _ _=>a3B))
theorem K3.few {s s':LR} (h:K3 s s'):C9 s'.1≤C9 s.1:=a3t h.l1 h.m1
structure ROk (g:p9) (s:LR):Prop where
  may:g.1.length=s.1.length
  row:∀ a,a<s.1.length→(g.1.getD a []).length=s.2.length
  len:g.2.1.length=s.2.length
  left:∀ b:Nat,b<s.2.length→0≤g.2.1.getD b 0→g.2.1.getD b 0<s.1.length
  few:s.1.length≤1000∧s.2.length≤1000
theorem ROk.c05 {g:p9} {s s':LR} (h:ROk g s) (k:K3 s s'):ROk g s':=by
  refine ⟨?_,?_,?_,?_,?_⟩
  · rw [k.l1]; exact h.may
  · rw [k.l1,k.l2]; exact h.row
  · rw [k.l2]; exact h.len
  · rw [k.l1,k.l2]; exact h.left
  · rw [k.l1,k.l2]; exact h.few
abbrev gOf (o:Option p9):p9:=o.getD ([],[],[],())
def b1t (k:Nat) (o:Option p9) (s:LR) (a:Int):Prop:=o.isSome=true∧ROk (gOf o) s∧0≤a∧a<s.1.length∧C9 s.1<k
def a1K (k:Nat):w8:={ ps:=[.v A4,.rw BS,.rd GP,.rw BS,.T8 198 3],rs:=[],pre:=fun x=>b1t k x.2.2.1 (x.2.1,x.2.2.2.1) x.1,fn:=fun _=>(),out:=fun x=>((I9 k (gOf x.2.2.1) (x.2.1,x.2.2.2.1) x.1).1,(I9 k (gOf x.2.2.1) (x.2.1,x.2.2.2.1) x.1).2,()) }
def rAK (k:Nat) (o:Option p9) (s:LR) (a:Int):List Bool:=(I9 k (gOf o) s a).1
def rBK (k:Nat) (o:Option p9) (s:LR) (a:Int):List Bool:=(I9 k (gOf o) s a).2
noncomputable def a8z (k:Nat):Env:={ P:=Try.prog,tt:=ttG,F7:=[(198,(a1K k))],res:=[],rs:=[],ps:=[PK.v (Ty.int IntKind.i64),PK.rw (Ty.d0 true Ty.bool),PK.rd (Ty.box false none (Ty.pair (Ty.d0 false (Ty.d0 false Ty.bool)) (Ty.pair (Ty.d0 false (Ty.int IntKind.i64)) (Ty.pair (Ty.d0 false Ty.bool) Ty.unit)))),PK.rw (Ty.d0 true Ty.bool),PK.T8 198 3],H2:=[(3,[(2,none),(3,none),(4,none),(21,none),(22,none),(23,none)])],nt:=57 }
theorem a5Q {k:Nat} (hk:(a1K k).Valid Try.prog 198):D7 (a8z k):=G8 a43 ⟨hk,trivial⟩
theorem a5O {k:Nat}:H9 (a8z k) Try.f198:=⟨rfl,rfl⟩
theorem b86 (k:Nat) (x0:Int) (x1:List Bool) (x2_b_1:List (List Bool)) (x2_b_2_1:List Int) (x2_b_2_2_1:List Bool) (x3:List Bool):exec (a8z k) 1000 [.code (d8 Try.prog 198)] (C2 (a1K k).ps ((x0,x1,some (x2_b_1,x2_b_2_1,x2_b_2_2_1,()),x3,(),()))) =
  .g9 ((0:Int)≤x0∧x0<(↑(List.length x1):Int)) (cond (List.getD x1 (Int.toNat x0) false) (.ret ((x1,x3,()))) (.g9 ((0:Int)≤x0∧x0<(↑(List.length x1):Int)) (.g9 (Option.isSome (some (x2_b_1,x2_b_2_1,x2_b_2_2_1,()))=true) (.g9 ((0:Int)≤x0∧x0<(↑(List.length (Prod.fst (Option.getD (some (x2_b_1,x2_b_2_1,x2_b_2_2_1,())) ([],[],[],())))):Int)) (.cut (e8 (d8 Try.prog 198) 3).1 (e8 (d8 Try.prog 198) 3).2 (St.mk [(2,AV.G9 (Ty.box false none (Ty.pair (Ty.d0 false (Ty.d0 false Ty.bool)) (Ty.pair (Ty.d0 false (Ty.int IntKind.i64)) (Ty.pair (Ty.d0 false Ty.bool) Ty.unit)))) (some (x2_b_1,x2_b_2_1,x2_b_2_2_1,()))),(3,AV.ptr 2000003 []),(4,AV.bx (AV.u6 198 (AV.rc 198 (AV.cons (AV.ptr 2000001 []) (AV.cons (AV.G9 (Ty.box false none (Ty.pair (Ty.d0 false (Ty.d0 false Ty.bool)) (Ty.pair (Ty.d0 false (Ty.int IntKind.i64)) (Ty.pair (Ty.d0 false Ty.bool) Ty.unit)))) (some (x2_b_1,x2_b_2_1,x2_b_2_2_1,()))) (AV.cons (AV.ptr 2000003 []) AV.nil)))))),(21,AV.val (Ty.d0 false Ty.bool) (List.getD (Prod.fst (Option.getD (some (x2_b_1,x2_b_2_1,x2_b_2_2_1,())) ([],[],[],()))) (Int.toNat x0) [])),(22,AV.val (Ty.int IntKind.i64) (↑(List.length (List.getD (Prod.fst (Option.getD (some (x2_b_1,x2_b_2_1,x2_b_2_2_1,())) ([],[],[],()))) (Int.toNat x0) [])):Int)),(23,AV.val (Ty.int IntKind.i64) (0:Int))] [(2000001,f7.var (Ty.d0 true Ty.bool) (List.set x1 (Int.toNat x0) true)),(2000003,f7.var (Ty.d0 true Ty.bool) x3)])))))):=by kernel_rfl
def b0l (v2_b_1:List (List Bool)) (v2_b_2_1:List Int) (v2_b_2_2_1:List Bool) (v4ba_b_1:List (List Bool)) (v4ba_b_2_1:List Int) (v4ba_b_2_2_1:List Bool) (v21:List Bool) (v22:Int) (v23:Int) (o2000001:List Bool) (o2000003:List Bool):St:=St.mk [(2,AV.G9 (Ty.box false none (Ty.pair (Ty.d0 false (Ty.d0 false Ty.bool)) (Ty.pair (Ty.d0 false (Ty.int IntKind.i64)) (Ty.pair (Ty.d0 false Ty.bool) Ty.unit)))) (some (v2_b_1,v2_b_2_1,v2_b_2_2_1,()))),(3,AV.ptr 2000003 []),(4,AV.bx (AV.u6 198 (AV.rc 198 (AV.cons (AV.ptr 2000001 []) (AV.cons (AV.G9 (Ty.box false none (Ty.pair (Ty.d0 false (Ty.d0 false Ty.bool)) (Ty.pair (Ty.d0 false (Ty.int IntKind.i64)) (Ty.pair (Ty.d0 false Ty.bool) Ty.unit)))) (some (v4ba_b_1,v4ba_b_2_1,v4ba_b_2_2_1,()))) (AV.cons (AV.ptr 2000003 []) AV.nil)))))),(21,AV.val (Ty.d0 false Ty.bool) v21),(22,AV.val (Ty.int IntKind.i64) v22),(23,AV.val (Ty.int IntKind.i64) v23)] [(2000001,f7.var (Ty.d0 true Ty.bool) o2000001),(2000003,f7.var (Ty.d0 true Ty.bool) o2000003)]
theorem b70 (k:Nat) (v2_b_1:List (List Bool)) (v2_b_2_1:List Int) (v2_b_2_2_1:List Bool) (v4ba_b_1:List (List Bool)) (v4ba_b_2_1:List Int) (v4ba_b_2_2_1:List Bool) (v21:List Bool) (v22:Int) (v23:Int) (o2000001:List Bool) (o2000003:List Bool):exec (a8z k) 1000 (.code (e8 (d8 Try.prog 198) 3).1::.inLoop (e8 (d8 Try.prog 198) 3).1::(e8 (d8 Try.prog 198) 3).2) (b0l v2_b_1 v2_b_2_1 v2_b_2_2_1 v4ba_b_1 v4ba_b_2_1 v4ba_b_2_2_1 v21 v22 v23 o2000001 o2000003) =
  cond (decide (v23<v22)) (.g9 ((0:Int)≤v23∧v23<(↑(List.length v21):Int)) (cond (List.getD v21 (Int.toNat v23) false) (.g9 ((0:Int)≤v23∧v23<(↑(List.length o2000003):Int)) (cond (!List.getD o2000003 (Int.toNat v23) false) (.g9 ((0:Int)≤v23∧v23<(↑(List.length o2000003):Int)) (.g9 (Option.isSome (some (v2_b_1,v2_b_2_1,v2_b_2_2_1,()))=true) (.g9 ((0:Int)≤v23∧v23<(↑(List.length (Prod.fst (Prod.snd (Option.getD (some (v2_b_1,v2_b_2_1,v2_b_2_2_1,())) ([],[],[],()))))):Int)) (cond (decide ((0:Int)≤List.getD (Prod.fst (Prod.snd (Option.getD (some (v2_b_1,v2_b_2_1,v2_b_2_2_1,())) ([],[],[],())))) (Int.toNat v23) (0:Int))) (.g9 (Option.isSome (some (v2_b_1,v2_b_2_1,v2_b_2_2_1,()))=true) (.g9 ((0:Int)≤v23∧v23<(↑(List.length (Prod.fst (Prod.snd (Option.getD (some (v2_b_1,v2_b_2_1,v2_b_2_2_1,())) ([],[],[],()))))):Int)) (.g9 (b1t k (some (v4ba_b_1,v4ba_b_2_1,v4ba_b_2_2_1,())) (o2000001,List.set o2000003 (Int.toNat v23) true) (List.getD (Prod.fst (Prod.snd (Option.getD (some (v2_b_1,v2_b_2_1,v2_b_2_2_1,())) ([],[],[],())))) (Int.toNat v23) (0:Int))) (.g9 (B2 IntKind.i64 (v23+(1:Int))) (.cut (e8 (d8 Try.prog 198) 3).1 (e8 (d8 Try.prog 198) 3).2 (St.mk [(2,AV.G9 (Ty.box false none (Ty.pair (Ty.d0 false (Ty.d0 false Ty.bool)) (Ty.pair (Ty.d0 false (Ty.int IntKind.i64)) (Ty.pair (Ty.d0 false Ty.bool) Ty.unit)))) (some (v2_b_1,v2_b_2_1,v2_b_2_2_1,()))),(3,AV.ptr 2000003 []),(4,AV.bx (AV.u6 198 (AV.rc 198 (AV.cons (AV.ptr 2000001 []) (AV.cons (AV.G9 (Ty.box false none (Ty.pair (Ty.d0 false (Ty.d0 false Ty.bool)) (Ty.pair (Ty.d0 false (Ty.int IntKind.i64)) (Ty.pair (Ty.d0 false Ty.bool) Ty.unit)))) (some (v4ba_b_1,v4ba_b_2_1,v4ba_b_2_2_1,()))) (AV.cons (AV.ptr 2000003 []) AV.nil)))))),(21,AV.val (Ty.d0 false Ty.bool) v21),(22,AV.val (Ty.int IntKind.i64) v22),(23,AV.val (Ty.int IntKind.i64) (v23+(1:Int)))] [(2000001,f7.var (Ty.d0 true Ty.bool) (rAK k (some (v4ba_b_1,v4ba_b_2_1,v4ba_b_2_2_1,())) (o2000001,List.set o2000003 (Int.toNat v23) true) (List.getD (Prod.fst (Prod.snd (Option.getD (some (v2_b_1,v2_b_2_1,v2_b_2_2_1,())) ([],[],[],())))) (Int.toNat v23) (0:Int)))),(2000003,f7.var (Ty.d0 true Ty.bool) (rBK k (some (v4ba_b_1,v4ba_b_2_1,v4ba_b_2_2_1,())) (o2000001,List.set o2000003 (Int.toNat v23) true) (List.getD (Prod.fst (Prod.snd (Option.getD (some (v2_b_1,v2_b_2_1,v2_b_2_2_1,())) ([],[],[],())))) (Int.toNat v23) (0:Int))))])))))) (.g9 (B2 IntKind.i64 (v23+(1:Int))) (.cut (e8 (d8 Try.prog 198) 3).1 (e8 (d8 Try.prog 198) 3).2 (St.mk [(2,AV.G9 (Ty.box false none (Ty.pair (Ty.d0 false (Ty.d0 false Ty.bool)) (Ty.pair (Ty.d0 false (Ty.int IntKind.i64)) (Ty.pair (Ty.d0 false Ty.bool) Ty.unit)))) (some (v2_b_1,v2_b_2_1,v2_b_2_2_1,()))),(3,AV.ptr 2000003 []),(4,AV.bx (AV.u6 198 (AV.rc 198 (AV.cons (AV.ptr 2000001 []) (AV.cons (AV.G9 (Ty.box false none (Ty.pair (Ty.d0 false (Ty.d0 false Ty.bool)) (Ty.pair (Ty.d0 false (Ty.int IntKind.i64)) (Ty.pair (Ty.d0 false Ty.bool) Ty.unit)))) (some (v4ba_b_1,v4ba_b_2_1,v4ba_b_2_2_1,()))) (AV.cons (AV.ptr 2000003 []) AV.nil)))))),(21,AV.val (Ty.d0 false Ty.bool) v21),(22,AV.val (Ty.int IntKind.i64) v22),(23,AV.val (Ty.int IntKind.i64) (v23+(1:Int)))] [(2000001,f7.var (Ty.d0 true Ty.bool) o2000001),(2000003,f7.var (Ty.d0 true Ty.bool) (List.set o2000003 (Int.toNat v23) true))]))))))) (.g9 (B2 IntKind.i64 (v23+(1:Int))) (.cut (e8 (d8 Try.prog 198) 3).1 (e8 (d8 Try.prog 198) 3).2 (St.mk [(2,AV.G9 (Ty.box false none (Ty.pair (Ty.d0 false (Ty.d0 false Ty.bool)) (Ty.pair (Ty.d0 false (Ty.int IntKind.i64)) (Ty.pair (Ty.d0 false Ty.bool) Ty.unit)))) (some (v2_b_1,v2_b_2_1,v2_b_2_2_1,()))),(3,AV.ptr 2000003 []),(4,AV.bx (AV.u6 198 (AV.rc 198 (AV.cons (AV.ptr 2000001 []) (AV.cons (AV.G9 (Ty.box false none (Ty.pair (Ty.d0 false (Ty.d0 false Ty.bool)) (Ty.pair (Ty.d0 false (Ty.int IntKind.i64)) (Ty.pair (Ty.d0 false Ty.bool) Ty.unit)))) (some (v4ba_b_1,v4ba_b_2_1,v4ba_b_2_2_1,()))) (AV.cons (AV.ptr 2000003 []) AV.nil)))))),(21,AV.val (Ty.d0 false Ty.bool) v21),(22,AV.val (Ty.int IntKind.i64) v22),(23,AV.val (Ty.int IntKind.i64) (v23+(1:Int)))] [(2000001,f7.var (Ty.d0 true Ty.bool) o2000001),(2000003,f7.var (Ty.d0 true Ty.bool) o2000003)]))))) (.g9 (B2 IntKind.i64 (v23+(1:Int))) (.cut (e8 (d8 Try.prog 198) 3).1 (e8 (d8 Try.prog 198) 3).2 (St.mk [(2,AV.G9 (Ty.box false none (Ty.pair (Ty.d0 false (Ty.d0 false Ty.bool)) (Ty.pair (Ty.d0 false (Ty.int IntKind.i64)) (Ty.pair (Ty.d0 false Ty.bool) Ty.unit)))) (some (v2_b_1,v2_b_2_1,v2_b_2_2_1,()))),(3,AV.ptr 2000003 []),(4,AV.bx (AV.u6 198 (AV.rc 198 (AV.cons (AV.ptr 2000001 []) (AV.cons (AV.G9 (Ty.box false none (Ty.pair (Ty.d0 false (Ty.d0 false Ty.bool)) (Ty.pair (Ty.d0 false (Ty.int IntKind.i64)) (Ty.pair (Ty.d0 false Ty.bool) Ty.unit)))) (some (v4ba_b_1,v4ba_b_2_1,v4ba_b_2_2_1,()))) (AV.cons (AV.ptr 2000003 []) AV.nil)))))),(21,AV.val (Ty.d0 false Ty.bool) v21),(22,AV.val (Ty.int IntKind.i64) v22),(23,AV.val (Ty.int IntKind.i64) (v23+(1:Int)))] [(2000001,f7.var (Ty.d0 true Ty.bool) o2000001),(2000003,f7.var (Ty.d0 true Ty.bool) o2000003)]))))) (.ret ((o2000001,o2000003,()))):=by kernel_rfl
theorem b3v {k:Nat} (hk:(a1K k).Valid Try.prog 198):(a1K (k+1)).Valid Try.prog 198:=by
  refine w8.y8 (a5Q hk) rfl rfl Try.func198 (c:=d8 Try.prog 198) rfl rfl a5O rfl ?_
  rintro ⟨(a:Int),(L:List Bool),(o:Option p9),(R:List Bool),⟨⟩,⟨⟩⟩ ⟨(ho:o.isSome=true),(h0:ROk (gOf o) (L,R)),(ha0:0≤a),(ha1:a<L.length),(hu:C9 L<k+1)⟩ -
  obtain ⟨⟨mv,lf,sn,⟨⟩⟩,rfl⟩:=Option.isSome_iff_exists.1 ho
  have h0:ROk (mv,lf,sn,()) (L,R):=h0
  refine p8 (n:=1000) (a5Q hk) a5O ?_
  refine l4 (b86 k a L mv lf sn R) ?_
  have hrow:(mv.getD a.toNat []).length=R.length:=h0.row a.toNat (by show a.toNat<L.length; omega)
  have hmv:mv.length=L.length:=h0.may
  have hlf:lf.length=R.length:=h0.len
  have hfew:L.length≤1000∧R.length≤1000:=h0.few
  have hleft:∀ b:Nat,b<R.length→0≤lf.getD b 0→lf.getD b 0<L.length:=h0.left
  simp only [p7,Tree.holds,true_and,true_implies,decide_eq_true_eq,decide_eq_false_iff_not,Bool.not_eq_true',Bool.not_eq_false',Int.toNat_natCast,u7,List.length_set,List.length_cons,List.length_nil,Option.isSome_some,Option.getD_some]
  refine ⟨⟨ha0,ha1⟩,fun _=>⟨fun c=>?_,fun c=>⟨⟨ha0,ha1⟩,fun _=>⟨⟨ha0,by omega⟩,fun _=>?_⟩⟩⟩⟩
  · show ((L,R,()):List Bool×List Bool×Unit)=((I9 (k+1) (mv,lf,sn,()) (L,R) a).1,(I9 (k+1) (mv,lf,sn,()) (L,R) a).2,())
    rw [I9,if_pos c]
  have htot:I9 (k+1) (mv,lf,sn,()) (L,R) a=X7 (I9 k (mv,lf,sn,())) (mv,lf,sn,()) (mv.getD a.toNat []) R.length 0 (L.set a.toNat true,R):=by
    rw [I9,if_neg (by show ¬ L.getD a.toNat false=true; rw [c]; simp)]
    show X7 _ _ _ (mv.getD a.toNat []).length 0 _=_
    rw [hrow]
  have hus:=a2m (l:=L) (b:=a.toNat) (by omega) c
  refine Reach.J8 (a5Q hk) a5O (fun s:Nat×LR=>b0l mv lf sn mv lf sn (mv.getD a.toNat []) ((mv.getD a.toNat []).length:Int) (s.1:Int) s.2.1 s.2.2) (fun s=>s.1≤R.length∧K3 (L.set a.toNat true,R) s.2∧X7 (I9 k (mv,lf,sn,())) (mv,lf,sn,()) (mv.getD a.toNat []) (R.length - s.1) s.1 s.2=I9 (k+1) (mv,lf,sn,()) (L,R) a) (fun s=>R.length - s.1) 1000 (fun _=>⟨r9 rfl,r9 rfl⟩) ?_ (0,(L.set a.toNat true,R)) ⟨Nat.zero_le _,K3.refl _,htot.symm⟩
  rintro ⟨i,⟨L1,R1⟩⟩ ⟨k1,k2,k3⟩ - ih
  have k1:i≤R.length:=k1
  have k2:K3 (L.set a.toNat true,R) (L1,R1):=k2
  have k3:X7 (I9 k (mv,lf,sn,())) (mv,lf,sn,()) (mv.getD a.toNat []) (R.length - i) i (L1,R1)=I9 (k+1) (mv,lf,sn,()) (L,R) a:=k3
  refine l4 (b70 k ..) ?_
  have hl1:L1.length=L.length:=by have:=k2.l1; simpa using this
  have hr1:R1.length=R.length:=k2.l2
  have hun:C9 L1≤C9 (L.set a.toNat true):=k2.few
  have hok1:ROk (mv,lf,sn,()) (L1,R1):=h0.c05 ((K3.c0U (L,R) a.toNat).trans k2)
  simp only [p7,Tree.holds,true_and,true_implies,decide_eq_true_eq,decide_eq_false_iff_not,Bool.not_eq_true',Bool.not_eq_false',Int.toNat_natCast,u7,List.length_set,List.length_cons,List.length_nil,Option.isSome_some,Option.getD_some]
  refine ⟨fun c1=>⟨by omega,fun _=>⟨fun e1=>⟨by omega,fun _=>⟨fun e2=>⟨by omega,fun _=>⟨by omega,fun _=>⟨fun e3=>⟨by omega,fun _=>⟨?_,fun _=>⟨by omega,fun _=>?_⟩⟩⟩,fun e3=>⟨by omega,fun _=>?_⟩⟩⟩⟩,fun e2=>⟨by omega,fun _=>?_⟩⟩⟩,fun e1=>⟨by omega,fun _=>?_⟩⟩⟩,fun c1=>?_⟩
  · have hi:i<R.length:=by omega
    exact ⟨rfl,hok1.c05 (K3.b1m _ _),e3,by show lf.getD i 0<L1.length; have:=hleft i hi e3; omega,by show C9 L1<k; omega⟩
  · have hi:i<R.length:=by omega
    rw [show R.length - i=(R.length - (i+1))+1 by omega,X7,if_pos ⟨e1,e2⟩,if_pos e3] at k3
    exact ih (i+1,I9 k (mv,lf,sn,()) (L1,R1.set i true) (lf.getD i 0)) ⟨by show i+1≤_; omega,(k2.trans (K3.b1m (L1,R1) i)).trans a3B,k3⟩ (by show _ - (i+1)<_ - i; omega)
  · have hi:i<R.length:=by omega
    rw [show R.length - i=(R.length - (i+1))+1 by omega,X7,if_pos ⟨e1,e2⟩,if_neg (by show ¬ 0≤lf.getD i 0; omega)] at k3
    exact ih (i+1,(L1,R1.set i true)) ⟨by show i+1≤_; omega,k2.trans (K3.b1m (L1,R1) i),k3⟩ (by show _ - (i+1)<_ - i; omega)
  · have hi:i<R.length:=by omega
    rw [show R.length - i=(R.length - (i+1))+1 by omega,X7,if_neg (fun h=>by have h2:R1.getD i false=false:=h.2; rw [e2] at h2; cases h2)] at k3
    exact ih (i+1,(L1,R1)) ⟨by show i+1≤_; omega,k2,k3⟩ (by show _ - (i+1)<_ - i; omega)
  · have hi:i<R.length:=by omega
    rw [show R.length - i=(R.length - (i+1))+1 by omega,X7,if_neg (fun h=>by rw [e1] at h; exact absurd h.1 (by simp))] at k3
    exact ih (i+1,(L1,R1)) ⟨by show i+1≤_; omega,k2,k3⟩ (by show _ - (i+1)<_ - i; omega)
  · have:i=R.length:=by omega
    rw [this,Nat.sub_self,X7] at k3
    show ((L1,R1,()):List Bool×List Bool×Unit)=((I9 (k+1) (mv,lf,sn,()) (L,R) a).1,(I9 (k+1) (mv,lf,sn,()) (L,R) a).2,())
    rw [← k3]
theorem a5y:∀ k,(a1K k).Valid Try.prog 198
  | 0=>by
    refine w8.Valid.never ⟨_,Try.func198,by kernel_rfl,by kernel_rfl⟩ ?_
    rintro ⟨(a:Int),(L:List Bool),(o:Option p9),(R:List Bool),⟨⟩,⟨⟩⟩ ⟨_,_,_,_,h⟩
    exact absurd h (Nat.not_lt_zero _)
  | k+1=>b3v (a5y k)
def c1b:w8:=a1K 41
theorem b5N:c1b.Valid Try.prog 198:=a5y 41
end Go.Proofs.Ytekbamiaenbhjaa
