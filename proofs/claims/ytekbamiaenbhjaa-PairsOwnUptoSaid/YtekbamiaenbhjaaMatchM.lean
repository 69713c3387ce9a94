/- match.most and match.Most. No condition but those named. -/
import Derived.Test.YtekbamiaenbhjaaMatchB
namespace Go.Proofs.Ytekbamiaenbhjaa
open Go.Ex
set_option maxRecDepth 100000
def mark (w:List (List Bool)) (p:l6):List (List Bool):=w.set p.1.toNat ((w.getD p.1.toNat []).set p.2.1.toNat true)
def a0u (m n:Int) (l:List l6):List (List Bool):=l.foldl mark (List.replicate m.toNat (List.replicate n.toNat false))
def U5 (n:Int) (g:p9) (a:Nat):p9:=(E0 41 (g.1,g.2.1,List.replicate n.toNat false,()) (a:Int)).1
def M8 (m n:Int) (l:List l6):p9:=(List.range m.toNat).foldl (U5 n) (a0u m n l,List.replicate n.toNat (-1),[],())
def inP (m n:Int) (l:List l6):Prop:=(0≤m∧m≤40)∧(0≤n∧n≤40)∧∀ q∈l,(0≤q.1∧q.1<m)∧(0≤q.2.1∧q.2.1<n)
theorem b5K:c1a.Valid Try.prog 264:=a4X 41
def b0Z:w8:={ ps:=[.v A4,.v A4,.v (.d0 false l5)],rs:=[.box true none b2G],pre:=fun x=>inP x.1 x.2.1 x.2.2.1,fn:=fun x=>((some (M8 x.1 x.2.1 x.2.2.1):Option p9),()),out:=fun _=>() }
noncomputable def a6j:Env:={ P:=Try.prog,tt:=ttG,F7:=[(135,b5M),(264,c1a)],res:=[Go.ResultVar.tmp 6],rs:=[Ty.box true none (Ty.pair (Ty.d0 false (Ty.d0 false Ty.bool)) (Ty.pair Is (Ty.pair (Ty.d0 true Ty.bool) Ty.unit)))],ps:=[PK.v (Ty.int IntKind.i64),PK.v (Ty.int IntKind.i64),PK.v (Ty.d0 false l5)],H2:=[(3,[(0,none),(1,none),(2,none),(7,none),(16,none),(17,none)]),(7,[(0,none),(1,none),(7,none),(31,none),(32,none),(33,none)]),(12,[(1,none),(7,some b2G),(49,none),(50,none)])],nt:=63 }
theorem a27:D7 a6j:=G8 a43 ⟨a8f,b5K,trivial⟩
theorem a23:H9 a6j Try.f197:=⟨rfl,rfl⟩
theorem c0z (x0:Int) (x1:Int) (x2:List (Int×Int×Unit)):exec a6j 1000 [.code (d8 Try.prog 197)] (C2 b0Z.ps ((x0,x1,x2,()))) =
  .g9 (List.length (List.set [(0:Int)] (Int.toNat (↑0:Int)) (-1:Int))=1∧(0:Int)≤x1∧x1≤(40:Int)) (.cut (e8 (d8 Try.prog 197) 3).1 (e8 (d8 Try.prog 197) 3).2 (St.mk [(0,AV.val (Ty.int IntKind.i64) x0),(1,AV.val (Ty.int IntKind.i64) x1),(2,AV.val (Ty.d0 false l5) x2),(7,AV.ptr 15 []),(16,AV.val (Ty.int IntKind.i64) x0),(17,AV.val (Ty.int IntKind.i64) (0:Int))] [(15,f7.var (Ty.pair (Ty.d0 true (Ty.d0 true Ty.bool)) (Ty.pair Is (Ty.pair (Ty.d0 true Ty.bool) Ty.unit))) ([],List.replicate (Int.toNat x1) (List.getD (List.set [(0:Int)] (Int.toNat (↑0:Int)) (-1:Int)) 0 (0:Int)),[],()))])):=by kernel_rfl
def b2T (v0:Int) (v1:Int) (v2:List (Int×Int×Unit)) (v16:Int) (v17:Int) (o15_1:List (List Bool)) (o15_2_1:List Int) (o15_2_2_1:List Bool):St:=St.mk [(0,AV.val (Ty.int IntKind.i64) v0),(1,AV.val (Ty.int IntKind.i64) v1),(2,AV.val (Ty.d0 false l5) v2),(7,AV.ptr 15 []),(16,AV.val (Ty.int IntKind.i64) v16),(17,AV.val (Ty.int IntKind.i64) v17)] [(15,f7.var (Ty.pair (Ty.d0 true (Ty.d0 true Ty.bool)) (Ty.pair Is (Ty.pair (Ty.d0 true Ty.bool) Ty.unit))) (o15_1,o15_2_1,o15_2_2_1,()))]
theorem b9a (v0:Int) (v1:Int) (v2:List (Int×Int×Unit)) (v16:Int) (v17:Int) (o15_1:List (List Bool)) (o15_2_1:List Int) (o15_2_2_1:List Bool):exec a6j 1000 (.code (e8 (d8 Try.prog 197) 3).1::.inLoop (e8 (d8 Try.prog 197) 3).1::(e8 (d8 Try.prog 197) 3).2) (b2T v0 v1 v2 v16 v17 o15_1 o15_2_1 o15_2_2_1) =
  cond (decide (v17<v16)) (.g9 ((0:Int)≤v1∧v1≤v1∧v1≤(140737488355328:Int)∧v1*(↑(Ty.wb Ty.bool):Int)≤(140737488355328:Int)) (.g9 ([]++[Step.j6 0]=[]++[Step.j6 0]∧List.length o15_1+List.length (List.set [[]] (Int.toNat (↑0:Int)) (List.replicate (Int.toNat v1) false))≤140737488355328∧(List.length o15_1+List.length (List.set [[]] (Int.toNat (↑0:Int)) (List.replicate (Int.toNat v1) false)))*Ty.wb (Ty.d0 true Ty.bool)≤140737488355328) (.g9 (B2 IntKind.i64 (v17+(1:Int))) (.cut (e8 (d8 Try.prog 197) 3).1 (e8 (d8 Try.prog 197) 3).2 (St.mk [(0,AV.val (Ty.int IntKind.i64) v0),(1,AV.val (Ty.int IntKind.i64) v1),(2,AV.val (Ty.d0 false l5) v2),(7,AV.ptr 15 []),(16,AV.val (Ty.int IntKind.i64) v16),(17,AV.val (Ty.int IntKind.i64) (v17+(1:Int)))] [(15,f7.var (Ty.pair (Ty.d0 true (Ty.d0 true Ty.bool)) (Ty.pair Is (Ty.pair (Ty.d0 true Ty.bool) Ty.unit))) (o15_1++List.set [[]] (Int.toNat (↑0:Int)) (List.replicate (Int.toNat v1) false),o15_2_1,o15_2_2_1,()))]))))) (.cut (e8 (d8 Try.prog 197) 7).1 (e8 (d8 Try.prog 197) 7).2 (St.mk [(0,AV.val (Ty.int IntKind.i64) v0),(1,AV.val (Ty.int IntKind.i64) v1),(7,AV.ptr 15 []),(31,AV.val (Ty.d0 false l5) v2),(32,AV.val (Ty.int IntKind.i64) (↑(List.length v2):Int)),(33,AV.val (Ty.int IntKind.i64) (0:Int))] [(15,f7.var (Ty.pair (Ty.d0 true (Ty.d0 true Ty.bool)) (Ty.pair Is (Ty.pair (Ty.d0 true Ty.bool) Ty.unit))) (o15_1,o15_2_1,o15_2_2_1,()))])):=by kernel_rfl
def b2S (v0:Int) (v1:Int) (v31:List (Int×Int×Unit)) (v32:Int) (v33:Int) (o15_1:List (List Bool)) (o15_2_1:List Int) (o15_2_2_1:List Bool):St:=St.mk [(0,AV.val (Ty.int IntKind.i64) v0),(1,AV.val (Ty.int IntKind.i64) v1),(7,AV.ptr 15 []),(31,AV.val (Ty.d0 false l5) v31),(32,AV.val (Ty.int IntKind.i64) v32),(33,AV.val (Ty.int IntKind.i64) v33)] [(15,f7.var (Ty.pair (Ty.d0 true (Ty.d0 true Ty.bool)) (Ty.pair Is (Ty.pair (Ty.d0 true Ty.bool) Ty.unit))) (o15_1,o15_2_1,o15_2_2_1,()))]
theorem b89 (v0:Int) (v1:Int) (v31:List (Int×Int×Unit)) (v32:Int) (v33:Int) (o15_1:List (List Bool)) (o15_2_1:List Int) (o15_2_2_1:List Bool):exec a6j 1000 (.code (e8 (d8 Try.prog 197) 7).1::.inLoop (e8 (d8 Try.prog 197) 7).1::(e8 (d8 Try.prog 197) 7).2) (b2S v0 v1 v31 v32 v33 o15_1 o15_2_1 o15_2_2_1) =
  cond (decide (v33<v32)) (.g9 ((0:Int)≤v33∧v33<(↑(List.length v31):Int)) (.g9 ((0:Int)≤Prod.fst (List.getD v31 (Int.toNat v33) ((0:Int),(0:Int),()))∧Prod.fst (List.getD v31 (Int.toNat v33) ((0:Int),(0:Int),()))<(↑(List.length o15_1):Int)) (.g9 ((0:Int)≤Prod.fst (Prod.snd (List.getD v31 (Int.toNat v33) ((0:Int),(0:Int),())))∧Prod.fst (Prod.snd (List.getD v31 (Int.toNat v33) ((0:Int),(0:Int),())))<(↑(List.length (List.getD o15_1 (Int.toNat (Prod.fst (List.getD v31 (Int.toNat v33) ((0:Int),(0:Int),())))) [])):Int)) (.g9 (B2 IntKind.i64 (v33+(1:Int))) (.cut (e8 (d8 Try.prog 197) 7).1 (e8 (d8 Try.prog 197) 7).2 (St.mk [(0,AV.val (Ty.int IntKind.i64) v0),(1,AV.val (Ty.int IntKind.i64) v1),(7,AV.ptr 15 []),(31,AV.val (Ty.d0 false l5) v31),(32,AV.val (Ty.int IntKind.i64) v32),(33,AV.val (Ty.int IntKind.i64) (v33+(1:Int)))] [(15,f7.var (Ty.pair (Ty.d0 true (Ty.d0 true Ty.bool)) (Ty.pair Is (Ty.pair (Ty.d0 true Ty.bool) Ty.unit))) (List.set o15_1 (Int.toNat (Prod.fst (List.getD v31 (Int.toNat v33) ((0:Int),(0:Int),())))) (List.set (List.getD o15_1 (Int.toNat (Prod.fst (List.getD v31 (Int.toNat v33) ((0:Int),(0:Int),())))) []) (Int.toNat (Prod.fst (Prod.snd (List.getD v31 (Int.toNat v33) ((0:Int),(0:Int),()))))) true),o15_2_1,o15_2_2_1,()))])))))) (.cut (e8 (d8 Try.prog 197) 12).1 (e8 (d8 Try.prog 197) 12).2 (St.mk [(1,AV.val (Ty.int IntKind.i64) v1),(7,AV.ptr 15 []),(49,AV.val (Ty.int IntKind.i64) v0),(50,AV.val (Ty.int IntKind.i64) (0:Int))] [(15,f7.var (Ty.pair (Ty.d0 false (Ty.d0 false Ty.bool)) (Ty.pair Is (Ty.pair (Ty.d0 true Ty.bool) Ty.unit))) (o15_1,o15_2_1,o15_2_2_1,()))])):=by kernel_rfl
def b0n (v1:Int) (v49:Int) (v50:Int) (o15_1:List (List Bool)) (o15_2_1:List Int) (o15_2_2_1:List Bool):St:=St.mk [(1,AV.val (Ty.int IntKind.i64) v1),(7,AV.ptr 15 []),(49,AV.val (Ty.int IntKind.i64) v49),(50,AV.val (Ty.int IntKind.i64) v50)] [(15,f7.var (Ty.pair (Ty.d0 false (Ty.d0 false Ty.bool)) (Ty.pair Is (Ty.pair (Ty.d0 true Ty.bool) Ty.unit))) (o15_1,o15_2_1,o15_2_2_1,()))]
theorem b72 (v1:Int) (v49:Int) (v50:Int) (o15_1:List (List Bool)) (o15_2_1:List Int) (o15_2_2_1:List Bool):exec a6j 1000 (.code (e8 (d8 Try.prog 197) 12).1::.inLoop (e8 (d8 Try.prog 197) 12).1::(e8 (d8 Try.prog 197) 12).2) (b0n v1 v49 v50 o15_1 o15_2_1 o15_2_2_1) =
  cond (decide (v50<v49)) (.g9 ((0:Int)≤v1∧v1≤v1∧v1≤(140737488355328:Int)∧v1*(↑(Ty.wb Ty.bool):Int)≤(140737488355328:Int)) (.g9 (sK 41 (o15_1,o15_2_1,List.replicate (Int.toNat v1) false,()) v50) (.g9 (B2 IntKind.i64 (v50+(1:Int))) (.cut (e8 (d8 Try.prog 197) 12).1 (e8 (d8 Try.prog 197) 12).2 (St.mk [(1,AV.val (Ty.int IntKind.i64) v1),(7,AV.ptr 15 []),(49,AV.val (Ty.int IntKind.i64) v49),(50,AV.val (Ty.int IntKind.i64) (v50+(1:Int)))] [(15,f7.var (Ty.pair (Ty.d0 false (Ty.d0 false Ty.bool)) (Ty.pair Is (Ty.pair (Ty.d0 true Ty.bool) Ty.unit))) (gK 41 (o15_1,o15_2_1,List.replicate (Int.toNat v1) false,()) v50))]))))) (.ret ((some (o15_1,o15_2_1,o15_2_2_1,()),()))):=by kernel_rfl
structure MOk (m n:Nat) (g:p9):Prop where
  may:g.1.length=m
  row:∀ a,a<m→(g.1.getD a []).length=n
  len:g.2.1.length=n
  left:∀ b:Nat,b<n→0≤g.2.1.getD b 0→g.2.1.getD b 0<m
theorem MOk.fresh {m n:Nat} {g:p9} (h:MOk m n g) (hm:m≤40) (hn:n≤40):T3 (g.1,g.2.1,List.replicate n false,()):=by
  have h1:=h.may
  have h2:=h.len
  refine ⟨by show (List.replicate n false).length=g.2.1.length; rw [List.length_replicate,h2],fun a ha=>by rw [h.row a (by rw [← h1]; exact ha)]; exact h2.symm,fun b h0 hb=>?_,by show g.1.length≤1000∧g.2.1.length≤1000; omega⟩
  have:=h.left b (by rw [← h2]; exact hb) h0
  show _<((g.1.length:Nat):Int)
  rw [h1]; exact this
theorem a7t (n:Nat):C9 (List.replicate n false)=n:=by simp [C9]
theorem MOk.step {m n:Nat} {g:p9} (h:MOk m n g) (hm:m≤40) (hn:n≤40) {a:Nat} (ha:a<m):MOk m n (U5 (n:Int) g a):=by
  have h1:=h.may
  have h2:=h.len
  have k:Kept (g.1,g.2.1,List.replicate n false,()) (U5 (n:Int) g a):=T7 (h.fresh hm hn) (by omega) (by show (a:Int)<g.1.length; omega)
  have e1:=k.may
  have e2:=k.len
  refine ⟨by rw [e1]; exact h1,fun c hc=>by rw [e1]; exact h.row c hc,by rw [e2]; exact h2,fun b hb h0=>?_⟩
  have:=k.ok.left b h0 (by rw [e2]; show b<g.2.1.length; omega)
  rw [e1] at this
  have h9:(U5 (n:Int) g a).2.1.getD b 0<g.1.length:=this
  omega
theorem a2N {w:List (List Bool)} {p:l6}:(mark w p).length=w.length:=by rw [mark,List.length_set]
theorem a6V {w:List (List Bool)} {p:l6} {n:Nat} (h:∀ a,a<w.length→(w.getD a []).length=n):∀ a,a<(mark w p).length→((mark w p).getD a []).length=n:=by
  intro a ha
  rw [a2N] at ha
  rw [mark]
  by_cases hp:p.1.toNat<w.length
  · rw [E3 hp]
    split
    · rw [List.length_set]; exact h _ hp
    · exact h a ha
  · rw [List.set_eq_of_length_le (by omega)]; exact h a ha
theorem b1G {n:Nat}:∀ {l:List l6} {w:List (List Bool)},(∀ a,a<w.length→(w.getD a []).length=n)→(l.foldl mark w).length=w.length∧∀ a,a<w.length→((l.foldl mark w).getD a []).length=n
  | [],w,h=>⟨rfl,h⟩
  | p::l,w,h=>by
    have ih:=b1G (l:=l) (w:=mark w p) (a6V h)
    rw [a2N] at ih
    exact ih
theorem a4r {m n:Nat} {l:List l6}:MOk m n (a0u m n l,List.replicate n (-1),[],()):=by
  have h:=b1G (n:=n) (l:=l) (w:=List.replicate m (List.replicate n false)) (fun a ha=>by rw [List.length_replicate] at ha; rw [a3A _ _ ha,List.length_replicate])
  rw [List.length_replicate] at h
  refine ⟨h.1,h.2,by show (List.replicate n (-1:Int)).length=n; rw [List.length_replicate],fun b hb h0=>?_⟩
  have h0:0≤(List.replicate n (-1:Int)).getD b 0:=h0
  rw [a3A _ _ hb] at h0; omega
theorem a8T {m n:Nat} (hm:m≤40) (hn:n≤40) {g:p9} (h:MOk m n g):∀ {a:Nat},a≤m→MOk m n ((List.range a).foldl (U5 (n:Int)) g)
  | 0,_=>h
  | a+1,ha=>by
    rw [List.range_succ,List.foldl_append]
    exact (a8T hm hn h (a:=a) (by omega)).step hm hn (by omega)
theorem a6x:b0Z.Valid Try.prog 197:=by
  refine w8.y8 a27 rfl rfl Try.func197 (c:=d8 Try.prog 197) rfl rfl a23 rfl ?_
  rintro ⟨(m0:Int),(n0:Int),(l:List l6),⟨⟩⟩ ⟨⟨(hm0:0≤m0),(hm1:m0≤40)⟩,⟨(hn0:0≤n0),(hn1:n0≤40)⟩,(hin:∀ q∈l,(0≤q.1∧q.1<m0)∧(0≤q.2.1∧q.2.1<n0))⟩ ⟨-,-,⟨hl,-⟩,-⟩
  have hl:l.length≤9223372036854775807:=hl
  obtain ⟨m,rfl⟩:∃ m:Nat,m0=(m:Int):=⟨m0.toNat,by omega⟩
  obtain ⟨n,rfl⟩:∃ n:Nat,n0=(n:Int):=⟨n0.toNat,by omega⟩
  refine p8 (n:=1000) a27 a23 ?_
  refine l4 (c0z (m:Int) (n:Int) l) ?_
  refine ⟨⟨rfl,by omega,by omega⟩,fun _=>?_⟩
  have w1:Ty.wb .bool=1:=rfl
  have w2:Ty.wb (.d0 true .bool)=24:=rfl
  refine Reach.J8 a27 a23 (fun i:Nat=>b2T (m:Int) (n:Int) l (m:Int) (i:Int) (List.replicate i (List.replicate n false)) (List.replicate n (-1)) []) (fun i=>i≤m) (fun i=>m - i) 1000 (fun _=>⟨r9 rfl,r9 rfl⟩) ?_ 0 (by omega)
  rintro i k1 - ih
  have k1:i≤m:=k1
  refine l4 (b9a ..) ?_
  simp only [p7,Tree.holds,true_and,true_implies,decide_eq_true_eq,decide_eq_false_iff_not,Bool.not_eq_true',Bool.not_eq_false',Int.toNat_natCast,u7,List.length_set,List.length_cons,List.length_nil,w1,w2]
  refine ⟨fun c=>⟨by omega,fun _=>⟨⟨by rw [List.length_replicate]; omega,by rw [List.length_replicate]; omega⟩,fun _=>⟨by omega,fun _=>?_⟩⟩⟩,fun c=>?_⟩
  · have next:=ih (i+1) (by show i+1≤m; omega) (by omega)
    rw [show List.replicate (i+1) (List.replicate n false)=List.replicate i (List.replicate n false)++[List.replicate n false] from List.replicate_succ' ..] at next
    exact next
  have hi:i=m:=by omega
  subst hi
  clear ih k1 c
  refine Reach.J8 a27 a23 (fun s:Nat×List (List Bool)=>b2S (i:Int) (n:Int) l (l.length:Int) (s.1:Int) s.2 (List.replicate n (-1)) []) (fun s=>s.1≤l.length∧s.2.length=i∧(∀ a,a<i→(s.2.getD a []).length=n)∧(l.drop s.1).foldl mark s.2=a0u i n l) (fun s=>l.length - s.1) 1000 (fun _=>⟨r9 rfl,r9 rfl⟩) ?_ (0,List.replicate i (List.replicate n false)) ⟨by omega,by show (List.replicate i (List.replicate n false)).length=i; rw [List.length_replicate],fun a ha=>by show ((List.replicate i (List.replicate n false)).getD a []).length=n; rw [a3A _ _ ha,List.length_replicate],rfl⟩
  rintro ⟨j,w⟩ ⟨k1,k2,k3,k4⟩ - ih
  have k1:j≤l.length:=k1
  have k2:w.length=i:=k2
  have k3:∀ a,a<i→(w.getD a []).length=n:=k3
  have k4:(l.drop j).foldl mark w=a0u i n l:=k4
  refine l4 (b89 ..) ?_
  simp only [p7,Tree.holds,true_and,true_implies,decide_eq_true_eq,decide_eq_false_iff_not,Bool.not_eq_true',Bool.not_eq_false',Int.toNat_natCast,u7,List.length_set,List.length_cons,List.length_nil]
  refine ⟨fun c=>⟨by omega,fun _=>?_⟩,fun c=>?_⟩
  · have hj:j<l.length:=by omega
    have hp:=hin _ (a2T (d:=(0,0,())) hj)
    rw [a5v hj (0,0,()),List.foldl_cons] at k4
    revert hp k4
    generalize l.getD j (0,0,())=p
    intro k4 hp
    have hr:=k3 p.1.toNat (by omega)
    refine ⟨by omega,fun _=>⟨by omega,fun _=>⟨by omega,fun _=>ih (j+1,mark w p) ⟨by show j+1≤_; omega,by show (mark w p).length=i; rw [a2N]; exact k2,fun a ha=>a6V (w:=w) (fun a ha=>k3 a (by omega)) a (by rw [a2N]; omega),k4⟩ (by show _ - (j+1)<_ - j; omega)⟩⟩⟩
  · have hj:j=l.length:=by omega
    rw [hj,List.drop_length,List.foldl_nil] at k4
    rw [k4]
    clear ih k1 k2 k3 c
    have st:=a4r (m:=i) (n:=n) (l:=l)
    refine Reach.J8 a27 a23 (fun s:Nat×p9=>b0n (n:Int) (i:Int) (s.1:Int) s.2.1 s.2.2.1 s.2.2.2.1) (fun s=>s.1≤i∧s.2=(List.range s.1).foldl (U5 (n:Int)) (a0u i n l,List.replicate n (-1),[],())) (fun s=>i - s.1) 1000 (fun _=>⟨r9 rfl,r9 rfl⟩) ?_ (0,(a0u i n l,List.replicate n (-1),[],())) ⟨by omega,rfl⟩
    rintro ⟨a,⟨g1,g2,g3,⟨⟩⟩⟩ ⟨k1,k2⟩ - ih
    have k1:a≤i:=k1
    have k2:((g1,g2,g3,()):p9)=(List.range a).foldl (U5 (n:Int)) (a0u i n l,List.replicate n (-1),[],()):=k2
    have hok:MOk i n (g1,g2,g3,()):=by rw [k2]; exact a8T (by omega) (by omega) st k1
    have hg1:g1.length=i:=hok.may
    refine l4 (b72 ..) ?_
    simp only [p7,Tree.holds,true_and,true_implies,decide_eq_true_eq,decide_eq_false_iff_not,Bool.not_eq_true',Bool.not_eq_false',Int.toNat_natCast,u7,List.length_set,List.length_cons,List.length_nil,w1]
    refine ⟨fun c=>⟨by omega,fun _=>⟨⟨hok.fresh (by omega) (by omega),by omega,by show (a:Int)<g1.length; omega,by rw [a7t]; omega⟩,fun _=>⟨by omega,fun _=>ih (a+1,U5 (n:Int) (g1,g2,g3,()) a) ⟨by show a+1≤i; omega,?_⟩ (by show i - (a+1)<i - a; omega)⟩⟩⟩,fun c=>?_⟩
    · show U5 (n:Int) (g1,g2,g3,()) a=(List.range (a+1)).foldl (U5 (n:Int)) _
      rw [List.range_succ,List.foldl_append,← k2]; rfl
    · show ((some (g1,g2,g3,()),()):Option p9×Unit)=(some (M8 i n l),())
      rw [k2,show a=i by omega]; rfl
end Go.Proofs.Ytekbamiaenbhjaa
