/- match.most and match.Most. No condition but those named. -/
import Derived.Test.YtekbamiaenbhjaaMatchB
namespace Go.Proofs.Ytekbamiaenbhjaa
open Go.Ex
set_option maxRecDepth 100000
def mark (w:List (List Bool)) (p:s5):List (List Bool):=w.set p.1.toNat ((w.getD p.1.toNat []).set p.2.1.toNat true)
def a0N (m n:Int) (l:List s5):List (List Bool):=l.foldl mark (List.replicate m.toNat (List.replicate n.toNat false))
def U0 (n:Int) (g:t7) (a:Nat):t7:=(E5 41 (g.1,g.2.1,List.replicate n.toNat false,()) (a:Int)).1
def a09 (m n:Int) (l:List s5):t7:=(List.range m.toNat).foldl (U0 n) (a0N m n l,List.replicate n.toNat (-1),[],())
def inP (m n:Int) (l:List s5):Prop:=(0≤m∧m≤40)∧(0≤n∧n≤40)∧∀ q∈l,(0≤q.1∧q.1<m)∧(0≤q.2.1∧q.2.1<n)
theorem b7R:c4H.Valid Try.prog 264:=a54 41
def b7Z:w9:={ ps:=[.v i5,.v i5,.v (.d0 false r7)],rs:=[.box true none b4k],pre:=fun x=>inP x.1 x.2.1 x.2.2.1,fn:=fun x=>((some (a09 x.1 x.2.1 x.2.2.1):Option t7),()),out:=fun _=>() }
noncomputable def a7C:Env:={ P:=Try.prog,tt:=ttG,F2:=[(135,b7U),(264,c4H)],res:=[Go.ResultVar.tmp 6],rs:=[Ty.box true none (Ty.pair (Ty.d0 false (Ty.d0 false Ty.bool)) (Ty.pair Is (Ty.pair (Ty.d0 true Ty.bool) Ty.unit)))],ps:=[PK.v i5,PK.v i5,PK.v (Ty.d0 false r7)],D8:=[(3,[(0,none),(1,none),(2,none),(7,none),(16,none),(17,none)]),(7,[(0,none),(1,none),(7,none),(31,none),(32,none),(33,none)]),(12,[(1,none),(7,some b4k),(49,none),(50,none)])],nt:=63 }
theorem a3S:B6 a7C:=D0 b2S ⟨a9Q,b7R,trivial⟩
theorem a3Q:E3 a7C Try.f197:=⟨rfl,rfl⟩
theorem c4c (x0:Int) (x1:Int) (x2:List (Int×Int×Unit)):exec a7C 1000 [.code (d8 Try.prog 197)] (A5 b7Z.ps ((x0,x1,x2,()))) =
  .e8 (List.length (List.set [(0:Int)] (Int.toNat (↑0:Int)) (-1:Int))=1∧(0:Int)≤x1∧x1≤(40:Int)) (.ctL (d9 (d8 Try.prog 197) 3) (St.mk [(0,vI x0),(1,vI x1),(2,AV.val (Ty.d0 false r7) x2),(7,AV.ptr 15 []),(16,vI x0),(17,vI (0:Int))] [(15,f7.var (Ty.pair (Ty.d0 true (Ty.d0 true Ty.bool)) (Ty.pair Is (Ty.pair (Ty.d0 true Ty.bool) Ty.unit))) ([],List.replicate (Int.toNat x1) (List.getD (List.set [(0:Int)] (Int.toNat (↑0:Int)) (-1:Int)) 0 (0:Int)),[],()))])):=by kernel_rfl
def b4D (v0:Int) (v1:Int) (v2:List (Int×Int×Unit)) (v16:Int) (v17:Int) (o15_1:List (List Bool)) (o15_2_1:List Int) (o15_2_2_1:List Bool):St:=St.mk [(0,vI v0),(1,vI v1),(2,AV.val (Ty.d0 false r7) v2),(7,AV.ptr 15 []),(16,vI v16),(17,vI v17)] [(15,f7.var (Ty.pair (Ty.d0 true (Ty.d0 true Ty.bool)) (Ty.pair Is (Ty.pair (Ty.d0 true Ty.bool) Ty.unit))) (o15_1,o15_2_1,o15_2_2_1,()))]
theorem c2t (v0:Int) (v1:Int) (v2:List (Int×Int×Unit)) (v16:Int) (v17:Int) (o15_1:List (List Bool)) (o15_2_1:List Int) (o15_2_2_1:List Bool):exec a7C 1000 (.code (d9 (d8 Try.prog 197) 3).1::.inLoop (d9 (d8 Try.prog 197) 3).1::(d9 (d8 Try.prog 197) 3).2) (b4D v0 v1 v2 v16 v17 o15_1 o15_2_1 o15_2_2_1) =
  cond (decide (v17<v16)) (.e8 ((0:Int)≤v1∧v1≤v1∧v1≤(140737488355328:Int)∧v1*(↑(Ty.wb Ty.bool):Int)≤(140737488355328:Int)) (.e8 ([]++[Step.j6 0]=[]++[Step.j6 0]∧List.length o15_1+List.length (List.set [[]] (Int.toNat (↑0:Int)) (List.replicate (Int.toNat v1) false))≤140737488355328∧(List.length o15_1+List.length (List.set [[]] (Int.toNat (↑0:Int)) (List.replicate (Int.toNat v1) false)))*Ty.wb (Ty.d0 true Ty.bool)≤140737488355328) (.e8 (r9 IntKind.i64 (v17+(1:Int))) (.ctL (d9 (d8 Try.prog 197) 3) (St.mk [(0,vI v0),(1,vI v1),(2,AV.val (Ty.d0 false r7) v2),(7,AV.ptr 15 []),(16,vI v16),(17,vI (v17+(1:Int)))] [(15,f7.var (Ty.pair (Ty.d0 true (Ty.d0 true Ty.bool)) (Ty.pair Is (Ty.pair (Ty.d0 true Ty.bool) Ty.unit))) (o15_1++List.set [[]] (Int.toNat (↑0:Int)) (List.replicate (Int.toNat v1) false),o15_2_1,o15_2_2_1,()))]))))) (.ctL (d9 (d8 Try.prog 197) 7) (St.mk [(0,vI v0),(1,vI v1),(7,AV.ptr 15 []),(31,AV.val (Ty.d0 false r7) v2),(32,vI (↑(List.length v2):Int)),(33,vI (0:Int))] [(15,f7.var (Ty.pair (Ty.d0 true (Ty.d0 true Ty.bool)) (Ty.pair Is (Ty.pair (Ty.d0 true Ty.bool) Ty.unit))) (o15_1,o15_2_1,o15_2_2_1,()))])):=by kernel_rfl
def b4C (v0:Int) (v1:Int) (v31:List (Int×Int×Unit)) (v32:Int) (v33:Int) (o15_1:List (List Bool)) (o15_2_1:List Int) (o15_2_2_1:List Bool):St:=St.mk [(0,vI v0),(1,vI v1),(7,AV.ptr 15 []),(31,AV.val (Ty.d0 false r7) v31),(32,vI v32),(33,vI v33)] [(15,f7.var (Ty.pair (Ty.d0 true (Ty.d0 true Ty.bool)) (Ty.pair Is (Ty.pair (Ty.d0 true Ty.bool) Ty.unit))) (o15_1,o15_2_1,o15_2_2_1,()))]
theorem c2s (v0:Int) (v1:Int) (v31:List (Int×Int×Unit)) (v32:Int) (v33:Int) (o15_1:List (List Bool)) (o15_2_1:List Int) (o15_2_2_1:List Bool):exec a7C 1000 (.code (d9 (d8 Try.prog 197) 7).1::.inLoop (d9 (d8 Try.prog 197) 7).1::(d9 (d8 Try.prog 197) 7).2) (b4C v0 v1 v31 v32 v33 o15_1 o15_2_1 o15_2_2_1) =
  cond (decide (v33<v32)) (.e8 ((0:Int)≤v33∧v33<(↑(List.length v31):Int)) (.e8 ((0:Int)≤Prod.fst (List.getD v31 (Int.toNat v33) ((0:Int),(0:Int),()))∧Prod.fst (List.getD v31 (Int.toNat v33) ((0:Int),(0:Int),()))<(↑(List.length o15_1):Int)) (.e8 ((0:Int)≤Prod.fst (Prod.snd (List.getD v31 (Int.toNat v33) ((0:Int),(0:Int),())))∧Prod.fst (Prod.snd (List.getD v31 (Int.toNat v33) ((0:Int),(0:Int),())))<(↑(List.length (List.getD o15_1 (Int.toNat (Prod.fst (List.getD v31 (Int.toNat v33) ((0:Int),(0:Int),())))) [])):Int)) (.e8 (r9 IntKind.i64 (v33+(1:Int))) (.ctL (d9 (d8 Try.prog 197) 7) (St.mk [(0,vI v0),(1,vI v1),(7,AV.ptr 15 []),(31,AV.val (Ty.d0 false r7) v31),(32,vI v32),(33,vI (v33+(1:Int)))] [(15,f7.var (Ty.pair (Ty.d0 true (Ty.d0 true Ty.bool)) (Ty.pair Is (Ty.pair (Ty.d0 true Ty.bool) Ty.unit))) (List.set o15_1 (Int.toNat (Prod.fst (List.getD v31 (Int.toNat v33) ((0:Int),(0:Int),())))) (List.set (List.getD o15_1 (Int.toNat (Prod.fst (List.getD v31 (Int.toNat v33) ((0:Int),(0:Int),())))) []) (Int.toNat (Prod.fst (Prod.snd (List.getD v31 (Int.toNat v33) ((0:Int),(0:Int),()))))) true),o15_2_1,o15_2_2_1,()))])))))) (.ctL (d9 (d8 Try.prog 197) 12) (St.mk [(1,vI v1),(7,AV.ptr 15 []),(49,vI v0),(50,vI (0:Int))] [(15,f7.var (Ty.pair (Ty.d0 false (Ty.d0 false Ty.bool)) (Ty.pair Is (Ty.pair (Ty.d0 true Ty.bool) Ty.unit))) (o15_1,o15_2_1,o15_2_2_1,()))])):=by kernel_rfl
def b1W (v1:Int) (v49:Int) (v50:Int) (o15_1:List (List Bool)) (o15_2_1:List Int) (o15_2_2_1:List Bool):St:=St.mk [(1,vI v1),(7,AV.ptr 15 []),(49,vI v49),(50,vI v50)] [(15,f7.var (Ty.pair (Ty.d0 false (Ty.d0 false Ty.bool)) (Ty.pair Is (Ty.pair (Ty.d0 true Ty.bool) Ty.unit))) (o15_1,o15_2_1,o15_2_2_1,()))]
theorem c0y (v1:Int) (v49:Int) (v50:Int) (o15_1:List (List Bool)) (o15_2_1:List Int) (o15_2_2_1:List Bool):exec a7C 1000 (.code (d9 (d8 Try.prog 197) 12).1::.inLoop (d9 (d8 Try.prog 197) 12).1::(d9 (d8 Try.prog 197) 12).2) (b1W v1 v49 v50 o15_1 o15_2_1 o15_2_2_1) =
  cond (decide (v50<v49)) (.e8 ((0:Int)≤v1∧v1≤v1∧v1≤(140737488355328:Int)∧v1*(↑(Ty.wb Ty.bool):Int)≤(140737488355328:Int)) (.e8 (sK 41 (o15_1,o15_2_1,List.replicate (Int.toNat v1) false,()) v50) (.e8 (r9 IntKind.i64 (v50+(1:Int))) (.ctL (d9 (d8 Try.prog 197) 12) (St.mk [(1,vI v1),(7,AV.ptr 15 []),(49,vI v49),(50,vI (v50+(1:Int)))] [(15,f7.var (Ty.pair (Ty.d0 false (Ty.d0 false Ty.bool)) (Ty.pair Is (Ty.pair (Ty.d0 true Ty.bool) Ty.unit))) (gK 41 (o15_1,o15_2_1,List.replicate (Int.toNat v1) false,()) v50))]))))) (.ret ((some (o15_1,o15_2_1,o15_2_2_1,()),()))):=by kernel_rfl
structure MOk (m n:Nat) (g:t7):Prop where
  may:g.1.length=m
  row:∀ a,a<m→(g.1.getD a []).length=n
  len:g.2.1.length=n
  left:∀ b:Nat,b<n→0≤g.2.1.getD b 0→g.2.1.getD b 0<m
theorem MOk.fresh {m n:Nat} {g:t7} (h:MOk m n g) (hm:m≤40) (hn:n≤40):S4 (g.1,g.2.1,List.replicate n false,()):=by
  have h1:=h.may
  have h2:=h.len
  refine ⟨by show (List.replicate n false).length=g.2.1.length; rw [List.length_replicate,h2],fun a ha=>by rw [h.row a (by rw [← h1]; exact ha)]; exact h2.symm,fun b h0 hb=>?_,by show g.1.length≤1000∧g.2.1.length≤1000; omega⟩
  have:=h.left b (by rw [← h2]; exact hb) h0
  show _<((g.1.length:Nat):Int)
  rw [h1]; exact this
theorem a86 (n:Nat):I8 (List.replicate n false)=n:=by simp [I8]
theorem MOk.step {m n:Nat} {g:t7} (h:MOk m n g) (hm:m≤40) (hn:n≤40) {a:Nat} (ha:a<m):MOk m n (U0 (n:Int) g a):=by
  have h1:=h.may
  have h2:=h.len
  have k:Kept (g.1,g.2.1,List.replicate n false,()) (U0 (n:Int) g a):=S9 (h.fresh hm hn) (by omega) (by show (a:Int)<g.1.length; omega)
  have e1:=k.may
  have e2:=k.len
  refine ⟨by rw [e1]; exact h1,fun c hc=>by rw [e1]; exact h.row c hc,by rw [e2]; exact h2,fun b hb h0=>?_⟩
  have:=k.ok.left b h0 (by rw [e2]; show b<g.2.1.length; omega)
  rw [e1] at this
  have h9:(U0 (n:Int) g a).2.1.getD b 0<g.1.length:=this
  omega
theorem a3C {w:List (List Bool)} {p:s5}:(mark w p).length=w.length:=by rw [mark,List.length_set]
theorem a8q {w:List (List Bool)} {p:s5} {n:Nat} (h:∀ a,a<w.length→(w.getD a []).length=n):∀ a,a<(mark w p).length→((mark w p).getD a []).length=n:=by
  intro a ha
  rw [a3C] at ha
  rw [mark]
  by_cases hp:p.1.toNat<w.length
  · rw [B8 hp]
    split
    · rw [List.length_set]; exact h _ hp
    · exact h a ha
  · rw [List.set_eq_of_length_le (by omega)]; exact h a ha
theorem b3o {n:Nat}:∀ {l:List s5} {w:List (List Bool)},(∀ a,a<w.length→(w.getD a []).length=n)→(l.foldl mark w).length=w.length∧∀ a,a<w.length→((l.foldl mark w).getD a []).length=n
  | [],w,h=>⟨rfl,h⟩
  | p::l,w,h=>by
    have ih:=b3o (l:=l) (w:=mark w p) (a8q h)
    rw [a3C] at ih
    exact ih
theorem a5o {m n:Nat} {l:List s5}:MOk m n (a0N m n l,List.replicate n (-1),[],()):=by
  have h:=b3o (n:=n) (l:=l) (w:=List.replicate m (List.replicate n false)) (fun a ha=>by rw [List.length_replicate] at ha; rw [a2R _ _ ha,List.length_replicate])
  rw [List.length_replicate] at h
  refine ⟨h.1,h.2,by show (List.replicate n (-1:Int)).length=n; rw [List.length_replicate],fun b hb h0=>?_⟩
  have h0:0≤(List.replicate n (-1:Int)).getD b 0:=h0
  rw [a2R _ _ hb] at h0; omega
theorem b0v {m n:Nat} (hm:m≤40) (hn:n≤40) {g:t7} (h:MOk m n g):∀ {a:Nat},a≤m→MOk m n ((List.range a).foldl (U0 (n:Int)) g)
  | 0,_=>h
  | a+1,ha=>by
    rw [List.range_succ,List.foldl_append]
    exact (b0v hm hn h (a:=a) (by omega)).step hm hn (by omega)
theorem b5m:b7Z.Valid Try.prog 197:=by
  refine w9.u7 a3S rfl rfl Try.func197 (c:=d8 Try.prog 197) rfl rfl a3Q rfl ?_
  rintro ⟨(m0:Int),(n0:Int),(l:List s5),⟨⟩⟩ ⟨⟨(hm0:0≤m0),(hm1:m0≤40)⟩,⟨(hn0:0≤n0),(hn1:n0≤40)⟩,(hin:∀ q∈l,(0≤q.1∧q.1<m0)∧(0≤q.2.1∧q.2.1<n0))⟩ ⟨-,-,⟨hl,-⟩,-⟩
  have hl:l.length≤9223372036854775807:=hl
  obtain ⟨m,rfl⟩:∃ m:Nat,m0=(m:Int):=⟨m0.toNat,by omega⟩
  obtain ⟨n,rfl⟩:∃ n:Nat,n0=(n:Int):=⟨n0.toNat,by omega⟩
  refine n7 (n:=1000) a3S a3Q ?_
  refine g9 (c4c (m:Int) (n:Int) l) ?_
  refine ⟨⟨rfl,by omega,by omega⟩,fun _=>?_⟩
  have w1:Ty.wb .bool=1:=rfl
  have w2:Ty.wb (.d0 true .bool)=24:=rfl
  refine Reach.C1 a3S a3Q (fun i:Nat=>b4D (m:Int) (n:Int) l (m:Int) (i:Int) (List.replicate i (List.replicate n false)) (List.replicate n (-1)) []) (fun i=>i≤m) (fun i=>m - i) 1000 (fun _=>⟨j7 rfl,j7 rfl⟩) ?_ 0 (by omega)
  rintro i k1 - ih
  have k1:i≤m:=k1
  refine g9 (c2t ..) ?_
  simp only [i9,Tree.holds,true_and,true_implies,decide_eq_true_eq,decide_eq_false_iff_not,Bool.not_eq_true',Bool.not_eq_false',Int.toNat_natCast,l7,List.length_set,List.length_cons,List.length_nil,w1,w2]
  refine ⟨fun c=>⟨by omega,fun _=>⟨⟨by rw [List.length_replicate]; omega,by rw [List.length_replicate]; omega⟩,fun _=>⟨by omega,fun _=>?_⟩⟩⟩,fun c=>?_⟩
  · have next:=ih (i+1) (by show i+1≤m; omega) (by omega)
    rw [show List.replicate (i+1) (List.replicate n false)=List.replicate i (List.replicate n false)++[List.replicate n false] from List.replicate_succ' ..] at next
    exact next
  have hi:i=m:=by omega
  subst hi
  clear ih k1 c
  refine Reach.C1 a3S a3Q (fun s:Nat×List (List Bool)=>b4C (i:Int) (n:Int) l (l.length:Int) (s.1:Int) s.2 (List.replicate n (-1)) []) (fun s=>s.1≤l.length∧s.2.length=i∧(∀ a,a<i→(s.2.getD a []).length=n)∧(l.drop s.1).foldl mark s.2=a0N i n l) (fun s=>l.length - s.1) 1000 (fun _=>⟨j7 rfl,j7 rfl⟩) ?_ (0,List.replicate i (List.replicate n false)) ⟨by omega,by show (List.replicate i (List.replicate n false)).length=i; rw [List.length_replicate],fun a ha=>by show ((List.replicate i (List.replicate n false)).getD a []).length=n; rw [a2R _ _ ha,List.length_replicate],rfl⟩
  rintro ⟨j,w⟩ ⟨k1,k2,k3,k4⟩ - ih
  have k1:j≤l.length:=k1
  have k2:w.length=i:=k2
  have k3:∀ a,a<i→(w.getD a []).length=n:=k3
  have k4:(l.drop j).foldl mark w=a0N i n l:=k4
  refine g9 (c2s ..) ?_
  simp only [i9,Tree.holds,true_and,true_implies,decide_eq_true_eq,decide_eq_false_iff_not,Bool.not_eq_true',Bool.not_eq_false',Int.toNat_natCast,l7,List.length_set,List.length_cons,List.length_nil]
  refine ⟨fun c=>⟨by omega,fun _=>?_⟩,fun c=>?_⟩
  · have hj:j<l.length:=by omega
    have hp:=hin _ (P6 (d:=(0,0,())) hj)
    rw [S3 hj (0,0,()),List.foldl_cons] at k4
    revert hp k4
    generalize l.getD j (0,0,())=p
    intro k4 hp
    have hr:=k3 p.1.toNat (by omega)
    refine ⟨by omega,fun _=>⟨by omega,fun _=>⟨by omega,fun _=>ih (j+1,mark w p) ⟨by show j+1≤_; omega,by show (mark w p).length=i; rw [a3C]; exact k2,fun a ha=>a8q (w:=w) (fun a ha=>k3 a (by omega)) a (by rw [a3C]; omega),k4⟩ (by show _ - (j+1)<_ - j; omega)⟩⟩⟩
  · have hj:j=l.length:=by omega
    rw [hj,List.drop_length,List.foldl_nil] at k4
    rw [k4]
    clear ih k1 k2 k3 c
    have st:=a5o (m:=i) (n:=n) (l:=l)
    refine Reach.C1 a3S a3Q (fun s:Nat×t7=>b1W (n:Int) (i:Int) (s.1:Int) s.2.1 s.2.2.1 s.2.2.2.1) (fun s=>s.1≤i∧s.2=(List.range s.1).foldl (U0 (n:Int)) (a0N i n l,List.replicate n (-1),[],())) (fun s=>i - s.1) 1000 (fun _=>⟨j7 rfl,j7 rfl⟩) ?_ (0,(a0N i n l,List.replicate n (-1),[],())) ⟨by omega,rfl⟩
    rintro ⟨a,⟨g1,g2,g3,⟨⟩⟩⟩ ⟨k1,k2⟩ - ih
    have k1:a≤i:=k1
    have k2:((g1,g2,g3,()):t7)=(List.range a).foldl (U0 (n:Int)) (a0N i n l,List.replicate n (-1),[],()):=k2
    have hok:MOk i n (g1,g2,g3,()):=by rw [k2]; exact b0v (by omega) (by omega) st k1
    have hg1:g1.length=i:=hok.may
    refine g9 (c0y ..) ?_
    simp only [i9,Tree.holds,true_and,true_implies,decide_eq_true_eq,decide_eq_false_iff_not,Bool.not_eq_true',Bool.not_eq_false',Int.toNat_natCast,l7,List.length_set,List.length_cons,List.length_nil,w1]
    refine ⟨fun c=>⟨by omega,fun _=>⟨⟨hok.fresh (by omega) (by omega),by omega,by show (a:Int)<g1.length; omega,by rw [a86]; omega⟩,fun _=>⟨by omega,fun _=>ih (a+1,U0 (n:Int) (g1,g2,g3,()) a) ⟨by show a+1≤i; omega,?_⟩ (by show i - (a+1)<i - a; omega)⟩⟩⟩,fun c=>?_⟩
    · show U0 (n:Int) (g1,g2,g3,()) a=(List.range (a+1)).foldl (U0 (n:Int)) _
      rw [List.range_succ,List.foldl_append,← k2]; rfl
    · show ((some (g1,g2,g3,()),()):Option t7×Unit)=(some (a09 i n l),())
      rw [k2,show a=i by omega]; rfl
end Go.Proofs.Ytekbamiaenbhjaa
