/- match.most and match.Most. No condition but those named. -/
import Derived.Test.YtegigiecamjobaaMatchB
namespace Go.Proofs.Ytegigiecamjobaa
open Go.Ex
set_option maxRecDepth 100000
def mark (w:List (List Bool)) (p:PairD):List (List Bool):=w.set p.1.toNat ((w.getD p.1.toNat []).set p.2.1.toNat true)
def mayOf (m n:Int) (l:List PairD):List (List Bool):=l.foldl mark (List.replicate m.toNat (List.replicate n.toNat false))
def mstep (n:Int) (g:GraphD) (a:Nat):GraphD:=(searchF 41 (g.1,g.2.1,List.replicate n.toNat false,()) (a:Int)).1
def mostF (m n:Int) (l:List PairD):GraphD:=(List.range m.toNat).foldl (mstep n) (mayOf m n l,List.replicate n.toNat (-1),[],())
def inP (m n:Int) (l:List PairD):Prop:=(0≤m∧m≤40)∧(0≤n∧n≤40)∧∀ q∈l,(0≤q.1∧q.1<m)∧(0≤q.2.1∧q.2.1<n)
theorem cs41_valid:cs41.Valid Try.prog 125:=csearch_valid 41
def cmost:Ctr:={ ps:=[.v I64,.v I64,.v (.slc false PairT)],rs:=[.box true none GraphS],pre:=fun x=>inP x.1 x.2.1 x.2.2.1,fn:=fun x=>((some (mostF x.1 x.2.1 x.2.2.1):Option GraphD),()),out:=fun _=>() }
noncomputable def Emost:Env:={ P:=Try.prog,tt:=tt,ctr:=[(104,crep),(125,cs41)],res:=[Go.ResultVar.tmp 6],rs:=[Ty.box true none (Ty.pair (Ty.slc false (Ty.slc false Ty.bool)) (Ty.pair Is (Ty.pair (Ty.slc true Ty.bool) Ty.unit)))],ps:=[PK.v (Ty.int IntKind.i64),PK.v (Ty.int IntKind.i64),PK.v (Ty.slc false PairT)],cuts:=[(3,[(0,none),(1,none),(2,none),(7,none),(16,none),(17,none)]),(7,[(0,none),(1,none),(7,none),(31,none),(32,none),(33,none)]),(12,[(1,none),(7,some GraphS),(49,none),(50,none)])],nt:=63 }
theorem Emost_ok:EnvOk Emost:=envOk tt_ok ⟨crep_valid,cs41_valid,trivial⟩
theorem Fmost_ok:FnOk Emost Try.f77:=⟨rfl,rfl⟩
theorem Emost_t (x0:Int) (x1:Int) (x2:List (Int×Int×Unit)):exec Emost 1000 [.code (bodyOf Try.prog 77)] (initSt cmost.ps ((x0,x1,x2,()))) =
  .need (List.length (List.set [(0:Int)] (Int.toNat (↑0:Int)) (-1:Int))=1∧(0:Int)≤x1∧x1≤(40:Int)) (.cut (loopAt (bodyOf Try.prog 77) 3).1 (loopAt (bodyOf Try.prog 77) 3).2 (St.mk [(0,AV.val (Ty.int IntKind.i64) x0),(1,AV.val (Ty.int IntKind.i64) x1),(2,AV.val (Ty.slc false PairT) x2),(7,AV.ptr 15 []),(16,AV.val (Ty.int IntKind.i64) x0),(17,AV.val (Ty.int IntKind.i64) (0:Int))] [(15,Ent.var (Ty.pair (Ty.slc true (Ty.slc true Ty.bool)) (Ty.pair Is (Ty.pair (Ty.slc true Ty.bool) Ty.unit))) ([],List.replicate (Int.toNat x1) (List.getD (List.set [(0:Int)] (Int.toNat (↑0:Int)) (-1:Int)) 0 (0:Int)),[],()))])):=by kernel_rfl
def Emost_s3 (v0:Int) (v1:Int) (v2:List (Int×Int×Unit)) (v16:Int) (v17:Int) (o15_1:List (List Bool)) (o15_2_1:List Int) (o15_2_2_1:List Bool):St:=St.mk [(0,AV.val (Ty.int IntKind.i64) v0),(1,AV.val (Ty.int IntKind.i64) v1),(2,AV.val (Ty.slc false PairT) v2),(7,AV.ptr 15 []),(16,AV.val (Ty.int IntKind.i64) v16),(17,AV.val (Ty.int IntKind.i64) v17)] [(15,Ent.var (Ty.pair (Ty.slc true (Ty.slc true Ty.bool)) (Ty.pair Is (Ty.pair (Ty.slc true Ty.bool) Ty.unit))) (o15_1,o15_2_1,o15_2_2_1,()))]
theorem Emost_l3 (v0:Int) (v1:Int) (v2:List (Int×Int×Unit)) (v16:Int) (v17:Int) (o15_1:List (List Bool)) (o15_2_1:List Int) (o15_2_2_1:List Bool):exec Emost 1000 (.code (loopAt (bodyOf Try.prog 77) 3).1::.inLoop (loopAt (bodyOf Try.prog 77) 3).1::(loopAt (bodyOf Try.prog 77) 3).2) (Emost_s3 v0 v1 v2 v16 v17 o15_1 o15_2_1 o15_2_2_1) =
  cond (decide (v17<v16)) (.need ((0:Int)≤v1∧v1≤v1∧v1≤(140737488355328:Int)∧v1*(↑(Ty.wb Ty.bool):Int)≤(140737488355328:Int)) (.need ([]++[Step.fld 0]=[]++[Step.fld 0]∧List.length o15_1+List.length (List.set [[]] (Int.toNat (↑0:Int)) (List.replicate (Int.toNat v1) false))≤140737488355328∧(List.length o15_1+List.length (List.set [[]] (Int.toNat (↑0:Int)) (List.replicate (Int.toNat v1) false)))*Ty.wb (Ty.slc true Ty.bool)≤140737488355328) (.need (inK IntKind.i64 (v17+(1:Int))) (.cut (loopAt (bodyOf Try.prog 77) 3).1 (loopAt (bodyOf Try.prog 77) 3).2 (St.mk [(0,AV.val (Ty.int IntKind.i64) v0),(1,AV.val (Ty.int IntKind.i64) v1),(2,AV.val (Ty.slc false PairT) v2),(7,AV.ptr 15 []),(16,AV.val (Ty.int IntKind.i64) v16),(17,AV.val (Ty.int IntKind.i64) (v17+(1:Int)))] [(15,Ent.var (Ty.pair (Ty.slc true (Ty.slc true Ty.bool)) (Ty.pair Is (Ty.pair (Ty.slc true Ty.bool) Ty.unit))) (o15_1++List.set [[]] (Int.toNat (↑0:Int)) (List.replicate (Int.toNat v1) false),o15_2_1,o15_2_2_1,()))]))))) (.cut (loopAt (bodyOf Try.prog 77) 7).1 (loopAt (bodyOf Try.prog 77) 7).2 (St.mk [(0,AV.val (Ty.int IntKind.i64) v0),(1,AV.val (Ty.int IntKind.i64) v1),(7,AV.ptr 15 []),(31,AV.val (Ty.slc false PairT) v2),(32,AV.val (Ty.int IntKind.i64) (↑(List.length v2):Int)),(33,AV.val (Ty.int IntKind.i64) (0:Int))] [(15,Ent.var (Ty.pair (Ty.slc true (Ty.slc true Ty.bool)) (Ty.pair Is (Ty.pair (Ty.slc true Ty.bool) Ty.unit))) (o15_1,o15_2_1,o15_2_2_1,()))])):=by kernel_rfl
def Emost_s7 (v0:Int) (v1:Int) (v31:List (Int×Int×Unit)) (v32:Int) (v33:Int) (o15_1:List (List Bool)) (o15_2_1:List Int) (o15_2_2_1:List Bool):St:=St.mk [(0,AV.val (Ty.int IntKind.i64) v0),(1,AV.val (Ty.int IntKind.i64) v1),(7,AV.ptr 15 []),(31,AV.val (Ty.slc false PairT) v31),(32,AV.val (Ty.int IntKind.i64) v32),(33,AV.val (Ty.int IntKind.i64) v33)] [(15,Ent.var (Ty.pair (Ty.slc true (Ty.slc true Ty.bool)) (Ty.pair Is (Ty.pair (Ty.slc true Ty.bool) Ty.unit))) (o15_1,o15_2_1,o15_2_2_1,()))]
theorem Emost_l7 (v0:Int) (v1:Int) (v31:List (Int×Int×Unit)) (v32:Int) (v33:Int) (o15_1:List (List Bool)) (o15_2_1:List Int) (o15_2_2_1:List Bool):exec Emost 1000 (.code (loopAt (bodyOf Try.prog 77) 7).1::.inLoop (loopAt (bodyOf Try.prog 77) 7).1::(loopAt (bodyOf Try.prog 77) 7).2) (Emost_s7 v0 v1 v31 v32 v33 o15_1 o15_2_1 o15_2_2_1) =
  cond (decide (v33<v32)) (.need ((0:Int)≤v33∧v33<(↑(List.length v31):Int)) (.need ((0:Int)≤Prod.fst (List.getD v31 (Int.toNat v33) ((0:Int),(0:Int),()))∧Prod.fst (List.getD v31 (Int.toNat v33) ((0:Int),(0:Int),()))<(↑(List.length o15_1):Int)) (.need ((0:Int)≤Prod.fst (Prod.snd (List.getD v31 (Int.toNat v33) ((0:Int),(0:Int),())))∧Prod.fst (Prod.snd (List.getD v31 (Int.toNat v33) ((0:Int),(0:Int),())))<(↑(List.length (List.getD o15_1 (Int.toNat (Prod.fst (List.getD v31 (Int.toNat v33) ((0:Int),(0:Int),())))) [])):Int)) (.need (inK IntKind.i64 (v33+(1:Int))) (.cut (loopAt (bodyOf Try.prog 77) 7).1 (loopAt (bodyOf Try.prog 77) 7).2 (St.mk [(0,AV.val (Ty.int IntKind.i64) v0),(1,AV.val (Ty.int IntKind.i64) v1),(7,AV.ptr 15 []),(31,AV.val (Ty.slc false PairT) v31),(32,AV.val (Ty.int IntKind.i64) v32),(33,AV.val (Ty.int IntKind.i64) (v33+(1:Int)))] [(15,Ent.var (Ty.pair (Ty.slc true (Ty.slc true Ty.bool)) (Ty.pair Is (Ty.pair (Ty.slc true Ty.bool) Ty.unit))) (List.set o15_1 (Int.toNat (Prod.fst (List.getD v31 (Int.toNat v33) ((0:Int),(0:Int),())))) (List.set (List.getD o15_1 (Int.toNat (Prod.fst (List.getD v31 (Int.toNat v33) ((0:Int),(0:Int),())))) []) (Int.toNat (Prod.fst (Prod.snd (List.getD v31 (Int.toNat v33) ((0:Int),(0:Int),()))))) true),o15_2_1,o15_2_2_1,()))])))))) (.cut (loopAt (bodyOf Try.prog 77) 12).1 (loopAt (bodyOf Try.prog 77) 12).2 (St.mk [(1,AV.val (Ty.int IntKind.i64) v1),(7,AV.ptr 15 []),(49,AV.val (Ty.int IntKind.i64) v0),(50,AV.val (Ty.int IntKind.i64) (0:Int))] [(15,Ent.var (Ty.pair (Ty.slc false (Ty.slc false Ty.bool)) (Ty.pair Is (Ty.pair (Ty.slc true Ty.bool) Ty.unit))) (o15_1,o15_2_1,o15_2_2_1,()))])):=by kernel_rfl
def Emost_s12 (v1:Int) (v49:Int) (v50:Int) (o15_1:List (List Bool)) (o15_2_1:List Int) (o15_2_2_1:List Bool):St:=St.mk [(1,AV.val (Ty.int IntKind.i64) v1),(7,AV.ptr 15 []),(49,AV.val (Ty.int IntKind.i64) v49),(50,AV.val (Ty.int IntKind.i64) v50)] [(15,Ent.var (Ty.pair (Ty.slc false (Ty.slc false Ty.bool)) (Ty.pair Is (Ty.pair (Ty.slc true Ty.bool) Ty.unit))) (o15_1,o15_2_1,o15_2_2_1,()))]
theorem Emost_l12 (v1:Int) (v49:Int) (v50:Int) (o15_1:List (List Bool)) (o15_2_1:List Int) (o15_2_2_1:List Bool):exec Emost 1000 (.code (loopAt (bodyOf Try.prog 77) 12).1::.inLoop (loopAt (bodyOf Try.prog 77) 12).1::(loopAt (bodyOf Try.prog 77) 12).2) (Emost_s12 v1 v49 v50 o15_1 o15_2_1 o15_2_2_1) =
  cond (decide (v50<v49)) (.need ((0:Int)≤v1∧v1≤v1∧v1≤(140737488355328:Int)∧v1*(↑(Ty.wb Ty.bool):Int)≤(140737488355328:Int)) (.need (sK 41 (o15_1,o15_2_1,List.replicate (Int.toNat v1) false,()) v50) (.need (inK IntKind.i64 (v50+(1:Int))) (.cut (loopAt (bodyOf Try.prog 77) 12).1 (loopAt (bodyOf Try.prog 77) 12).2 (St.mk [(1,AV.val (Ty.int IntKind.i64) v1),(7,AV.ptr 15 []),(49,AV.val (Ty.int IntKind.i64) v49),(50,AV.val (Ty.int IntKind.i64) (v50+(1:Int)))] [(15,Ent.var (Ty.pair (Ty.slc false (Ty.slc false Ty.bool)) (Ty.pair Is (Ty.pair (Ty.slc true Ty.bool) Ty.unit))) (gK 41 (o15_1,o15_2_1,List.replicate (Int.toNat v1) false,()) v50))]))))) (.ret ((some (o15_1,o15_2_1,o15_2_2_1,()),()))):=by kernel_rfl
structure MOk (m n:Nat) (g:GraphD):Prop where
  may:g.1.length=m
  row:∀ a,a<m→(g.1.getD a []).length=n
  len:g.2.1.length=n
  left:∀ b:Nat,b<n→0≤g.2.1.getD b 0→g.2.1.getD b 0<m
theorem MOk.fresh {m n:Nat} {g:GraphD} (h:MOk m n g) (hm:m≤40) (hn:n≤40):GOk (g.1,g.2.1,List.replicate n false,()):=by
  have h1:=h.may
  have h2:=h.len
  refine ⟨by show (List.replicate n false).length=g.2.1.length; rw [List.length_replicate,h2],fun a ha=>by rw [h.row a (by rw [← h1]; exact ha)]; exact h2.symm,fun b h0 hb=>?_,by show g.1.length≤1000∧g.2.1.length≤1000; omega⟩
  have:=h.left b (by rw [← h2]; exact hb) h0
  show _<((g.1.length:Nat):Int)
  rw [h1]; exact this
theorem unseen_rep (n:Nat):unseen (List.replicate n false)=n:=by simp [unseen]
theorem MOk.step {m n:Nat} {g:GraphD} (h:MOk m n g) (hm:m≤40) (hn:n≤40) {a:Nat} (ha:a<m):MOk m n (mstep (n:Int) g a):=by
  have h1:=h.may
  have h2:=h.len
  have k:Kept (g.1,g.2.1,List.replicate n false,()) (mstep (n:Int) g a):=searchF_kept (h.fresh hm hn) (by omega) (by show (a:Int)<g.1.length; omega)
  have e1:=k.may
  have e2:=k.len
  refine ⟨by rw [e1]; exact h1,fun c hc=>by rw [e1]; exact h.row c hc,by rw [e2]; exact h2,fun b hb h0=>?_⟩
  have:=k.ok.left b h0 (by rw [e2]; show b<g.2.1.length; omega)
  rw [e1] at this
  have h9:(mstep (n:Int) g a).2.1.getD b 0<g.1.length:=this
  omega
theorem mark_len {w:List (List Bool)} {p:PairD}:(mark w p).length=w.length:=by rw [mark,List.length_set]
theorem mark_row {w:List (List Bool)} {p:PairD} {n:Nat} (h:∀ a,a<w.length→(w.getD a []).length=n):∀ a,a<(mark w p).length→((mark w p).getD a []).length=n:=by
  intro a ha
  rw [mark_len] at ha
  rw [mark]
  by_cases hp:p.1.toNat<w.length
  · rw [getD_set hp]
    split
    · rw [List.length_set]; exact h _ hp
    · exact h a ha
  · rw [List.set_eq_of_length_le (by omega)]; exact h a ha
theorem marks_ok {n:Nat}:∀ {l:List PairD} {w:List (List Bool)},(∀ a,a<w.length→(w.getD a []).length=n)→(l.foldl mark w).length=w.length∧∀ a,a<w.length→((l.foldl mark w).getD a []).length=n
  | [],w,h=>⟨rfl,h⟩
  | p::l,w,h=>by
    have ih:=marks_ok (l:=l) (w:=mark w p) (mark_row h)
    rw [mark_len] at ih
    exact ih
theorem most_start {m n:Nat} {l:List PairD}:MOk m n (mayOf m n l,List.replicate n (-1),[],()):=by
  have h:=marks_ok (n:=n) (l:=l) (w:=List.replicate m (List.replicate n false)) (fun a ha=>by rw [List.length_replicate] at ha; rw [repF _ _ ha,List.length_replicate])
  rw [List.length_replicate] at h
  refine ⟨h.1,h.2,by show (List.replicate n (-1:Int)).length=n; rw [List.length_replicate],fun b hb h0=>?_⟩
  have h0:0≤(List.replicate n (-1:Int)).getD b 0:=h0
  rw [repF _ _ hb] at h0; omega
theorem most_ok {m n:Nat} (hm:m≤40) (hn:n≤40) {g:GraphD} (h:MOk m n g):∀ {a:Nat},a≤m→MOk m n ((List.range a).foldl (mstep (n:Int)) g)
  | 0,_=>h
  | a+1,ha=>by
    rw [List.range_succ,List.foldl_append]
    exact (most_ok hm hn h (a:=a) (by omega)).step hm hn (by omega)
theorem cmost_valid:cmost.Valid Try.prog 77:=by
  refine Ctr.valid_of Emost_ok rfl rfl Try.func77 (c:=bodyOf Try.prog 77) rfl rfl Fmost_ok rfl ?_
  rintro ⟨(m0:Int),(n0:Int),(l:List PairD),⟨⟩⟩ ⟨⟨(hm0:0≤m0),(hm1:m0≤40)⟩,⟨(hn0:0≤n0),(hn1:n0≤40)⟩,(hin:∀ q∈l,(0≤q.1∧q.1<m0)∧(0≤q.2.1∧q.2.1<n0))⟩ ⟨-,-,⟨hl,-⟩,-⟩
  have hl:l.length≤9223372036854775807:=hl
  obtain ⟨m,rfl⟩:∃ m:Nat,m0=(m:Int):=⟨m0.toNat,by omega⟩
  obtain ⟨n,rfl⟩:∃ n:Nat,n0=(n:Int):=⟨n0.toNat,by omega⟩
  refine exec_sound (n:=1000) Emost_ok Fmost_ok ?_
  refine holds_of_eq (Emost_t (m:Int) (n:Int) l) ?_
  refine ⟨⟨rfl,by omega,by omega⟩,fun _=>?_⟩
  have w1:Ty.wb .bool=1:=rfl
  have w2:Ty.wb (.slc true .bool)=24:=rfl
  refine Reach.loopI Emost_ok Fmost_ok (fun i:Nat=>Emost_s3 (m:Int) (n:Int) l (m:Int) (i:Int) (List.replicate i (List.replicate n false)) (List.replicate n (-1)) []) (fun i=>i≤m) (fun i=>m - i) 1000 (fun _=>⟨uniq_of rfl,uniq_of rfl⟩) ?_ 0 (by omega)
  rintro i k1 - ih
  have k1:i≤m:=k1
  refine holds_of_eq (Emost_l3 ..) ?_
  simp only [holds_cond,Tree.holds,true_and,true_implies,decide_eq_true_eq,decide_eq_false_iff_not,Bool.not_eq_true',Bool.not_eq_false',Int.toNat_natCast,inK_i64,List.length_set,List.length_cons,List.length_nil,w1,w2]
  refine ⟨fun c=>⟨by omega,fun _=>⟨⟨by rw [List.length_replicate]; omega,by rw [List.length_replicate]; omega⟩,fun _=>⟨by omega,fun _=>?_⟩⟩⟩,fun c=>?_⟩
  · have next:=ih (i+1) (by show i+1≤m; omega) (by omega)
    rw [show List.replicate (i+1) (List.replicate n false)=List.replicate i (List.replicate n false)++[List.replicate n false] from List.replicate_succ' ..] at next
    exact next
  have hi:i=m:=by omega
  subst hi
  clear ih k1 c
  refine Reach.loopI Emost_ok Fmost_ok (fun s:Nat×List (List Bool)=>Emost_s7 (i:Int) (n:Int) l (l.length:Int) (s.1:Int) s.2 (List.replicate n (-1)) []) (fun s=>s.1≤l.length∧s.2.length=i∧(∀ a,a<i→(s.2.getD a []).length=n)∧(l.drop s.1).foldl mark s.2=mayOf i n l) (fun s=>l.length - s.1) 1000 (fun _=>⟨uniq_of rfl,uniq_of rfl⟩) ?_ (0,List.replicate i (List.replicate n false)) ⟨by omega,by show (List.replicate i (List.replicate n false)).length=i; rw [List.length_replicate],fun a ha=>by show ((List.replicate i (List.replicate n false)).getD a []).length=n; rw [repF _ _ ha,List.length_replicate],rfl⟩
  rintro ⟨j,w⟩ ⟨k1,k2,k3,k4⟩ - ih
  have k1:j≤l.length:=k1
  have k2:w.length=i:=k2
  have k3:∀ a,a<i→(w.getD a []).length=n:=k3
  have k4:(l.drop j).foldl mark w=mayOf i n l:=k4
  refine holds_of_eq (Emost_l7 ..) ?_
  simp only [holds_cond,Tree.holds,true_and,true_implies,decide_eq_true_eq,decide_eq_false_iff_not,Bool.not_eq_true',Bool.not_eq_false',Int.toNat_natCast,inK_i64,List.length_set,List.length_cons,List.length_nil]
  refine ⟨fun c=>⟨by omega,fun _=>?_⟩,fun c=>?_⟩
  · have hj:j<l.length:=by omega
    have hp:=hin _ (getD_mem (d:=(0,0,())) hj)
    rw [drop_getD hj (0,0,()),List.foldl_cons] at k4
    revert hp k4
    generalize l.getD j (0,0,())=p
    intro k4 hp
    have hr:=k3 p.1.toNat (by omega)
    refine ⟨by omega,fun _=>⟨by omega,fun _=>⟨by omega,fun _=>ih (j+1,mark w p) ⟨by show j+1≤_; omega,by show (mark w p).length=i; rw [mark_len]; exact k2,fun a ha=>mark_row (w:=w) (fun a ha=>k3 a (by omega)) a (by rw [mark_len]; omega),k4⟩ (by show _ - (j+1)<_ - j; omega)⟩⟩⟩
  · have hj:j=l.length:=by omega
    rw [hj,List.drop_length,List.foldl_nil] at k4
    rw [k4]
    clear ih k1 k2 k3 c
    have st:=most_start (m:=i) (n:=n) (l:=l)
    refine Reach.loopI Emost_ok Fmost_ok (fun s:Nat×GraphD=>Emost_s12 (n:Int) (i:Int) (s.1:Int) s.2.1 s.2.2.1 s.2.2.2.1) (fun s=>s.1≤i∧s.2=(List.range s.1).foldl (mstep (n:Int)) (mayOf i n l,List.replicate n (-1),[],())) (fun s=>i - s.1) 1000 (fun _=>⟨uniq_of rfl,uniq_of rfl⟩) ?_ (0,(mayOf i n l,List.replicate n (-1),[],())) ⟨by omega,rfl⟩
    rintro ⟨a,⟨g1,g2,g3,⟨⟩⟩⟩ ⟨k1,k2⟩ - ih
    have k1:a≤i:=k1
    have k2:((g1,g2,g3,()):GraphD)=(List.range a).foldl (mstep (n:Int)) (mayOf i n l,List.replicate n (-1),[],()):=k2
    have hok:MOk i n (g1,g2,g3,()):=by rw [k2]; exact most_ok (by omega) (by omega) st k1
    have hg1:g1.length=i:=hok.may
    refine holds_of_eq (Emost_l12 ..) ?_
    simp only [holds_cond,Tree.holds,true_and,true_implies,decide_eq_true_eq,decide_eq_false_iff_not,Bool.not_eq_true',Bool.not_eq_false',Int.toNat_natCast,inK_i64,List.length_set,List.length_cons,List.length_nil,w1]
    refine ⟨fun c=>⟨by omega,fun _=>⟨⟨hok.fresh (by omega) (by omega),by omega,by show (a:Int)<g1.length; omega,by rw [unseen_rep]; omega⟩,fun _=>⟨by omega,fun _=>ih (a+1,mstep (n:Int) (g1,g2,g3,()) a) ⟨by show a+1≤i; omega,?_⟩ (by show i - (a+1)<i - a; omega)⟩⟩⟩,fun c=>?_⟩
    · show mstep (n:Int) (g1,g2,g3,()) a=(List.range (a+1)).foldl (mstep (n:Int)) _
      rw [List.range_succ,List.foldl_append,← k2]; rfl
    · show ((some (g1,g2,g3,()),()):Option GraphD×Unit)=(some (mostF i n l),())
      rw [k2,show a=i by omega]; rfl
end Go.Proofs.Ytegigiecamjobaa
