/- match.Cover's search: what it marks; its contract, by the number of left nodes not yet marked. No condition but those named. -/
import Derived.Test.YtegigiecamjobaaMatchX
namespace Go.Proofs.Ytegigiecamjobaa
open Go.Ex
set_option maxRecDepth 100000
abbrev LR:Type:=List Bool×List Bool
def rLoop (rec:LR→Int→LR) (g:GraphD) (row:List Bool):Nat→Nat→LR→LR
  | 0,_,s=>s
  | r+1,b,s =>
    if row.getD b false=true∧s.2.getD b false=false then
      (if 0≤g.2.1.getD b 0 then rLoop rec g row r (b+1) (rec (s.1,s.2.set b true) (g.2.1.getD b 0)) else rLoop rec g row r (b+1) (s.1,s.2.set b true))
    else rLoop rec g row r (b+1) s
def reachF:Nat→GraphD→LR→Int→LR
  | 0,_,s,_=>s
  | k+1,g,s,a=>if s.1.getD a.toNat false=true then s else rLoop (reachF k g) g (g.1.getD a.toNat []) (g.1.getD a.toNat []).length 0 (s.1.set a.toNat true,s.2)
structure Grew (s s':LR):Prop where
  l1:s'.1.length=s.1.length
  l2:s'.2.length=s.2.length
  m1:∀ a,s.1.getD a false=true→s'.1.getD a false=true
  m2:∀ b,s.2.getD b false=true→s'.2.getD b false=true
theorem Grew.refl (s:LR):Grew s s:=⟨rfl,rfl,fun _ h=>h,fun _ h=>h⟩
theorem Grew.trans {s s' s'':LR} (h:Grew s s') (h':Grew s' s''):Grew s s'':=⟨h'.l1.trans h.l1,h'.l2.trans h.l2,fun a ha=>h'.m1 a (h.m1 a ha),fun b hb=>h'.m2 b (h.m2 b hb)⟩
theorem set_true {l:List Bool} {i j:Nat} (h:l.getD j false=true):(l.set i true).getD j false=true:=by
  by_cases hi:i<l.length
  · rw [getD_set hi]; split
    · rfl
    · exact h
  · rw [List.set_eq_of_length_le (by omega)]; exact h
theorem Grew.set1 (s:LR) (a:Nat):Grew s (s.1.set a true,s.2):=⟨List.length_set ..,rfl,fun _ h=>set_true h,fun _ h=>h⟩
theorem Grew.set2 (s:LR) (b:Nat):Grew s (s.1,s.2.set b true):=⟨rfl,List.length_set ..,fun _ h=>h,fun _ h=>set_true h⟩
theorem rLoop_grew {rec:LR→Int→LR} {g:GraphD} {row:List Bool} (h:∀ s a,Grew s (rec s a)):∀ {r b:Nat} {s:LR},Grew s (rLoop rec g row r b s)
  | 0,_,s=>Grew.refl s
  | r+1,b,s=>by
    rw [rLoop]
    split
    · split
      · exact ((Grew.set2 s b).trans (h _ _)).trans (rLoop_grew h)
      · exact (Grew.set2 s b).trans (rLoop_grew h)
    · exact rLoop_grew h
theorem reachF_grew:∀ {k:Nat} {g:GraphD} {s:LR} {a:Int},Grew s (reachF k g s a)
  | 0,_,s,_=>Grew.refl s
  | k+1,g,s,a=>by
    rw [reachF]
    split
    · exact Grew.refl s
    · exact (Grew.set1 s _).trans (rLoop_grew (fun _ _=>reachF_grew))
theorem Grew.few {s s':LR} (h:Grew s s'):unseen s'.1≤unseen s.1:=unseen_mono h.l1 h.m1
structure ROk (g:GraphD) (s:LR):Prop where
  may:g.1.length=s.1.length
  row:∀ a,a<s.1.length→(g.1.getD a []).length=s.2.length
  len:g.2.1.length=s.2.length
  left:∀ b:Nat,b<s.2.length→0≤g.2.1.getD b 0→g.2.1.getD b 0<s.1.length
  few:s.1.length≤1000∧s.2.length≤1000
theorem ROk.grew {g:GraphD} {s s':LR} (h:ROk g s) (k:Grew s s'):ROk g s':=by
  refine ⟨?_,?_,?_,?_,?_⟩
  · rw [k.l1]; exact h.may
  · rw [k.l1,k.l2]; exact h.row
  · rw [k.l2]; exact h.len
  · rw [k.l1,k.l2]; exact h.left
  · rw [k.l1,k.l2]; exact h.few
abbrev gOf (o:Option GraphD):GraphD:=o.getD ([],[],[],())
def reachP (k:Nat) (o:Option GraphD) (s:LR) (a:Int):Prop:=o.isSome=true∧ROk (gOf o) s∧0≤a∧a<s.1.length∧unseen s.1<k
def creachK (k:Nat):Ctr:={ ps:=[.v I64,.rw BS,.rd GP,.rw BS,.rcs 79 3],rs:=[],pre:=fun x=>reachP k x.2.2.1 (x.2.1,x.2.2.2.1) x.1,fn:=fun _=>(),out:=fun x=>((reachF k (gOf x.2.2.1) (x.2.1,x.2.2.2.1) x.1).1,(reachF k (gOf x.2.2.1) (x.2.1,x.2.2.2.1) x.1).2,()) }
def rAK (k:Nat) (o:Option GraphD) (s:LR) (a:Int):List Bool:=(reachF k (gOf o) s a).1
def rBK (k:Nat) (o:Option GraphD) (s:LR) (a:Int):List Bool:=(reachF k (gOf o) s a).2
noncomputable def Ereach (k:Nat):Env:={ P:=Try.prog,tt:=tt,ctr:=[(79,(creachK k))],res:=[],rs:=[],ps:=[PK.v (Ty.int IntKind.i64),PK.rw (Ty.slc true Ty.bool),PK.rd (Ty.box false none (Ty.pair (Ty.slc false (Ty.slc false Ty.bool)) (Ty.pair (Ty.slc false (Ty.int IntKind.i64)) (Ty.pair (Ty.slc false Ty.bool) Ty.unit)))),PK.rw (Ty.slc true Ty.bool),PK.rcs 79 3],cuts:=[(3,[(2,none),(3,none),(4,none),(21,none),(22,none),(23,none)])],nt:=57 }
theorem Ereach_ok {k:Nat} (hk:(creachK k).Valid Try.prog 79):EnvOk (Ereach k):=envOk tt_ok ⟨hk,trivial⟩
theorem Freach_ok {k:Nat}:FnOk (Ereach k) Try.f79:=⟨rfl,rfl⟩
theorem Ereach_t (k:Nat) (x0:Int) (x1:List Bool) (x2_b_1:List (List Bool)) (x2_b_2_1:List Int) (x2_b_2_2_1:List Bool) (x3:List Bool):exec (Ereach k) 1000 [.code (bodyOf Try.prog 79)] (initSt (creachK k).ps ((x0,x1,some (x2_b_1,x2_b_2_1,x2_b_2_2_1,()),x3,(),()))) =
  .need ((0:Int)≤x0∧x0<(↑(List.length x1):Int)) (cond (List.getD x1 (Int.toNat x0) false) (.ret ((x1,x3,()))) (.need ((0:Int)≤x0∧x0<(↑(List.length x1):Int)) (.need (Option.isSome (some (x2_b_1,x2_b_2_1,x2_b_2_2_1,()))=true) (.need ((0:Int)≤x0∧x0<(↑(List.length (Prod.fst (Option.getD (some (x2_b_1,x2_b_2_1,x2_b_2_2_1,())) ([],[],[],())))):Int)) (.cut (loopAt (bodyOf Try.prog 79) 3).1 (loopAt (bodyOf Try.prog 79) 3).2 (St.mk [(2,AV.rptr (Ty.box false none (Ty.pair (Ty.slc false (Ty.slc false Ty.bool)) (Ty.pair (Ty.slc false (Ty.int IntKind.i64)) (Ty.pair (Ty.slc false Ty.bool) Ty.unit)))) (some (x2_b_1,x2_b_2_1,x2_b_2_2_1,()))),(3,AV.ptr 2000003 []),(4,AV.bx (AV.clo 79 (AV.rc 79 (AV.cons (AV.ptr 2000001 []) (AV.cons (AV.rptr (Ty.box false none (Ty.pair (Ty.slc false (Ty.slc false Ty.bool)) (Ty.pair (Ty.slc false (Ty.int IntKind.i64)) (Ty.pair (Ty.slc false Ty.bool) Ty.unit)))) (some (x2_b_1,x2_b_2_1,x2_b_2_2_1,()))) (AV.cons (AV.ptr 2000003 []) AV.nil)))))),(21,AV.val (Ty.slc false Ty.bool) (List.getD (Prod.fst (Option.getD (some (x2_b_1,x2_b_2_1,x2_b_2_2_1,())) ([],[],[],()))) (Int.toNat x0) [])),(22,AV.val (Ty.int IntKind.i64) (↑(List.length (List.getD (Prod.fst (Option.getD (some (x2_b_1,x2_b_2_1,x2_b_2_2_1,())) ([],[],[],()))) (Int.toNat x0) [])):Int)),(23,AV.val (Ty.int IntKind.i64) (0:Int))] [(2000001,Ent.var (Ty.slc true Ty.bool) (List.set x1 (Int.toNat x0) true)),(2000003,Ent.var (Ty.slc true Ty.bool) x3)])))))):=by kernel_rfl
def Ereach_s3 (v2_b_1:List (List Bool)) (v2_b_2_1:List Int) (v2_b_2_2_1:List Bool) (v4ba_b_1:List (List Bool)) (v4ba_b_2_1:List Int) (v4ba_b_2_2_1:List Bool) (v21:List Bool) (v22:Int) (v23:Int) (o2000001:List Bool) (o2000003:List Bool):St:=St.mk [(2,AV.rptr (Ty.box false none (Ty.pair (Ty.slc false (Ty.slc false Ty.bool)) (Ty.pair (Ty.slc false (Ty.int IntKind.i64)) (Ty.pair (Ty.slc false Ty.bool) Ty.unit)))) (some (v2_b_1,v2_b_2_1,v2_b_2_2_1,()))),(3,AV.ptr 2000003 []),(4,AV.bx (AV.clo 79 (AV.rc 79 (AV.cons (AV.ptr 2000001 []) (AV.cons (AV.rptr (Ty.box false none (Ty.pair (Ty.slc false (Ty.slc false Ty.bool)) (Ty.pair (Ty.slc false (Ty.int IntKind.i64)) (Ty.pair (Ty.slc false Ty.bool) Ty.unit)))) (some (v4ba_b_1,v4ba_b_2_1,v4ba_b_2_2_1,()))) (AV.cons (AV.ptr 2000003 []) AV.nil)))))),(21,AV.val (Ty.slc false Ty.bool) v21),(22,AV.val (Ty.int IntKind.i64) v22),(23,AV.val (Ty.int IntKind.i64) v23)] [(2000001,Ent.var (Ty.slc true Ty.bool) o2000001),(2000003,Ent.var (Ty.slc true Ty.bool) o2000003)]
theorem Ereach_l3 (k:Nat) (v2_b_1:List (List Bool)) (v2_b_2_1:List Int) (v2_b_2_2_1:List Bool) (v4ba_b_1:List (List Bool)) (v4ba_b_2_1:List Int) (v4ba_b_2_2_1:List Bool) (v21:List Bool) (v22:Int) (v23:Int) (o2000001:List Bool) (o2000003:List Bool):exec (Ereach k) 1000 (.code (loopAt (bodyOf Try.prog 79) 3).1::.inLoop (loopAt (bodyOf Try.prog 79) 3).1::(loopAt (bodyOf Try.prog 79) 3).2) (Ereach_s3 v2_b_1 v2_b_2_1 v2_b_2_2_1 v4ba_b_1 v4ba_b_2_1 v4ba_b_2_2_1 v21 v22 v23 o2000001 o2000003) =
  cond (decide (v23<v22)) (.need ((0:Int)≤v23∧v23<(↑(List.length v21):Int)) (cond (List.getD v21 (Int.toNat v23) false) (.need ((0:Int)≤v23∧v23<(↑(List.length o2000003):Int)) (cond (!List.getD o2000003 (Int.toNat v23) false) (.need ((0:Int)≤v23∧v23<(↑(List.length o2000003):Int)) (.need (Option.isSome (some (v2_b_1,v2_b_2_1,v2_b_2_2_1,()))=true) (.need ((0:Int)≤v23∧v23<(↑(List.length (Prod.fst (Prod.snd (Option.getD (some (v2_b_1,v2_b_2_1,v2_b_2_2_1,())) ([],[],[],()))))):Int)) (cond (decide ((0:Int)≤List.getD (Prod.fst (Prod.snd (Option.getD (some (v2_b_1,v2_b_2_1,v2_b_2_2_1,())) ([],[],[],())))) (Int.toNat v23) (0:Int))) (.need (Option.isSome (some (v2_b_1,v2_b_2_1,v2_b_2_2_1,()))=true) (.need ((0:Int)≤v23∧v23<(↑(List.length (Prod.fst (Prod.snd (Option.getD (some (v2_b_1,v2_b_2_1,v2_b_2_2_1,())) ([],[],[],()))))):Int)) (.need (reachP k (some (v4ba_b_1,v4ba_b_2_1,v4ba_b_2_2_1,())) (o2000001,List.set o2000003 (Int.toNat v23) true) (List.getD (Prod.fst (Prod.snd (Option.getD (some (v2_b_1,v2_b_2_1,v2_b_2_2_1,())) ([],[],[],())))) (Int.toNat v23) (0:Int))) (.need (inK IntKind.i64 (v23+(1:Int))) (.cut (loopAt (bodyOf Try.prog 79) 3).1 (loopAt (bodyOf Try.prog 79) 3).2 (St.mk [(2,AV.rptr (Ty.box false none (Ty.pair (Ty.slc false (Ty.slc false Ty.bool)) (Ty.pair (Ty.slc false (Ty.int IntKind.i64)) (Ty.pair (Ty.slc false Ty.bool) Ty.unit)))) (some (v2_b_1,v2_b_2_1,v2_b_2_2_1,()))),(3,AV.ptr 2000003 []),(4,AV.bx (AV.clo 79 (AV.rc 79 (AV.cons (AV.ptr 2000001 []) (AV.cons (AV.rptr (Ty.box false none (Ty.pair (Ty.slc false (Ty.slc false Ty.bool)) (Ty.pair (Ty.slc false (Ty.int IntKind.i64)) (Ty.pair (Ty.slc false Ty.bool) Ty.unit)))) (some (v4ba_b_1,v4ba_b_2_1,v4ba_b_2_2_1,()))) (AV.cons (AV.ptr 2000003 []) AV.nil)))))),(21,AV.val (Ty.slc false Ty.bool) v21),(22,AV.val (Ty.int IntKind.i64) v22),(23,AV.val (Ty.int IntKind.i64) (v23+(1:Int)))] [(2000001,Ent.var (Ty.slc true Ty.bool) (rAK k (some (v4ba_b_1,v4ba_b_2_1,v4ba_b_2_2_1,())) (o2000001,List.set o2000003 (Int.toNat v23) true) (List.getD (Prod.fst (Prod.snd (Option.getD (some (v2_b_1,v2_b_2_1,v2_b_2_2_1,())) ([],[],[],())))) (Int.toNat v23) (0:Int)))),(2000003,Ent.var (Ty.slc true Ty.bool) (rBK k (some (v4ba_b_1,v4ba_b_2_1,v4ba_b_2_2_1,())) (o2000001,List.set o2000003 (Int.toNat v23) true) (List.getD (Prod.fst (Prod.snd (Option.getD (some (v2_b_1,v2_b_2_1,v2_b_2_2_1,())) ([],[],[],())))) (Int.toNat v23) (0:Int))))])))))) (.need (inK IntKind.i64 (v23+(1:Int))) (.cut (loopAt (bodyOf Try.prog 79) 3).1 (loopAt (bodyOf Try.prog 79) 3).2 (St.mk [(2,AV.rptr (Ty.box false none (Ty.pair (Ty.slc false (Ty.slc false Ty.bool)) (Ty.pair (Ty.slc false (Ty.int IntKind.i64)) (Ty.pair (Ty.slc false Ty.bool) Ty.unit)))) (some (v2_b_1,v2_b_2_1,v2_b_2_2_1,()))),(3,AV.ptr 2000003 []),(4,AV.bx (AV.clo 79 (AV.rc 79 (AV.cons (AV.ptr 2000001 []) (AV.cons (AV.rptr (Ty.box false none (Ty.pair (Ty.slc false (Ty.slc false Ty.bool)) (Ty.pair (Ty.slc false (Ty.int IntKind.i64)) (Ty.pair (Ty.slc false Ty.bool) Ty.unit)))) (some (v4ba_b_1,v4ba_b_2_1,v4ba_b_2_2_1,()))) (AV.cons (AV.ptr 2000003 []) AV.nil)))))),(21,AV.val (Ty.slc false Ty.bool) v21),(22,AV.val (Ty.int IntKind.i64) v22),(23,AV.val (Ty.int IntKind.i64) (v23+(1:Int)))] [(2000001,Ent.var (Ty.slc true Ty.bool) o2000001),(2000003,Ent.var (Ty.slc true Ty.bool) (List.set o2000003 (Int.toNat v23) true))]))))))) (.need (inK IntKind.i64 (v23+(1:Int))) (.cut (loopAt (bodyOf Try.prog 79) 3).1 (loopAt (bodyOf Try.prog 79) 3).2 (St.mk [(2,AV.rptr (Ty.box false none (Ty.pair (Ty.slc false (Ty.slc false Ty.bool)) (Ty.pair (Ty.slc false (Ty.int IntKind.i64)) (Ty.pair (Ty.slc false Ty.bool) Ty.unit)))) (some (v2_b_1,v2_b_2_1,v2_b_2_2_1,()))),(3,AV.ptr 2000003 []),(4,AV.bx (AV.clo 79 (AV.rc 79 (AV.cons (AV.ptr 2000001 []) (AV.cons (AV.rptr (Ty.box false none (Ty.pair (Ty.slc false (Ty.slc false Ty.bool)) (Ty.pair (Ty.slc false (Ty.int IntKind.i64)) (Ty.pair (Ty.slc false Ty.bool) Ty.unit)))) (some (v4ba_b_1,v4ba_b_2_1,v4ba_b_2_2_1,()))) (AV.cons (AV.ptr 2000003 []) AV.nil)))))),(21,AV.val (Ty.slc false Ty.bool) v21),(22,AV.val (Ty.int IntKind.i64) v22),(23,AV.val (Ty.int IntKind.i64) (v23+(1:Int)))] [(2000001,Ent.var (Ty.slc true Ty.bool) o2000001),(2000003,Ent.var (Ty.slc true Ty.bool) o2000003)]))))) (.need (inK IntKind.i64 (v23+(1:Int))) (.cut (loopAt (bodyOf Try.prog 79) 3).1 (loopAt (bodyOf Try.prog 79) 3).2 (St.mk [(2,AV.rptr (Ty.box false none (Ty.pair (Ty.slc false (Ty.slc false Ty.bool)) (Ty.pair (Ty.slc false (Ty.int IntKind.i64)) (Ty.pair (Ty.slc false Ty.bool) Ty.unit)))) (some (v2_b_1,v2_b_2_1,v2_b_2_2_1,()))),(3,AV.ptr 2000003 []),(4,AV.bx (AV.clo 79 (AV.rc 79 (AV.cons (AV.ptr 2000001 []) (AV.cons (AV.rptr (Ty.box false none (Ty.pair (Ty.slc false (Ty.slc false Ty.bool)) (Ty.pair (Ty.slc false (Ty.int IntKind.i64)) (Ty.pair (Ty.slc false Ty.bool) Ty.unit)))) (some (v4ba_b_1,v4ba_b_2_1,v4ba_b_2_2_1,()))) (AV.cons (AV.ptr 2000003 []) AV.nil)))))),(21,AV.val (Ty.slc false Ty.bool) v21),(22,AV.val (Ty.int IntKind.i64) v22),(23,AV.val (Ty.int IntKind.i64) (v23+(1:Int)))] [(2000001,Ent.var (Ty.slc true Ty.bool) o2000001),(2000003,Ent.var (Ty.slc true Ty.bool) o2000003)]))))) (.ret ((o2000001,o2000003,()))):=by kernel_rfl
theorem creach_step {k:Nat} (hk:(creachK k).Valid Try.prog 79):(creachK (k+1)).Valid Try.prog 79:=by
  refine Ctr.valid_of (Ereach_ok hk) rfl rfl Try.func79 (c:=bodyOf Try.prog 79) rfl rfl Freach_ok rfl ?_
  rintro ⟨(a:Int),(L:List Bool),(o:Option GraphD),(R:List Bool),⟨⟩,⟨⟩⟩ ⟨(ho:o.isSome=true),(h0:ROk (gOf o) (L,R)),(ha0:0≤a),(ha1:a<L.length),(hu:unseen L<k+1)⟩ -
  obtain ⟨⟨mv,lf,sn,⟨⟩⟩,rfl⟩:=Option.isSome_iff_exists.1 ho
  have h0:ROk (mv,lf,sn,()) (L,R):=h0
  refine exec_sound (n:=1000) (Ereach_ok hk) Freach_ok ?_
  refine holds_of_eq (Ereach_t k a L mv lf sn R) ?_
  have hrow:(mv.getD a.toNat []).length=R.length:=h0.row a.toNat (by show a.toNat<L.length; omega)
  have hmv:mv.length=L.length:=h0.may
  have hlf:lf.length=R.length:=h0.len
  have hfew:L.length≤1000∧R.length≤1000:=h0.few
  have hleft:∀ b:Nat,b<R.length→0≤lf.getD b 0→lf.getD b 0<L.length:=h0.left
  simp only [holds_cond,Tree.holds,true_and,true_implies,decide_eq_true_eq,decide_eq_false_iff_not,Bool.not_eq_true',Bool.not_eq_false',Int.toNat_natCast,inK_i64,List.length_set,List.length_cons,List.length_nil,Option.isSome_some,Option.getD_some]
  refine ⟨⟨ha0,ha1⟩,fun _=>⟨fun c=>?_,fun c=>⟨⟨ha0,ha1⟩,fun _=>⟨⟨ha0,by omega⟩,fun _=>?_⟩⟩⟩⟩
  · show ((L,R,()):List Bool×List Bool×Unit)=((reachF (k+1) (mv,lf,sn,()) (L,R) a).1,(reachF (k+1) (mv,lf,sn,()) (L,R) a).2,())
    rw [reachF,if_pos c]
  have htot:reachF (k+1) (mv,lf,sn,()) (L,R) a=rLoop (reachF k (mv,lf,sn,())) (mv,lf,sn,()) (mv.getD a.toNat []) R.length 0 (L.set a.toNat true,R):=by
    rw [reachF,if_neg (by show ¬ L.getD a.toNat false=true; rw [c]; simp)]
    show rLoop _ _ _ (mv.getD a.toNat []).length 0 _=_
    rw [hrow]
  have hus:=unseen_set (l:=L) (b:=a.toNat) (by omega) c
  refine Reach.loopI (Ereach_ok hk) Freach_ok (fun s:Nat×LR=>Ereach_s3 mv lf sn mv lf sn (mv.getD a.toNat []) ((mv.getD a.toNat []).length:Int) (s.1:Int) s.2.1 s.2.2) (fun s=>s.1≤R.length∧Grew (L.set a.toNat true,R) s.2∧rLoop (reachF k (mv,lf,sn,())) (mv,lf,sn,()) (mv.getD a.toNat []) (R.length - s.1) s.1 s.2=reachF (k+1) (mv,lf,sn,()) (L,R) a) (fun s=>R.length - s.1) 1000 (fun _=>⟨uniq_of rfl,uniq_of rfl⟩) ?_ (0,(L.set a.toNat true,R)) ⟨Nat.zero_le _,Grew.refl _,htot.symm⟩
  rintro ⟨i,⟨L1,R1⟩⟩ ⟨k1,k2,k3⟩ - ih
  have k1:i≤R.length:=k1
  have k2:Grew (L.set a.toNat true,R) (L1,R1):=k2
  have k3:rLoop (reachF k (mv,lf,sn,())) (mv,lf,sn,()) (mv.getD a.toNat []) (R.length - i) i (L1,R1)=reachF (k+1) (mv,lf,sn,()) (L,R) a:=k3
  refine holds_of_eq (Ereach_l3 k ..) ?_
  have hl1:L1.length=L.length:=by have:=k2.l1; simpa using this
  have hr1:R1.length=R.length:=k2.l2
  have hun:unseen L1≤unseen (L.set a.toNat true):=k2.few
  have hok1:ROk (mv,lf,sn,()) (L1,R1):=h0.grew ((Grew.set1 (L,R) a.toNat).trans k2)
  simp only [holds_cond,Tree.holds,true_and,true_implies,decide_eq_true_eq,decide_eq_false_iff_not,Bool.not_eq_true',Bool.not_eq_false',Int.toNat_natCast,inK_i64,List.length_set,List.length_cons,List.length_nil,Option.isSome_some,Option.getD_some]
  refine ⟨fun c1=>⟨by omega,fun _=>⟨fun e1=>⟨by omega,fun _=>⟨fun e2=>⟨by omega,fun _=>⟨by omega,fun _=>⟨fun e3=>⟨by omega,fun _=>⟨?_,fun _=>⟨by omega,fun _=>?_⟩⟩⟩,fun e3=>⟨by omega,fun _=>?_⟩⟩⟩⟩,fun e2=>⟨by omega,fun _=>?_⟩⟩⟩,fun e1=>⟨by omega,fun _=>?_⟩⟩⟩,fun c1=>?_⟩
  · have hi:i<R.length:=by omega
    exact ⟨rfl,hok1.grew (Grew.set2 _ _),e3,by show lf.getD i 0<L1.length; have:=hleft i hi e3; omega,by show unseen L1<k; omega⟩
  · have hi:i<R.length:=by omega
    rw [show R.length - i=(R.length - (i+1))+1 by omega,rLoop,if_pos ⟨e1,e2⟩,if_pos e3] at k3
    exact ih (i+1,reachF k (mv,lf,sn,()) (L1,R1.set i true) (lf.getD i 0)) ⟨by show i+1≤_; omega,(k2.trans (Grew.set2 (L1,R1) i)).trans reachF_grew,k3⟩ (by show _ - (i+1)<_ - i; omega)
  · have hi:i<R.length:=by omega
    rw [show R.length - i=(R.length - (i+1))+1 by omega,rLoop,if_pos ⟨e1,e2⟩,if_neg (by show ¬ 0≤lf.getD i 0; omega)] at k3
    exact ih (i+1,(L1,R1.set i true)) ⟨by show i+1≤_; omega,k2.trans (Grew.set2 (L1,R1) i),k3⟩ (by show _ - (i+1)<_ - i; omega)
  · have hi:i<R.length:=by omega
    rw [show R.length - i=(R.length - (i+1))+1 by omega,rLoop,if_neg (fun h=>by have h2:R1.getD i false=false:=h.2; rw [e2] at h2; cases h2)] at k3
    exact ih (i+1,(L1,R1)) ⟨by show i+1≤_; omega,k2,k3⟩ (by show _ - (i+1)<_ - i; omega)
  · have hi:i<R.length:=by omega
    rw [show R.length - i=(R.length - (i+1))+1 by omega,rLoop,if_neg (fun h=>by rw [e1] at h; exact absurd h.1 (by simp))] at k3
    exact ih (i+1,(L1,R1)) ⟨by show i+1≤_; omega,k2,k3⟩ (by show _ - (i+1)<_ - i; omega)
  · have:i=R.length:=by omega
    rw [this,Nat.sub_self,rLoop] at k3
    show ((L1,R1,()):List Bool×List Bool×Unit)=((reachF (k+1) (mv,lf,sn,()) (L,R) a).1,(reachF (k+1) (mv,lf,sn,()) (L,R) a).2,())
    rw [← k3]
theorem creach_valid:∀ k,(creachK k).Valid Try.prog 79
  | 0=>by
    refine Ctr.Valid.never ⟨_,Try.func79,by kernel_rfl,by kernel_rfl⟩ ?_
    rintro ⟨(a:Int),(L:List Bool),(o:Option GraphD),(R:List Bool),⟨⟩,⟨⟩⟩ ⟨_,_,_,_,h⟩
    exact absurd h (Nat.not_lt_zero _)
  | k+1=>creach_step (creach_valid k)
def cr41:Ctr:=creachK 41
theorem cr41_valid:cr41.Valid Try.prog 79:=creach_valid 41
end Go.Proofs.Ytegigiecamjobaa
