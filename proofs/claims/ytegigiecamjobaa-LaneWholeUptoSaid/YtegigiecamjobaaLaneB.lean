/- Where a parcel stands among those that came early (slices.BinarySearchFunc). -/
import Derived.Test.YtegigiecamjobaaLane
namespace Go.Proofs.Ytegigiecamjobaa
open Go.Ex
set_option maxRecDepth 100000
def lcmp (p:ParcelD) (n:Int):Int:=p.1 - n
def clcmp:Ctr:={ ps:=[.v Parcel,.v I64],rs:=[I64],pre:=fun x=>(LE.le (α:=Int) (-100000000) x.1.1∧LE.le (α:=Int) x.1.1 100000000)∧(LE.le (α:=Int) (-100000000) x.2.1∧LE.le (α:=Int) x.2.1 100000000),fn:=fun x=>(lcmp x.1 x.2.1,()),out:=fun _=>() }
noncomputable def Elcmp:Env:={ P:=Try.prog,tt:=tt,ctr:=[],res:=[Go.ResultVar.tmp 4],rs:=[Ty.int IntKind.i64],ps:=[PK.v (Ty.pair (Ty.int IntKind.i64) (Ty.pair Ty.str Ty.unit)),PK.v (Ty.int IntKind.i64)],cuts:=[],nt:=9 }
theorem Elcmp_ok:EnvOk Elcmp:=envOk tt_ok trivial
theorem Flcmp_ok:FnOk Elcmp Try.f85:=⟨rfl,rfl⟩
theorem Elcmp_t (x0_1:Int) (x0_2_1:List UInt8) (x1:Int):exec Elcmp 1000 [.code (bodyOf Try.prog 85)] (initSt clcmp.ps (((x0_1,x0_2_1,()),x1,()))) =
  .need (inK IntKind.i64 (x0_1 - x1)) (.ret ((x0_1 - x1,()))):=by kernel_rfl
theorem clcmp_valid:clcmp.Valid Try.prog 85:=by
  refine Ctr.valid_of Elcmp_ok rfl rfl Try.func85 (c:=bodyOf Try.prog 85) rfl rfl Flcmp_ok rfl ?_
  rintro ⟨⟨(q:Int),(s:List UInt8),⟨⟩⟩,(n:Int),⟨⟩⟩ ⟨⟨(h1:-100000000≤q),(h2:q≤100000000)⟩,(h3:-100000000≤n),(h4:n≤100000000)⟩ -
  refine exec_sound (n:=1000) Elcmp_ok Flcmp_ok ?_
  refine holds_of_eq (Elcmp_t q s n) ?_
  simp only [holds_cond,Tree.holds,true_and,true_implies,decide_eq_true_eq,decide_eq_false_iff_not,Bool.not_eq_true',Bool.not_eq_false',Int.toNat_natCast,inK_i64,List.length_set,List.length_cons,List.length_nil]
  exact ⟨by omega,fun _=>rfl⟩
def atF (n:Int) (l:List ParcelD):Nat:=(l.takeWhile fun p=>decide (p.1<n)).length
theorem atF_eq {n:Int}:∀ {l:List ParcelD} {i:Nat},i≤l.length→(∀ k,k<i→(l.getD k p00).1<n)→(i<l.length→n≤(l.getD i p00).1)→atF n l=i
  | [],i,hi,_,_=>by simp at hi; subst hi; rfl
  | p::l,0,_,_,h=>by
    have:=h (by simp)
    rw [atF,List.takeWhile_cons,if_neg]
    · rfl
    · rw [decide_eq_true_eq]; show ¬ p.1<n; exact Int.not_lt.2 this
  | p::l,i+1,hi,h1,h2=>by
    have h0:p.1<n:=h1 0 (by omega)
    have:=atF_eq (l:=l) (i:=i) (by simpa using hi) (fun k hk=>h1 (k+1) (by omega)) (fun hk=>h2 (by simpa using hk))
    rw [atF,List.takeWhile_cons,if_pos (decide_eq_true h0),List.length_cons]
    rw [atF] at this; omega
def sorted (l:List ParcelD):Prop:=(∀ i j,i<j→j<l.length→(l.getD i p00).1<(l.getD j p00).1)∧(∀ i,i<l.length→-100000000≤(l.getD i p00).1∧(l.getD i p00).1≤100000000)
def knownF (n:Int) (l:List ParcelD):Bool:=decide (atF n l<l.length) && decide ((l.getD (atF n l) p00).1 - n=0)
def cbsF:Ctr:={ ps:=[.v (.slc false Parcel),.v I64,.clo 85 []],rs:=[I64,.bool],pre:=fun x=>(List.length (α:=ParcelD) x.1≤1000∧sorted x.1)∧(LE.le (α:=Int) (-100000000) x.2.1∧LE.le (α:=Int) x.2.1 100000000),fn:=fun x=>((atF x.2.1 x.1:Int),knownF x.2.1 x.1,()),out:=fun _=>() }
noncomputable def EbsF:Env:={ P:=Try.prog,tt:=tt,ctr:=[(85,clcmp)],res:=[Go.ResultVar.tmp 6,Go.ResultVar.tmp 7],rs:=[Ty.int IntKind.i64,Ty.bool],ps:=[PK.v (Ty.slc false (Ty.pair (Ty.int IntKind.i64) (Ty.pair Ty.str Ty.unit))),PK.v (Ty.int IntKind.i64),PK.clo 85 []],cuts:=[(3,[(0,none),(1,none),(2,none),(8,none),(9,none),(10,none)])],nt:=49 }
theorem EbsF_ok:EnvOk EbsF:=envOk tt_ok ⟨clcmp_valid,trivial⟩
theorem FbsF_ok:FnOk EbsF Try.f84:=⟨rfl,rfl⟩
theorem EbsF_t (x0:List (Int×List UInt8×Unit)) (x1:Int):exec EbsF 1000 [.code (bodyOf Try.prog 84)] (initSt cbsF.ps ((x0,x1,(),()))) =
  .cut (loopAt (bodyOf Try.prog 84) 3).1 (loopAt (bodyOf Try.prog 84) 3).2 (St.mk [(0,AV.val (Ty.slc false (Ty.pair (Ty.int IntKind.i64) (Ty.pair Ty.str Ty.unit))) x0),(1,AV.val (Ty.int IntKind.i64) x1),(2,AV.clo 85 AV.nil),(8,AV.val (Ty.int IntKind.i64) (↑(List.length x0):Int)),(9,AV.val (Ty.int IntKind.i64) (0:Int)),(10,AV.val (Ty.int IntKind.i64) (↑(List.length x0):Int))] []):=by kernel_rfl
def EbsF_s3 (v0:List (Int×List UInt8×Unit)) (v1:Int) (v8:Int) (v9:Int) (v10:Int):St:=St.mk [(0,AV.val (Ty.slc false (Ty.pair (Ty.int IntKind.i64) (Ty.pair Ty.str Ty.unit))) v0),(1,AV.val (Ty.int IntKind.i64) v1),(2,AV.clo 85 AV.nil),(8,AV.val (Ty.int IntKind.i64) v8),(9,AV.val (Ty.int IntKind.i64) v9),(10,AV.val (Ty.int IntKind.i64) v10)] []
theorem EbsF_l3 (v0:List (Int×List UInt8×Unit)) (v1:Int) (v8:Int) (v9:Int) (v10:Int):exec EbsF 1000 (.code (loopAt (bodyOf Try.prog 84) 3).1::.inLoop (loopAt (bodyOf Try.prog 84) 3).1::(loopAt (bodyOf Try.prog 84) 3).2) (EbsF_s3 v0 v1 v8 v9 v10) =
  cond (decide (v9<v10)) (.need (inK IntKind.i64 (v9+v10)) (.need ((0:Int)≤(1:Int)) (.need ((0:Int)≤IntKind.wrap IntKind.i64 (IntKind.wrap IntKind.u64 (v9+v10) / (2:Int)^min (Int.toNat (1:Int)) (IntKind.bits IntKind.u64))∧IntKind.wrap IntKind.i64 (IntKind.wrap IntKind.u64 (v9+v10) / (2:Int)^min (Int.toNat (1:Int)) (IntKind.bits IntKind.u64))<(↑(List.length v0):Int)) (.need (((-100000000:Int)≤Prod.fst (List.getD v0 (Int.toNat (IntKind.wrap IntKind.i64 (IntKind.wrap IntKind.u64 (v9+v10) / (2:Int)^min (Int.toNat (1:Int)) (IntKind.bits IntKind.u64)))) ((0:Int),[],()))∧Prod.fst (List.getD v0 (Int.toNat (IntKind.wrap IntKind.i64 (IntKind.wrap IntKind.u64 (v9+v10) / (2:Int)^min (Int.toNat (1:Int)) (IntKind.bits IntKind.u64)))) ((0:Int),[],()))≤(100000000:Int))∧(-100000000:Int)≤v1∧v1≤(100000000:Int)) (cond (decide (lcmp (List.getD v0 (Int.toNat (IntKind.wrap IntKind.i64 (IntKind.wrap IntKind.u64 (v9+v10) / (2:Int)^min (Int.toNat (1:Int)) (IntKind.bits IntKind.u64)))) ((0:Int),[],())) v1<(0:Int))) (.need (inK IntKind.i64 (IntKind.wrap IntKind.i64 (IntKind.wrap IntKind.u64 (v9+v10) / (2:Int)^min (Int.toNat (1:Int)) (IntKind.bits IntKind.u64))+(1:Int))) (.cut (loopAt (bodyOf Try.prog 84) 3).1 (loopAt (bodyOf Try.prog 84) 3).2 (St.mk [(0,AV.val (Ty.slc false (Ty.pair (Ty.int IntKind.i64) (Ty.pair Ty.str Ty.unit))) v0),(1,AV.val (Ty.int IntKind.i64) v1),(2,AV.clo 85 AV.nil),(8,AV.val (Ty.int IntKind.i64) v8),(9,AV.val (Ty.int IntKind.i64) (IntKind.wrap IntKind.i64 (IntKind.wrap IntKind.u64 (v9+v10) / (2:Int)^min (Int.toNat (1:Int)) (IntKind.bits IntKind.u64))+(1:Int))),(10,AV.val (Ty.int IntKind.i64) v10)] []))) (.cut (loopAt (bodyOf Try.prog 84) 3).1 (loopAt (bodyOf Try.prog 84) 3).2 (St.mk [(0,AV.val (Ty.slc false (Ty.pair (Ty.int IntKind.i64) (Ty.pair Ty.str Ty.unit))) v0),(1,AV.val (Ty.int IntKind.i64) v1),(2,AV.clo 85 AV.nil),(8,AV.val (Ty.int IntKind.i64) v8),(9,AV.val (Ty.int IntKind.i64) v9),(10,AV.val (Ty.int IntKind.i64) (IntKind.wrap IntKind.i64 (IntKind.wrap IntKind.u64 (v9+v10) / (2:Int)^min (Int.toNat (1:Int)) (IntKind.bits IntKind.u64))))] []))))))) (cond (decide (v9<v8)) (.need ((0:Int)≤v9∧v9<(↑(List.length v0):Int)) (.need (((-100000000:Int)≤Prod.fst (List.getD v0 (Int.toNat v9) ((0:Int),[],()))∧Prod.fst (List.getD v0 (Int.toNat v9) ((0:Int),[],()))≤(100000000:Int))∧(-100000000:Int)≤v1∧v1≤(100000000:Int)) (.ret ((v9,decide (lcmp (List.getD v0 (Int.toNat v9) ((0:Int),[],())) v1=(0:Int)),()))))) (.ret ((v9,false,())))):=by kernel_rfl
theorem cbsF_valid:cbsF.Valid Try.prog 84:=by
  refine Ctr.valid_of EbsF_ok rfl rfl Try.func84 (c:=bodyOf Try.prog 84) rfl rfl FbsF_ok rfl ?_
  rintro ⟨(l:List ParcelD),(n:Int),⟨⟩,⟨⟩⟩ ⟨⟨(h0:l.length≤1000),(hs:sorted l)⟩,(h1:-100000000≤n),(h2:n≤100000000)⟩ -
  refine exec_sound (n:=1000) EbsF_ok FbsF_ok ?_
  refine holds_of_eq (EbsF_t l n) ?_
  refine Reach.loopI EbsF_ok FbsF_ok (fun s:Nat×Nat=>EbsF_s3 l n (l.length:Int) (s.1:Int) (s.2:Int)) (fun s=>s.1≤s.2∧s.2≤l.length∧(∀ k,k<s.1→(l.getD k p00).1<n)∧(∀ k,s.2≤k→k<l.length→n≤(l.getD k p00).1)) (fun s=>s.2 - s.1) 1000 (fun _=>⟨uniq_of rfl,uniq_of rfl⟩) ?_ (0,l.length) ⟨Nat.zero_le _,Nat.le_refl _,fun k hk=>by omega,fun k hk hk2=>by omega⟩
  rintro ⟨i,j⟩ ⟨k1,k2,k3,k4⟩ - ih
  have k1:i≤j:=k1
  have k2:j≤l.length:=k2
  have k3:∀ k,k<i→(l.getD k p00).1<n:=k3
  have k4:∀ k,j≤k→k<l.length→n≤(l.getD k p00).1:=k4
  refine holds_of_eq (EbsF_l3 ..) ?_
  have hh:IntKind.wrap .i64 (IntKind.wrap .u64 ((i:Int)+(j:Int)) / 2^min (Int.toNat 1) (IntKind.bits .u64))=(((i+j) / 2:Nat):Int):=by
    rw [wrap_same (k:=.u64) (by show (0:Int)≤_∧_≤(18446744073709551615:Int); omega)]
    rw [show (2:Int)^min (Int.toNat 1) (IntKind.bits .u64)=2 from rfl]
    rw [wrap_same (k:=.i64) (by show (-9223372036854775808:Int)≤_∧_≤(9223372036854775807:Int); omega)]
    omega
  rw [show ((i,j):Nat×Nat).1=i from rfl,show ((i,j):Nat×Nat).2=j from rfl,hh]
  simp only [holds_cond,Tree.holds,true_and,true_implies,decide_eq_true_eq,decide_eq_false_iff_not,Bool.not_eq_true',Bool.not_eq_false',Int.toNat_natCast,inK_i64,List.length_set,List.length_cons,List.length_nil]
  refine ⟨fun c=>⟨by omega,fun _=>⟨by omega,fun _=>?_⟩⟩,fun c=>?_⟩
  · have hm:(i+j) / 2<l.length:=by omega
    have hrg:=hs.2 _ hm
    have e0:l.getD ((i+j) / 2) (0,[],())=l.getD ((i+j) / 2) p00:=rfl
    rw [e0]
    refine ⟨⟨by omega,by omega⟩,fun _=>⟨⟨hrg,h1,h2⟩,fun _=>⟨fun d=>⟨by omega,fun _=>?_⟩,fun d=>?_⟩⟩⟩
    · have d:(l.getD ((i+j) / 2) p00).1 - n<0:=d
      exact ih ((i+j) / 2+1,j) ⟨by show (i+j) / 2+1≤j; omega,k2,fun k hk=>(by
        have hk:k<(i+j) / 2+1:=hk
        by_cases e:k=(i+j) / 2
        · subst e; omega
        · have:=hs.1 k ((i+j) / 2) (by omega) hm; omega),k4⟩ (by show j - ((i+j) / 2+1)<j - i; omega)
    · have d:¬ (l.getD ((i+j) / 2) p00).1 - n<0:=d
      exact ih (i,(i+j) / 2) ⟨by show i≤(i+j) / 2; omega,by show (i+j) / 2≤l.length; omega,k3,fun k hk hk2=>(by
        have hk:(i+j) / 2≤k:=hk
        by_cases e:k=(i+j) / 2
        · subst e; omega
        · have:=hs.1 ((i+j) / 2) k (by omega) hk2; omega)⟩ (by show (i+j) / 2 - i<j - i; omega)
  · have e:j=i:=by omega
    subst e
    have hat:atF n l=j:=atF_eq k2 k3 (fun h=>k4 j (Nat.le_refl _) h)
    have key:∀ {x:Bool},knownF n l=x→(((j:Int),x,()):Int×Bool×Unit)=((atF n l:Int),knownF n l,()):=by rintro x rfl; rw [hat]
    have hk:knownF n l=(decide (j<l.length) && decide ((l.getD j p00).1 - n=0)):=by rw [knownF,hat]
    refine ⟨fun d=>⟨by omega,fun _=>⟨⟨hs.2 j (by omega),h1,h2⟩,fun _=>key ?_⟩⟩,fun d=>key ?_⟩
    · rw [hk,decide_eq_true (show j<l.length by omega),Bool.true_and]; rfl
    · rw [hk,decide_eq_false (show ¬ j<l.length by omega)]; rfl
end Go.Proofs.Ytegigiecamjobaa
