/- goWith: how many on the right some on the left may go with. Condition: pairs in range. -/
import Derived.Test.YtegigiecamjobaaOnesB
import Derived.Test.YtegigiecamjobaaBitW
import Derived.Test.YtegigiecamjobaaCovK
namespace Go.Proofs.Ytegigiecamjobaa
open Go.Ex
set_option maxRecDepth 100000
def goP (l:List PairD) (left:List Int) (b:Nat):Prop:=∃ q∈l,q.1∈left∧q.2.1.toNat=b
instance {l:List PairD} {left:List Int} {b:Nat}:Decidable (goP l left b):=inferInstanceAs (Decidable (∃ q∈l,_))
def goW (l:List PairD) (left:List Int):Int:=(((List.range 64).filter (fun b:Nat=>decide (goP l left b))).length:Int)
def cgoW:Ctr:={ ps:=[.v (.slc false PairT),.v (.slc false I64)],rs:=[I64],pre:=fun x=>∀ q:PairD,q∈(show List PairD from x.1)→0≤q.2.1∧q.2.1<64,fn:=fun x=>(goW x.1 x.2.1,()),out:=fun _=>() }
noncomputable def EgoW:Env:={ P:=Try.prog,tt:=tt,ctr:=[(34,ccontI),(88,cpop64)],res:=[Go.ResultVar.tmp 4],rs:=[Ty.int IntKind.i64],ps:=[PK.v (Ty.slc false PairT),PK.v (Ty.slc false (Ty.int IntKind.i64))],cuts:=[(3,[(1,none),(5,none),(8,none),(9,none),(10,none)])],nt:=26 }
theorem EgoW_ok:EnvOk EgoW:=envOk tt_ok ⟨ccontI_valid,cpop64_valid,trivial⟩
theorem FgoW_ok:FnOk EgoW Try.f40:=⟨rfl,rfl⟩
theorem EgoW_t (x0:List (Int×Int×Unit)) (x1:List Int):exec EgoW 1000 [.code (bodyOf Try.prog 40)] (initSt cgoW.ps ((x0,x1,()))) =
  .cut (loopAt (bodyOf Try.prog 40) 3).1 (loopAt (bodyOf Try.prog 40) 3).2 (St.mk [(1,AV.val (Ty.slc false (Ty.int IntKind.i64)) x1),(5,AV.val (Ty.int IntKind.u64) (0:Int)),(8,AV.val (Ty.slc false PairT) x0),(9,AV.val (Ty.int IntKind.i64) (↑(List.length x0):Int)),(10,AV.val (Ty.int IntKind.i64) (0:Int))] []):=by kernel_rfl
def EgoW_s3 (v1:List Int) (v5:Int) (v8:List (Int×Int×Unit)) (v9:Int) (v10:Int):St:=St.mk [(1,AV.val (Ty.slc false (Ty.int IntKind.i64)) v1),(5,AV.val (Ty.int IntKind.u64) v5),(8,AV.val (Ty.slc false PairT) v8),(9,AV.val (Ty.int IntKind.i64) v9),(10,AV.val (Ty.int IntKind.i64) v10)] []
theorem EgoW_l3 (v1:List Int) (v5:Int) (v8:List (Int×Int×Unit)) (v9:Int) (v10:Int):exec EgoW 1000 (.code (loopAt (bodyOf Try.prog 40) 3).1::.inLoop (loopAt (bodyOf Try.prog 40) 3).1::(loopAt (bodyOf Try.prog 40) 3).2) (EgoW_s3 v1 v5 v8 v9 v10) =
  cond (decide (v10<v9)) (.need ((0:Int)≤v10∧v10<(↑(List.length v8):Int)) (.need (True) (cond (decide (Prod.fst (List.getD v8 (Int.toNat v10) ((0:Int),(0:Int),()))∈v1)) (.need ((0:Int)≤Prod.fst (Prod.snd (List.getD v8 (Int.toNat v10) ((0:Int),(0:Int),())))) (.need (inK IntKind.i64 (v10+(1:Int))) (.cut (loopAt (bodyOf Try.prog 40) 3).1 (loopAt (bodyOf Try.prog 40) 3).2 (St.mk [(1,AV.val (Ty.slc false (Ty.int IntKind.i64)) v1),(5,AV.val (Ty.int IntKind.u64) (bOr IntKind.u64 v5 (IntKind.wrap IntKind.u64 ((1:Int)*(2:Int)^min (Int.toNat (Prod.fst (Prod.snd (List.getD v8 (Int.toNat v10) ((0:Int),(0:Int),()))))) (IntKind.bits IntKind.u64))))),(8,AV.val (Ty.slc false PairT) v8),(9,AV.val (Ty.int IntKind.i64) v9),(10,AV.val (Ty.int IntKind.i64) (v10+(1:Int)))] [])))) (.need (inK IntKind.i64 (v10+(1:Int))) (.cut (loopAt (bodyOf Try.prog 40) 3).1 (loopAt (bodyOf Try.prog 40) 3).2 (St.mk [(1,AV.val (Ty.slc false (Ty.int IntKind.i64)) v1),(5,AV.val (Ty.int IntKind.u64) v5),(8,AV.val (Ty.slc false PairT) v8),(9,AV.val (Ty.int IntKind.i64) v9),(10,AV.val (Ty.int IntKind.i64) (v10+(1:Int)))] [])))))) (.need (True) (.ret ((pop64 v5,())))):=by kernel_rfl
theorem goW_of {l:List PairD} {left:List Int} {a:Int} (h:Mask a (goP l left)):pop64 a=goW l left:=by
  unfold pop64 goW
  refine congrArg (fun L:List Nat=>((L.length:Nat):Int)) (List.filter_congr (fun i _=>?_))
  rw [Bool.eq_iff_iff,decide_eq_true_iff]
  exact h.bits i
theorem cgoW_valid:cgoW.Valid Try.prog 40:=by
  refine Ctr.valid_of EgoW_ok rfl rfl Try.func40 (c:=bodyOf Try.prog 40) rfl rfl FgoW_ok rfl ?_
  rintro ⟨(l:List PairD),(left:List Int),⟨⟩⟩ (hp:∀ q:PairD,q∈l→0≤q.2.1∧q.2.1<64) ⟨⟨h0,h1⟩,⟨h2,h3⟩,-⟩
  refine exec_sound (n:=1000) EgoW_ok FgoW_ok ?_
  refine holds_of_eq (EgoW_t l left) ?_
  have h0:l.length≤9223372036854775807:=h0
  refine Reach.loopI EgoW_ok FgoW_ok (fun s:Nat×Int=>EgoW_s3 left s.2 l (l.length:Int) (s.1:Int)) (fun s=>s.1≤l.length∧Mask s.2 (goP (l.take s.1) left)) (fun s=>l.length - s.1) 1000 (fun _=>⟨uniq_of rfl,uniq_of rfl⟩) ?_ (0,0) ⟨Nat.zero_le _,Mask.zero.congr (fun i=>by simp [goP])⟩
  rintro ⟨i,a⟩ ⟨k1,k2⟩ - ih
  have k1:i≤l.length:=k1
  have k2:Mask a (goP (l.take i) left):=k2
  refine holds_of_eq (EgoW_l3 ..) ?_
  simp only [holds_cond,Tree.holds,true_and,true_implies,decide_eq_true_eq,decide_eq_false_iff_not,Bool.not_eq_true',Bool.not_eq_false',Int.toNat_natCast,inK_i64,List.length_set,List.length_cons,List.length_nil]
  refine ⟨fun c=>⟨by omega,fun _=>?_⟩,fun c=>?_⟩
  · have hi:i<l.length:=by omega
    have hq:=hp _ (getD_mem (d:=(0,0,())) hi)
    have hs:=take_s hi (0,0,())
    generalize l.getD i (0,0,())=q at *
    refine ⟨fun c1=>⟨by omega,fun _=>⟨by omega,fun _=>?_⟩⟩,fun c1=>⟨by omega,fun _=>?_⟩⟩
    · refine ih (i+1,_) ⟨by show i+1≤_; omega,?_⟩ (by show _ - (i+1)<_ - i; omega)
      show Mask _ (goP (l.take (i+1)) left)
      refine (k2.add (k:=q.2.1.toNat) (by omega)).congr (fun b=>?_)
      rw [hs]
      constructor
      · rintro (⟨p,hp,e1,e2⟩|rfl)
        · exact ⟨p,List.mem_append_left _ hp,e1,e2⟩
        · exact ⟨q,List.mem_append_right _ List.mem_cons_self,c1,rfl⟩
      · rintro ⟨p,hp,e1,e2⟩
        rcases List.mem_append.1 hp with hp|hp
        · exact .inl ⟨p,hp,e1,e2⟩
        · rw [List.mem_singleton.1 hp] at e2; exact .inr e2.symm
    · refine ih (i+1,a) ⟨by show i+1≤_; omega,?_⟩ (by show _ - (i+1)<_ - i; omega)
      show Mask _ (goP (l.take (i+1)) left)
      refine k2.congr (fun b=>?_)
      rw [hs]
      constructor
      · rintro ⟨p,hp,e1,e2⟩
        exact ⟨p,List.mem_append_left _ hp,e1,e2⟩
      · rintro ⟨p,hp,e1,e2⟩
        rcases List.mem_append.1 hp with hp|hp
        · exact ⟨p,hp,e1,e2⟩
        · rw [List.mem_singleton.1 hp] at e1; exact absurd e1 c1
  · have hi:l.length=i:=by omega
    show ((_,()):Int×Unit)=(goW l left,())
    rw [goW_of (l:=l) (left:=left) (a:=a) (by rw [← hi,List.take_length] at k2; exact k2)]
end Go.Proofs.Ytegigiecamjobaa
