/- snap.Check. No condition. -/
import Derived.Test.YtgmbfnlhmnpciaaSnaD
import Derived.Test.YtgmbfnlhmnpciaaBase
namespace Go.Proofs.Ytgmbfnlhmnpciaa
open Go.Ex
set_option maxRecDepth 100000
def fstE (f:Nat→Int):Nat→Int
  | 0=>0
  | k+1=>if fstE f k≠0 then fstE f k else f k
theorem fstE_stop {f:Nat→Int} {k:Nat} (h0:fstE f k=0) (h1:f k≠0):∀ {n:Nat},k<n→fstE f n=f k
  | n+1,h=>by
    by_cases e:k=n
    · subst e; simp [fstE,h0]
    · have:=fstE_stop h0 h1 (n:=n) (by omega)
      simp [fstE,this,h1]
theorem fstE_step {f:Nat→Int} {k:Nat} (h0:fstE f k=0) (h1:f k=0):fstE f (k+1)=0:=by simp [fstE,h0,h1]
theorem fstE_zero {f:Nat→Int}:∀ {n:Nat},fstE f n=0↔∀ k,k<n→f k=0
  | 0=>by simp [fstE]
  | n+1=>by
    constructor
    · intro h k hk
      have h2:fstE f n=0:=by
        by_cases e:fstE f n=0
        · exact e
        · rw [fstE,if_pos e] at h; exact absurd h e
      by_cases e:k=n
      · subst e; simpa [fstE,h2] using h
      · exact fstE_zero.1 h2 k (by omega)
    · intro h
      exact fstE_step (fstE_zero.2 (fun k hk=>h k (by omega))) (h n (by omega))
def csnin:Ctr:={ ps:=[.v I64,.v I64,.v I64],rs:=[.bool],pre:=fun _=>True,fn:=fun x=>(inF x.1 x.2.1 x.2.2.1,()),out:=fun _=>() }
noncomputable def Esnin:Env:={ P:=Try.prog,tt:=tt,ctr:=[],res:=[Go.ResultVar.tmp 6],rs:=[Ty.bool],ps:=[PK.v (Ty.int IntKind.i64),PK.v (Ty.int IntKind.i64),PK.v (Ty.int IntKind.i64)],cuts:=[],nt:=15 }
theorem Esnin_ok:EnvOk Esnin:=envOk tt_ok trivial
theorem Fsnin_ok:FnOk Esnin Try.f43:=⟨rfl,rfl⟩
theorem Esnin_t (x0:Int) (x1:Int) (x2:Int):exec Esnin 1000 [.code (bodyOf Try.prog 43)] (initSt csnin.ps ((x0,x1,x2,()))) =
  cond (decide (x1≤x0)) (.ret ((decide (x0≤x2),()))) (.ret ((false,()))):=by kernel_rfl
theorem csnin_valid:csnin.Valid Try.prog 43:=by
  refine Ctr.valid_of Esnin_ok rfl rfl Try.func43 (c:=bodyOf Try.prog 43) rfl rfl Fsnin_ok rfl ?_
  rintro ⟨(a:Int),(b:Int),(c:Int),⟨⟩⟩ - -
  refine exec_sound (n:=1000) Esnin_ok Fsnin_ok ?_
  refine holds_of_eq (Esnin_t a b c) ?_
  simp only [holds_cond,Tree.holds,true_and,true_implies,decide_eq_true_eq,decide_eq_false_iff_not,Bool.not_eq_true',Bool.not_eq_false',Int.toNat_natCast,inK_i64,List.length_set,List.length_cons,List.length_nil]
  repeat' first|exact trivial|(refine And.intro ?_ ?_)|(intro _)
  all_goals (show ((_,()):Bool×Unit)=(inF a b c,()); simp [inF, *])
def badH (x:Int):Bool:=!inF x 0 1000000
def cbadH:Ctr:={ ps:=[.v I64],rs:=[.bool],pre:=fun _=>True,fn:=fun x=>(badH x.1,()),out:=fun _=>() }
noncomputable def EbadH:Env:={ P:=Try.prog,tt:=tt,ctr:=[(43,csnin)],res:=[Go.ResultVar.tmp 2],rs:=[Ty.bool],ps:=[PK.v (Ty.int IntKind.i64)],cuts:=[],nt:=6 }
theorem EbadH_ok:EnvOk EbadH:=envOk tt_ok ⟨csnin_valid,trivial⟩
theorem FbadH_ok:FnOk EbadH Try.f45:=⟨rfl,rfl⟩
theorem EbadH_t (x0:Int):exec EbadH 1000 [.code (bodyOf Try.prog 45)] (initSt cbadH.ps ((x0,()))) =
  .need (True) (.ret ((!inF x0 (0:Int) (1000000:Int),()))):=by kernel_rfl
theorem cbadH_valid:cbadH.Valid Try.prog 45:=by
  refine Ctr.valid_of EbadH_ok rfl rfl Try.func45 (c:=bodyOf Try.prog 45) rfl rfl FbadH_ok rfl ?_
  rintro ⟨(n:Int),⟨⟩⟩ - -
  refine exec_sound (n:=1000) EbadH_ok FbadH_ok ?_
  refine holds_of_eq (EbadH_t n) ?_
  simp only [holds_cond,Tree.holds,true_and,true_implies,decide_eq_true_eq,decide_eq_false_iff_not,Bool.not_eq_true',Bool.not_eq_false',Int.toNat_natCast,inK_i64,List.length_set,List.length_cons,List.length_nil]
  rfl
def cidxH:Ctr:={ ps:=[.v (.slc false I64),.clo 45 []],rs:=[I64],pre:=fun x=>True,fn:=fun x=>(idxOf (badH) x.1,()),out:=fun _=>() }
noncomputable def EidxH:Env:={ P:=Try.prog,tt:=tt,ctr:=[(45,cbadH)],res:=[Go.ResultVar.tmp 4],rs:=[Ty.int IntKind.i64],ps:=[PK.v (Ty.slc false (Ty.int IntKind.i64)),PK.clo 45 []],cuts:=[(2,[(0,none),(1,none),(7,none),(8,none)])],nt:=19 }
theorem EidxH_ok:EnvOk EidxH:=envOk tt_ok ⟨cbadH_valid,trivial⟩
theorem FidxH_ok:FnOk EidxH Try.f57:=⟨rfl,rfl⟩
theorem EidxH_t (x0:List Int):exec EidxH 1000 [.code (bodyOf Try.prog 57)] (initSt cidxH.ps ((x0,(),()))) =
  .cut (loopAt (bodyOf Try.prog 57) 2).1 (loopAt (bodyOf Try.prog 57) 2).2 (St.mk [(0,AV.val (Ty.slc false (Ty.int IntKind.i64)) x0),(1,AV.clo 45 AV.nil),(7,AV.val (Ty.int IntKind.i64) (↑(List.length x0):Int)),(8,AV.val (Ty.int IntKind.i64) (0:Int))] []):=by kernel_rfl
def EidxH_s2 (v0:List Int) (v7:Int) (v8:Int):St:=St.mk [(0,AV.val (Ty.slc false (Ty.int IntKind.i64)) v0),(1,AV.clo 45 AV.nil),(7,AV.val (Ty.int IntKind.i64) v7),(8,AV.val (Ty.int IntKind.i64) v8)] []
theorem EidxH_l2 (v0:List Int) (v7:Int) (v8:Int):exec EidxH 1000 (.code (loopAt (bodyOf Try.prog 57) 2).1::.inLoop (loopAt (bodyOf Try.prog 57) 2).1::(loopAt (bodyOf Try.prog 57) 2).2) (EidxH_s2 v0 v7 v8) =
  cond (decide (v8<v7)) (.need ((0:Int)≤v8∧v8<(↑(List.length v0):Int)) (.need (True) (cond (badH (List.getD v0 (Int.toNat v8) (0:Int))) (.ret ((v8,()))) (.need (inK IntKind.i64 (v8+(1:Int))) (.cut (loopAt (bodyOf Try.prog 57) 2).1 (loopAt (bodyOf Try.prog 57) 2).2 (St.mk [(0,AV.val (Ty.slc false (Ty.int IntKind.i64)) v0),(1,AV.clo 45 AV.nil),(7,AV.val (Ty.int IntKind.i64) v7),(8,AV.val (Ty.int IntKind.i64) (v8+(1:Int)))] [])))))) (.ret (((-1:Int),()))):=by kernel_rfl
theorem cidxH_valid:cidxH.Valid Try.prog 57:=by
  refine Ctr.valid_of EidxH_ok rfl rfl Try.func57 (c:=bodyOf Try.prog 57) rfl rfl FidxH_ok rfl ?_
  rintro ⟨(l:List (Int)),⟨⟩,⟨⟩⟩ - ⟨⟨hl,-⟩,-⟩
  have hl:l.length≤9223372036854775807:=hl
  refine exec_sound (n:=1000) EidxH_ok FidxH_ok ?_
  refine holds_of_eq (EidxH_t l ) ?_
  refine Reach.loopI EidxH_ok FidxH_ok (fun i:Nat=>EidxH_s2 l  (l.length:Int) (i:Int)) (fun i=>i≤l.length∧idxOf (badH) l=idxGo (badH) (l.drop i) i)
    (fun i=>l.length - i) 1000 (fun _=>⟨uniq_of rfl,uniq_of rfl⟩) ?_ 0 ⟨by omega,rfl⟩
  rintro i ⟨k1,k2⟩ - ih
  refine holds_of_eq (EidxH_l2 ..) ?_
  simp only [holds_cond,Tree.holds,true_and,true_implies,decide_eq_true_eq,decide_eq_false_iff_not,Bool.not_eq_true',Bool.not_eq_false',Int.toNat_natCast,inK_i64,List.length_set,List.length_cons,List.length_nil]
  refine ⟨fun h=>?_,fun h=>?_⟩
  · rw [drop_getD (show i<l.length by omega) 0,idxGo] at k2
    refine ⟨by omega,fun _=>⟨fun c=>?_,fun c=>⟨by omega,fun _=>ih (i+1) ⟨by omega,?_⟩ (by omega)⟩⟩⟩
    · show (((i:Int),()):Int×Unit)=(idxOf (badH) l,())
      rw [k2,if_pos (show (badH) (l.getD i 0)=true from c)]
    · rw [k2,if_neg (show ¬ (badH) (l.getD i 0)=true from fun h9=>Bool.noConfusion (Eq.trans (Eq.symm h9) c))]
  · rw [List.drop_eq_nil_of_le (by omega)] at k2
    show (((-1:Int),()):Int×Unit)=(idxOf (badH) l,())
    rw [k2]; rfl
def ccontH:Ctr:={ ps:=[.v (.slc false I64),.clo 45 []],rs:=[.bool],pre:=fun x=>True,fn:=fun x=>(List.any (α:=Int) x.1 (badH),()),out:=fun _=>() }
noncomputable def EcontH:Env:={ P:=Try.prog,tt:=tt,ctr:=[(57,cidxH)],res:=[Go.ResultVar.tmp 4],rs:=[Ty.bool],ps:=[PK.v (Ty.slc false (Ty.int IntKind.i64)),PK.clo 45 []],cuts:=[],nt:=9 }
theorem EcontH_ok:EnvOk EcontH:=envOk tt_ok ⟨cidxH_valid,trivial⟩
theorem FcontH_ok:FnOk EcontH Try.f44:=⟨rfl,rfl⟩
theorem EcontH_t (x0:List Int):exec EcontH 1000 [.code (bodyOf Try.prog 44)] (initSt ccontH.ps ((x0,(),()))) =
  .need (True) (.ret ((decide ((0:Int)≤idxOf badH x0),()))):=by kernel_rfl
theorem ccontH_valid:ccontH.Valid Try.prog 44:=by
  refine Ctr.valid_of EcontH_ok rfl rfl Try.func44 (c:=bodyOf Try.prog 44) rfl rfl FcontH_ok rfl ?_
  rintro ⟨(l:List (Int)),⟨⟩,⟨⟩⟩ - -
  refine exec_sound (n:=1000) EcontH_ok FcontH_ok ?_
  refine holds_of_eq (EcontH_t l ) ?_
  refine ⟨trivial,fun _=>?_⟩
  show ((decide (0≤idxOf (badH) l),()):Bool×Unit)=(l.any (badH),())
  rw [idx_any]
def m0:MoveD:=(0,0,0,0,())
def mvE (n:Int) (m:MoveD):Int:=if inF m.1 1 3=false∨inF m.2.1 0 (n - 1)=false∨inF m.2.2.1 0 (n - 1)=false∨inF m.2.2.2.1 0 1000000=false then 1 else if m.2.1=m.2.2.1∧m.1≠3 then 4 else 0
def snE (v:List Int) (l:List MoveD):Int:=if inF v.length 1 6=false then 1 else if 200<l.length then 2 else if v.any badH=true then 1 else fstE (fun k=>mvE v.length (l.getD k m0)) l.length
def csnck:Ctr:={ ps:=[.v (.slc false I64),.v (.slc false Move)],rs:=[I64],pre:=fun _=>True,fn:=fun x=>(snE x.1 x.2.1,()),out:=fun _=>() }
noncomputable def Esnck:Env:={ P:=Try.prog,tt:=tt,ctr:=[(43,csnin),(44,ccontH)],res:=[Go.ResultVar.tmp 4],rs:=[Ty.int IntKind.i64],ps:=[PK.v (Ty.slc false (Ty.int IntKind.i64)),PK.v (Ty.slc false (Ty.pair (Ty.int IntKind.i64) (Ty.pair (Ty.int IntKind.i64) PairT)))],cuts:=[(9,[(5,none),(21,none),(22,none),(23,none)])],nt:=66 }
theorem Esnck_ok:EnvOk Esnck:=envOk tt_ok ⟨csnin_valid,ccontH_valid,trivial⟩
theorem Fsnck_ok:FnOk Esnck Try.f18:=⟨rfl,rfl⟩
theorem Esnck_t (x0:List Int) (x1:List (Int×Int×Int×Int×Unit)):exec Esnck 1000 [.code (bodyOf Try.prog 18)] (initSt csnck.ps ((x0,x1,()))) =
  .need (True) (cond (!inF (↑(List.length x0):Int) (1:Int) (6:Int)) (.ret (((1:Int),()))) (cond (decide ((200:Int)<(↑(List.length x1):Int))) (.ret (((2:Int),()))) (.need (True) (cond (List.any x0 badH) (.ret (((1:Int),()))) (.cut (loopAt (bodyOf Try.prog 18) 9).1 (loopAt (bodyOf Try.prog 18) 9).2 (St.mk [(5,AV.val (Ty.int IntKind.i64) (↑(List.length x0):Int)),(21,AV.val (Ty.slc false (Ty.pair (Ty.int IntKind.i64) (Ty.pair (Ty.int IntKind.i64) PairT))) x1),(22,AV.val (Ty.int IntKind.i64) (↑(List.length x1):Int)),(23,AV.val (Ty.int IntKind.i64) (0:Int))] [])))))):=by kernel_rfl
def Esnck_s9 (v5:Int) (v21:List (Int×Int×Int×Int×Unit)) (v22:Int) (v23:Int):St:=St.mk [(5,AV.val (Ty.int IntKind.i64) v5),(21,AV.val (Ty.slc false (Ty.pair (Ty.int IntKind.i64) (Ty.pair (Ty.int IntKind.i64) PairT))) v21),(22,AV.val (Ty.int IntKind.i64) v22),(23,AV.val (Ty.int IntKind.i64) v23)] []
theorem Esnck_l9 (v5:Int) (v21:List (Int×Int×Int×Int×Unit)) (v22:Int) (v23:Int):exec Esnck 1000 (.code (loopAt (bodyOf Try.prog 18) 9).1::.inLoop (loopAt (bodyOf Try.prog 18) 9).1::(loopAt (bodyOf Try.prog 18) 9).2) (Esnck_s9 v5 v21 v22 v23) =
  cond (decide (v23<v22)) (.need ((0:Int)≤v23∧v23<(↑(List.length v21):Int)) (.need (True) (cond (!inF (Prod.fst (List.getD v21 (Int.toNat v23) ((0:Int),(0:Int),(0:Int),(0:Int),()))) (1:Int) (3:Int)) (.ret (((1:Int),()))) (.need (inK IntKind.i64 (v5 - (1:Int))) (.need (True) (cond (!inF (Prod.fst (Prod.snd (List.getD v21 (Int.toNat v23) ((0:Int),(0:Int),(0:Int),(0:Int),())))) (0:Int) (v5 - (1:Int))) (.ret (((1:Int),()))) (.need (inK IntKind.i64 (v5 - (1:Int))) (.need (True) (cond (!inF (Prod.fst (Prod.snd (Prod.snd (List.getD v21 (Int.toNat v23) ((0:Int),(0:Int),(0:Int),(0:Int),()))))) (0:Int) (v5 - (1:Int))) (.ret (((1:Int),()))) (.need (True) (cond (!inF (Prod.fst (Prod.snd (Prod.snd (Prod.snd (List.getD v21 (Int.toNat v23) ((0:Int),(0:Int),(0:Int),(0:Int),())))))) (0:Int) (1000000:Int)) (.ret (((1:Int),()))) (cond (decide (Prod.fst (Prod.snd (List.getD v21 (Int.toNat v23) ((0:Int),(0:Int),(0:Int),(0:Int),())))=Prod.fst (Prod.snd (Prod.snd (List.getD v21 (Int.toNat v23) ((0:Int),(0:Int),(0:Int),(0:Int),())))))) (cond (decide (Prod.fst (List.getD v21 (Int.toNat v23) ((0:Int),(0:Int),(0:Int),(0:Int),()))≠(3:Int))) (.ret (((4:Int),()))) (.need (inK IntKind.i64 (v23+(1:Int))) (.cut (loopAt (bodyOf Try.prog 18) 9).1 (loopAt (bodyOf Try.prog 18) 9).2 (St.mk [(5,AV.val (Ty.int IntKind.i64) v5),(21,AV.val (Ty.slc false (Ty.pair (Ty.int IntKind.i64) (Ty.pair (Ty.int IntKind.i64) PairT))) v21),(22,AV.val (Ty.int IntKind.i64) v22),(23,AV.val (Ty.int IntKind.i64) (v23+(1:Int)))] [])))) (.need (inK IntKind.i64 (v23+(1:Int))) (.cut (loopAt (bodyOf Try.prog 18) 9).1 (loopAt (bodyOf Try.prog 18) 9).2 (St.mk [(5,AV.val (Ty.int IntKind.i64) v5),(21,AV.val (Ty.slc false (Ty.pair (Ty.int IntKind.i64) (Ty.pair (Ty.int IntKind.i64) PairT))) v21),(22,AV.val (Ty.int IntKind.i64) v22),(23,AV.val (Ty.int IntKind.i64) (v23+(1:Int)))] []))))))))))))))) (.ret (((0:Int),()))):=by kernel_rfl
theorem csnck_valid:csnck.Valid Try.prog 18:=by
  refine Ctr.valid_of Esnck_ok rfl rfl Try.func18 (c:=bodyOf Try.prog 18) rfl rfl Fsnck_ok rfl ?_
  rintro ⟨(v:List Int),(l:List MoveD),⟨⟩⟩ - -
  refine exec_sound (n:=1000) Esnck_ok Fsnck_ok ?_
  refine holds_of_eq (Esnck_t v l) ?_
  have hd:snE v l=if inF v.length 1 6=false then 1 else if 200<l.length then 2 else if v.any badH=true then 1 else fstE (fun k=>mvE v.length (l.getD k m0)) l.length:=rfl
  have key:∀ {y:Int},snE v l=y→((y,()):Int×Unit)=(snE v l,()):=by rintro y rfl; rfl
  simp only [holds_cond,Tree.holds,true_and,true_implies,decide_eq_true_eq,decide_eq_false_iff_not,Bool.not_eq_true',Bool.not_eq_false',Int.toNat_natCast,inK_i64,List.length_set,List.length_cons,List.length_nil]
  refine ⟨fun a=>key (by rw [hd,if_pos a]),fun a=>?_⟩
  rw [if_neg (by rw [a]; simp)] at hd
  refine ⟨fun b=>key (by rw [hd,if_pos (by omega)]),fun b=>?_⟩
  rw [if_neg (by omega)] at hd
  refine ⟨fun c=>key (by rw [hd,if_pos c]),fun c=>?_⟩
  rw [if_neg (by rw [c]; simp)] at hd
  have a2:=inF_iff.1 a
  refine Reach.loopI Esnck_ok Fsnck_ok (fun i:Nat=>Esnck_s9 (v.length:Int) l (l.length:Int) (i:Int)) (fun i=>i≤l.length∧fstE (fun k=>mvE v.length (l.getD k m0)) i=0) (fun i=>l.length - i) 1000 (fun _=>⟨uniq_of rfl,uniq_of rfl⟩) ?_ 0 ⟨Nat.zero_le _,rfl⟩
  rintro i ⟨(k1:i≤l.length),(k2:fstE (fun k=>mvE v.length (l.getD k m0)) i=0)⟩ - ih
  refine holds_of_eq (Esnck_l9 ..) ?_
  have e1:List.getD l i (0,0,0,0,())=l.getD i m0:=rfl
  have stop:∀ {e:Int},i<l.length→e≠0→mvE v.length (l.getD i m0)=e→((e,()):Int×Unit)=(snE v l,()):=fun h h1 h2=>key (by rw [hd,fstE_stop k2 (by rw [h2]; exact h1) h]; exact h2)
  have next:=fun (h:i<l.length) (h1:mvE v.length (l.getD i m0)=0)=>ih (i+1) ⟨h,fstE_step k2 h1⟩ (by omega)
  have hm:mvE v.length (l.getD i m0)=if inF (l.getD i m0).1 1 3=false∨inF (l.getD i m0).2.1 0 (v.length - 1)=false∨inF (l.getD i m0).2.2.1 0 (v.length - 1)=false∨inF (l.getD i m0).2.2.2.1 0 1000000=false then 1 else if (l.getD i m0).2.1=(l.getD i m0).2.2.1∧(l.getD i m0).1≠3 then 4 else 0:=rfl
  simp only [holds_cond,Tree.holds,true_and,true_implies,decide_eq_true_eq,decide_eq_false_iff_not,Bool.not_eq_true',Bool.not_eq_false',Int.toNat_natCast,inK_i64,List.length_set,List.length_cons,List.length_nil,e1]
  generalize l.getD i m0=m at *
  refine ⟨fun c=>⟨⟨by omega,by omega⟩,fun _=>?_⟩,fun c=>?_⟩
  · have hi:i<l.length:=by omega
    generalize mvE v.length m=y at *
    repeat' first|exact trivial|(refine next hi ?_; rw [hm]; simp_all; done)|(refine And.intro ?_ ?_)|(intro _)
    all_goals first
      | omega
      | (refine stop hi (by decide) ?_; rw [hm]; simp_all; done)
      | (refine next hi ?_; rw [hm]; simp_all; done)
  · obtain rfl:i=l.length:=by omega
    exact key (by rw [hd,k2])
end Go.Proofs.Ytgmbfnlhmnpciaa
