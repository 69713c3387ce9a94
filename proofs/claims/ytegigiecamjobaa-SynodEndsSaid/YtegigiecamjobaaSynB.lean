/- The checks of the package synod. -/
import Derived.Test.YtegigiecamjobaaSynA
namespace Go.Proofs.Ytegigiecamjobaa
open Go.Ex
set_option maxRecDepth 100000
def cidxR1:Ctr:={ ps:=[.v (.slc false Round),.clo 132 [Round]],rs:=[I64],pre:=fun x=>True,fn:=fun x=>(idxOf (fun r:RoundD=>isBal r x.2.1.1.1) x.1,()),out:=fun _=>() }
noncomputable def EidxR1:Env:={ P:=Try.prog,tt:=tt,ctr:=[(132,crnd1)],res:=[Go.ResultVar.tmp 4],rs:=[Ty.int IntKind.i64],ps:=[PK.v (Ty.slc false (Ty.pair (Ty.int IntKind.i64) (Ty.pair (Ty.int IntKind.i64) (Ty.pair (Ty.int IntKind.u8) (Ty.pair (Ty.int IntKind.u8) (Ty.pair Ty.bool (Ty.pair Ty.str Ty.unit))))))),PK.clo 132 [Ty.pair (Ty.int IntKind.i64) (Ty.pair (Ty.int IntKind.i64) (Ty.pair (Ty.int IntKind.u8) (Ty.pair (Ty.int IntKind.u8) (Ty.pair Ty.bool (Ty.pair Ty.str Ty.unit)))))]],cuts:=[(2,[(0,none),(1,none),(7,none),(8,none)])],nt:=19 }
theorem EidxR1_ok:EnvOk EidxR1:=envOk tt_ok ⟨crnd1_valid,trivial⟩
theorem FidxR1_ok:FnOk EidxR1 Try.f118:=⟨rfl,rfl⟩
theorem EidxR1_t (x0:List (Int×Int×Int×Int×Bool×List UInt8×Unit)) (x1c0_1:Int) (x1c0_2_1:Int) (x1c0_2_2_1:Int) (x1c0_2_2_2_1:Int) (x1c0_2_2_2_2_1:Bool) (x1c0_2_2_2_2_2_1:List UInt8):exec EidxR1 1000 [.code (bodyOf Try.prog 118)] (initSt cidxR1.ps ((x0,((x1c0_1,x1c0_2_1,x1c0_2_2_1,x1c0_2_2_2_1,x1c0_2_2_2_2_1,x1c0_2_2_2_2_2_1,()),()),()))) =
  .cut (loopAt (bodyOf Try.prog 118) 2).1 (loopAt (bodyOf Try.prog 118) 2).2 (St.mk [(0,AV.val (Ty.slc false (Ty.pair (Ty.int IntKind.i64) (Ty.pair (Ty.int IntKind.i64) (Ty.pair (Ty.int IntKind.u8) (Ty.pair (Ty.int IntKind.u8) (Ty.pair Ty.bool (Ty.pair Ty.str Ty.unit))))))) x0),(1,AV.clo 132 (AV.cons (AV.rptr (Ty.pair (Ty.int IntKind.i64) (Ty.pair (Ty.int IntKind.i64) (Ty.pair (Ty.int IntKind.u8) (Ty.pair (Ty.int IntKind.u8) (Ty.pair Ty.bool (Ty.pair Ty.str Ty.unit)))))) (x1c0_1,x1c0_2_1,x1c0_2_2_1,x1c0_2_2_2_1,x1c0_2_2_2_2_1,x1c0_2_2_2_2_2_1,())) AV.nil)),(7,AV.val (Ty.int IntKind.i64) (↑(List.length x0):Int)),(8,AV.val (Ty.int IntKind.i64) (0:Int))] []):=by kernel_rfl
def EidxR1_s2 (v0:List (Int×Int×Int×Int×Bool×List UInt8×Unit)) (v1a_1:Int) (v1a_2_1:Int) (v1a_2_2_1:Int) (v1a_2_2_2_1:Int) (v1a_2_2_2_2_1:Bool) (v1a_2_2_2_2_2_1:List UInt8) (v7:Int) (v8:Int):St:=St.mk [(0,AV.val (Ty.slc false (Ty.pair (Ty.int IntKind.i64) (Ty.pair (Ty.int IntKind.i64) (Ty.pair (Ty.int IntKind.u8) (Ty.pair (Ty.int IntKind.u8) (Ty.pair Ty.bool (Ty.pair Ty.str Ty.unit))))))) v0),(1,AV.clo 132 (AV.cons (AV.rptr (Ty.pair (Ty.int IntKind.i64) (Ty.pair (Ty.int IntKind.i64) (Ty.pair (Ty.int IntKind.u8) (Ty.pair (Ty.int IntKind.u8) (Ty.pair Ty.bool (Ty.pair Ty.str Ty.unit)))))) (v1a_1,v1a_2_1,v1a_2_2_1,v1a_2_2_2_1,v1a_2_2_2_2_1,v1a_2_2_2_2_2_1,())) AV.nil)),(7,AV.val (Ty.int IntKind.i64) v7),(8,AV.val (Ty.int IntKind.i64) v8)] []
theorem EidxR1_l2 (v0:List (Int×Int×Int×Int×Bool×List UInt8×Unit)) (v1a_1:Int) (v1a_2_1:Int) (v1a_2_2_1:Int) (v1a_2_2_2_1:Int) (v1a_2_2_2_2_1:Bool) (v1a_2_2_2_2_2_1:List UInt8) (v7:Int) (v8:Int):exec EidxR1 1000 (.code (loopAt (bodyOf Try.prog 118) 2).1::.inLoop (loopAt (bodyOf Try.prog 118) 2).1::(loopAt (bodyOf Try.prog 118) 2).2) (EidxR1_s2 v0 v1a_1 v1a_2_1 v1a_2_2_1 v1a_2_2_2_1 v1a_2_2_2_2_1 v1a_2_2_2_2_2_1 v7 v8) =
  cond (decide (v8<v7)) (.need ((0:Int)≤v8∧v8<(↑(List.length v0):Int)) (.need (True) (cond (isBal (List.getD v0 (Int.toNat v8) ((0:Int),(0:Int),(0:Int),(0:Int),false,[],())) v1a_1) (.ret ((v8,()))) (.need (inK IntKind.i64 (v8+(1:Int))) (.cut (loopAt (bodyOf Try.prog 118) 2).1 (loopAt (bodyOf Try.prog 118) 2).2 (St.mk [(0,AV.val (Ty.slc false (Ty.pair (Ty.int IntKind.i64) (Ty.pair (Ty.int IntKind.i64) (Ty.pair (Ty.int IntKind.u8) (Ty.pair (Ty.int IntKind.u8) (Ty.pair Ty.bool (Ty.pair Ty.str Ty.unit))))))) v0),(1,AV.clo 132 (AV.cons (AV.rptr (Ty.pair (Ty.int IntKind.i64) (Ty.pair (Ty.int IntKind.i64) (Ty.pair (Ty.int IntKind.u8) (Ty.pair (Ty.int IntKind.u8) (Ty.pair Ty.bool (Ty.pair Ty.str Ty.unit)))))) (v1a_1,v1a_2_1,v1a_2_2_1,v1a_2_2_2_1,v1a_2_2_2_2_1,v1a_2_2_2_2_2_1,())) AV.nil)),(7,AV.val (Ty.int IntKind.i64) v7),(8,AV.val (Ty.int IntKind.i64) (v8+(1:Int)))] [])))))) (.ret (((-1:Int),()))):=by kernel_rfl
theorem cidxR1_valid:cidxR1.Valid Try.prog 118:=by
  refine Ctr.valid_of EidxR1_ok rfl rfl Try.func118 (c:=bodyOf Try.prog 118) rfl rfl FidxR1_ok rfl ?_
  rintro ⟨(l:List (RoundD)),⟨⟨(b:Int),(be:Int),(pr:Int),(vo:Int),(ak:Bool),(tx:List UInt8),⟨⟩⟩,⟨⟩⟩,⟨⟩⟩ - ⟨⟨hl,-⟩,-⟩
  have hl:l.length≤9223372036854775807:=hl
  refine exec_sound (n:=1000) EidxR1_ok FidxR1_ok ?_
  refine holds_of_eq (EidxR1_t l b be pr vo ak tx) ?_
  refine Reach.loopI EidxR1_ok FidxR1_ok (fun i:Nat=>EidxR1_s2 l b be pr vo ak tx (l.length:Int) (i:Int)) (fun i=>i≤l.length∧idxOf (fun r:RoundD=>isBal r b) l=idxGo (fun r:RoundD=>isBal r b) (l.drop i) i)
    (fun i=>l.length - i) 1000 (fun _=>⟨uniq_of rfl,uniq_of rfl⟩) ?_ 0 ⟨by omega,rfl⟩
  rintro i ⟨k1,k2⟩ - ih
  refine holds_of_eq (EidxR1_l2 ..) ?_
  simp only [holds_cond,Tree.holds,true_and,true_implies,decide_eq_true_eq,decide_eq_false_iff_not,Bool.not_eq_true',Bool.not_eq_false',Int.toNat_natCast,inK_i64,List.length_set,List.length_cons,List.length_nil]
  refine ⟨fun h=>?_,fun h=>?_⟩
  · rw [drop_getD (show i<l.length by omega) r00,idxGo] at k2
    refine ⟨by omega,fun _=>⟨fun c=>?_,fun c=>⟨by omega,fun _=>ih (i+1) ⟨by omega,?_⟩ (by omega)⟩⟩⟩
    · show (((i:Int),()):Int×Unit)=(idxOf (fun r:RoundD=>isBal r b) l,())
      rw [k2,if_pos (show (fun r:RoundD=>isBal r b) (l.getD i r00)=true from c)]
    · rw [k2,if_neg (show ¬ (fun r:RoundD=>isBal r b) (l.getD i r00)=true from fun h9=>Bool.noConfusion (Eq.trans (Eq.symm h9) c))]
  · rw [List.drop_eq_nil_of_le (by omega)] at k2
    show (((-1:Int),()):Int×Unit)=(idxOf (fun r:RoundD=>isBal r b) l,())
    rw [k2]; rfl
def cconR1:Ctr:={ ps:=[.v (.slc false Round),.clo 132 [Round]],rs:=[.bool],pre:=fun x=>True,fn:=fun x=>(List.any (α:=RoundD) x.1 (fun r:RoundD=>isBal r x.2.1.1.1),()),out:=fun _=>() }
noncomputable def EconR1:Env:={ P:=Try.prog,tt:=tt,ctr:=[(118,cidxR1)],res:=[Go.ResultVar.tmp 4],rs:=[Ty.bool],ps:=[PK.v (Ty.slc false (Ty.pair (Ty.int IntKind.i64) (Ty.pair (Ty.int IntKind.i64) (Ty.pair (Ty.int IntKind.u8) (Ty.pair (Ty.int IntKind.u8) (Ty.pair Ty.bool (Ty.pair Ty.str Ty.unit))))))),PK.clo 132 [Ty.pair (Ty.int IntKind.i64) (Ty.pair (Ty.int IntKind.i64) (Ty.pair (Ty.int IntKind.u8) (Ty.pair (Ty.int IntKind.u8) (Ty.pair Ty.bool (Ty.pair Ty.str Ty.unit)))))]],cuts:=[],nt:=9 }
theorem EconR1_ok:EnvOk EconR1:=envOk tt_ok ⟨cidxR1_valid,trivial⟩
theorem FconR1_ok:FnOk EconR1 Try.f131:=⟨rfl,rfl⟩
theorem EconR1_t (x0:List (Int×Int×Int×Int×Bool×List UInt8×Unit)) (x1c0_1:Int) (x1c0_2_1:Int) (x1c0_2_2_1:Int) (x1c0_2_2_2_1:Int) (x1c0_2_2_2_2_1:Bool) (x1c0_2_2_2_2_2_1:List UInt8):exec EconR1 1000 [.code (bodyOf Try.prog 131)] (initSt cconR1.ps ((x0,((x1c0_1,x1c0_2_1,x1c0_2_2_1,x1c0_2_2_2_1,x1c0_2_2_2_2_1,x1c0_2_2_2_2_2_1,()),()),()))) =
  .need (True) (.ret ((decide ((0:Int)≤idxOf (fun r=>isBal r x1c0_1) x0),()))):=by kernel_rfl
theorem cconR1_valid:cconR1.Valid Try.prog 131:=by
  refine Ctr.valid_of EconR1_ok rfl rfl Try.func131 (c:=bodyOf Try.prog 131) rfl rfl FconR1_ok rfl ?_
  rintro ⟨(l:List (RoundD)),⟨⟨(b:Int),(be:Int),(pr:Int),(vo:Int),(ak:Bool),(tx:List UInt8),⟨⟩⟩,⟨⟩⟩,⟨⟩⟩ - -
  refine exec_sound (n:=1000) EconR1_ok FconR1_ok ?_
  refine holds_of_eq (EconR1_t l b be pr vo ak tx) ?_
  refine ⟨trivial,fun _=>?_⟩
  show ((decide (0≤idxOf (fun r:RoundD=>isBal r b) l),()):Bool×Unit)=(l.any (fun r:RoundD=>isBal r b),())
  rw [idx_any]
def firstE (f:Nat→Int):Nat→Int
  | 0=>0
  | k+1=>if firstE f k≠0 then firstE f k else f k
theorem firstE_stop {f:Nat→Int} {k:Nat} (h0:firstE f k=0) (h1:f k≠0):∀ {n:Nat},k<n→firstE f n=f k
  | 0,h=>by omega
  | n+1,h=>by
    by_cases e:k=n
    · subst e; simp [firstE,h0]
    · have:=firstE_stop h0 h1 (n:=n) (by omega)
      simp [firstE,this,h1]
theorem firstE_step {f:Nat→Int} {k:Nat} (h0:firstE f k=0) (h1:f k=0):firstE f (k+1)=0:=by simp [firstE,h0,h1]
theorem firstE_zero {f:Nat→Int}:∀ {n:Nat},firstE f n=0↔∀ k,k<n→f k=0
  | 0=>by simp [firstE]
  | n+1=>by
    constructor
    · intro h k hk
      have h2:firstE f n=0:=by
        by_cases e:firstE f n=0
        · exact e
        · rw [firstE,if_pos e] at h; exact absurd h e
      by_cases e:k=n
      · subst e; simpa [firstE,h2] using h
      · exact firstE_zero.1 h2 k (by omega)
    · intro h
      exact firstE_step (firstE_zero.2 (fun k hk=>h k (by omega))) (h n (by omega))
def at1 (x k:Int):Int:=bAnd .u8 (x / 2^min (Int.toNat k) (IntKind.bits .u8)) 1
def rndC (n:Int) (pre:List RoundD) (r:RoundD):Int :=
  if inF r.1 1 16777215=false∨inF r.2.1 0 (r.1 - 1)=false then 1
  else if pre.any (fun x=>isBal x r.1)=true then 4
  else if bOr .u8 r.2.2.1 r.2.2.2.1 / 2^min (Int.toNat n) (IntKind.bits .u8)≠0∨(r.2.2.2.1≠0∧r.2.2.2.2.1=false)∨(r.2.2.2.2.1=true∧maj r.2.2.1 n=false) then 4 else 0
def rndE (n:Int) (R:List RoundD) (i:Nat):Int:=rndC n (R.take i) (R.getD i r00)
def crnd:Ctr:={ ps:=[.v Synod,.v I64],rs:=[I64],pre:=fun x=>LE.le (α:=Int) 0 x.2.1∧LT.lt (α:=Int) x.2.1 (List.length (α:=RoundD) x.1.2.1),fn:=fun x=>(rndE (List.length (α:=VoterD) x.1.1) x.1.2.1 (Int.toNat x.2.1),()),out:=fun _=>() }
noncomputable def Ernd:Env:={ P:=Try.prog,tt:=tt,ctr:=[(67,cyin),(131,cconR1),(92,cmaj)],res:=[Go.ResultVar.tmp 4],rs:=[Ty.int IntKind.i64],ps:=[PK.v (Ty.pair (Ty.slc false (Ty.pair (Ty.int IntKind.i64) (Ty.pair (Ty.int IntKind.i64) (Ty.pair Ty.str Ty.unit)))) (Ty.pair (Ty.slc false (Ty.pair (Ty.int IntKind.i64) (Ty.pair (Ty.int IntKind.i64) (Ty.pair (Ty.int IntKind.u8) (Ty.pair (Ty.int IntKind.u8) (Ty.pair Ty.bool (Ty.pair Ty.str Ty.unit))))))) Ty.unit)),PK.v (Ty.int IntKind.i64)],cuts:=[],nt:=66 }
theorem Ernd_ok:EnvOk Ernd:=envOk tt_ok ⟨cyin_valid,cconR1_valid,cmaj_valid,trivial⟩
theorem Frnd_ok:FnOk Ernd Try.f95:=⟨rfl,rfl⟩
theorem Ernd_t (x0_1:List (Int×Int×List UInt8×Unit)) (x0_2_1:List (Int×Int×Int×Int×Bool×List UInt8×Unit)) (x1:Int):exec Ernd 1000 [.code (bodyOf Try.prog 95)] (initSt crnd.ps (((x0_1,x0_2_1,()),x1,()))) =
  .need ((0:Int)≤x1∧x1<(↑(List.length x0_2_1):Int)) (.need (True) (cond (!inF (Prod.fst (List.getD x0_2_1 (Int.toNat x1) ((0:Int),(0:Int),(0:Int),(0:Int),false,[],()))) (1:Int) (16777215:Int)) (.ret (((1:Int),()))) (.need (inK IntKind.i64 (Prod.fst (List.getD x0_2_1 (Int.toNat x1) ((0:Int),(0:Int),(0:Int),(0:Int),false,[],())) - (1:Int))) (.need (True) (cond (!inF (Prod.fst (Prod.snd (List.getD x0_2_1 (Int.toNat x1) ((0:Int),(0:Int),(0:Int),(0:Int),false,[],())))) (0:Int) (Prod.fst (List.getD x0_2_1 (Int.toNat x1) ((0:Int),(0:Int),(0:Int),(0:Int),false,[],())) - (1:Int))) (.ret (((1:Int),()))) (.need ((0:Int)≤(0:Int)∧(0:Int)≤x1∧x1≤(↑(List.length x0_2_1):Int)) (.need (True) (cond (List.any (cut2 (0:Int) x1 x0_2_1) fun r=>isBal r (Prod.fst (List.getD x0_2_1 (Int.toNat x1) ((0:Int),(0:Int),(0:Int),(0:Int),false,[],())))) (.ret (((4:Int),()))) (.need ((0:Int)≤(↑(List.length x0_1):Int)) (cond (decide (bOr IntKind.u8 (Prod.fst (Prod.snd (Prod.snd (List.getD x0_2_1 (Int.toNat x1) ((0:Int),(0:Int),(0:Int),(0:Int),false,[],()))))) (Prod.fst (Prod.snd (Prod.snd (Prod.snd (List.getD x0_2_1 (Int.toNat x1) ((0:Int),(0:Int),(0:Int),(0:Int),false,[],())))))) / (2:Int)^min (Int.toNat (↑(List.length x0_1):Int)) (IntKind.bits IntKind.u8)≠(0:Int))) (.ret (((4:Int),()))) (cond (decide (Prod.fst (Prod.snd (Prod.snd (Prod.snd (List.getD x0_2_1 (Int.toNat x1) ((0:Int),(0:Int),(0:Int),(0:Int),false,[],())))))≠(0:Int))) (cond (!Prod.fst (Prod.snd (Prod.snd (Prod.snd (Prod.snd (List.getD x0_2_1 (Int.toNat x1) ((0:Int),(0:Int),(0:Int),(0:Int),false,[],()))))))) (.ret (((4:Int),()))) (cond (Prod.fst (Prod.snd (Prod.snd (Prod.snd (Prod.snd (List.getD x0_2_1 (Int.toNat x1) ((0:Int),(0:Int),(0:Int),(0:Int),false,[],()))))))) (.need (True) (cond (!maj (Prod.fst (Prod.snd (Prod.snd (List.getD x0_2_1 (Int.toNat x1) ((0:Int),(0:Int),(0:Int),(0:Int),false,[],()))))) (↑(List.length x0_1):Int)) (.ret (((4:Int),()))) (.ret (((0:Int),()))))) (.ret (((0:Int),()))))) (cond (Prod.fst (Prod.snd (Prod.snd (Prod.snd (Prod.snd (List.getD x0_2_1 (Int.toNat x1) ((0:Int),(0:Int),(0:Int),(0:Int),false,[],()))))))) (.need (True) (cond (!maj (Prod.fst (Prod.snd (Prod.snd (List.getD x0_2_1 (Int.toNat x1) ((0:Int),(0:Int),(0:Int),(0:Int),false,[],()))))) (↑(List.length x0_1):Int)) (.ret (((4:Int),()))) (.ret (((0:Int),()))))) (.ret (((0:Int),()))))))))))))))):=by kernel_rfl
theorem crnd_valid:crnd.Valid Try.prog 95:=by
  refine Ctr.valid_of Ernd_ok rfl rfl Try.func95 (c:=bodyOf Try.prog 95) rfl rfl Frnd_ok rfl ?_
  rintro ⟨⟨(V:List VoterD),(R:List RoundD),⟨⟩⟩,(i:Int),⟨⟩⟩ ⟨(h0:0≤i),(h1:i<(R.length:Int))⟩ -
  refine exec_sound (n:=1000) Ernd_ok Frnd_ok ?_
  refine holds_of_eq (Ernd_t V R i) ?_
  have key:∀ {y:Int},rndE (V.length:Int) R i.toNat=y→((y,()):Int×Unit)=(rndE (V.length:Int) R i.toNat,()):=by rintro y rfl; rfl
  have hd:rndE (V.length:Int) R i.toNat=rndC (V.length:Int) (R.take i.toNat) (List.getD R (Int.toNat i) (0,0,0,0,false,[],())):=rfl
  have hc:cut2 0 i R=R.take i.toNat:=by rw [cut2]; simp
  rw [hc]
  generalize List.getD R (Int.toNat i) (0,0,0,0,false,[],())=r at *
  generalize List.take i.toNat R=pre at *
  rw [rndC] at hd
  simp only [holds_cond,Tree.holds,true_and,true_implies,decide_eq_true_eq,decide_eq_false_iff_not,Bool.not_eq_true',Bool.not_eq_false',Int.toNat_natCast,inK_i64,List.length_set,List.length_cons,List.length_nil]
  refine ⟨⟨h0,h1⟩,fun _=>⟨fun a=>key (by rw [hd,if_pos (.inl a)]),fun a=>?_⟩⟩
  have a':=inF_iff.1 a
  refine ⟨by omega,fun _=>⟨fun b=>key (by rw [hd,if_pos (.inr b)]),fun b=>?_⟩⟩
  rw [if_neg (by rw [a,b]; simp)] at hd
  refine ⟨⟨by omega,by omega,by omega⟩,fun _=>⟨fun c=>key (by rw [hd,if_pos c]),fun c=>?_⟩⟩
  rw [if_neg (by rw [c]; simp)] at hd
  refine ⟨by omega,fun _=>⟨fun d=>key (by rw [hd,if_pos (.inl d)]),fun d=>⟨fun e=>⟨fun f=>key (by rw [hd,if_pos (.inr (.inl ⟨e,f⟩))]),fun f=>⟨fun g=>⟨fun h=>key (by rw [hd,if_pos (.inr (.inr ⟨g,h⟩))]),fun h=>key (by rw [hd,if_neg]; simp_all)⟩,fun g=>absurd f (by rw [g]; simp)⟩⟩,fun e=>⟨fun g=>⟨fun h=>key (by rw [hd,if_pos (.inr (.inr ⟨g,h⟩))]),fun h=>key (by rw [hd,if_neg]; simp_all)⟩,fun g=>key (by rw [hd,if_neg]; simp_all)⟩⟩⟩⟩
def lateR (k:Int) (v:VoterD) (r:RoundD):Bool:=decide (at1 (bOr .u8 r.2.2.1 r.2.2.2.1) k=1) && decide (v.1<r.1)
def lastR (k:Int) (a r:RoundD):RoundD:=if at1 r.2.2.2.1 k=1∧a.1<r.1 then r else a
def vtrE (R:List RoundD) (v:VoterD) (k:Int):Int :=
  if v.1<0∨v.2.1<0∨v.1<v.2.1 then 1
  else if (v.2.1=0∧v.2.2.1≠[])∨(0<v.1∧findF R v.1<0) then 4
  else if R.any (lateR k v)=true then 4
  else if v.2.1≠(R.foldl (lastR k) r00).1∨(0<(R.foldl (lastR k) r00).1∧v.2.2.1≠(R.foldl (lastR k) r00).2.2.2.2.2.1) then 4 else 0
def cvtr:Ctr:={ ps:=[.v Synod,.v I64],rs:=[I64],pre:=fun x=>LE.le (α:=Int) 0 x.2.1∧LT.lt (α:=Int) x.2.1 (List.length (α:=VoterD) x.1.1),fn:=fun x=>(vtrE x.1.2.1 (List.getD (α:=VoterD) x.1.1 (Int.toNat x.2.1) v00) x.2.1,()),out:=fun _=>() }
noncomputable def Evtr:Env:={ P:=Try.prog,tt:=tt,ctr:=[(66,cfind)],res:=[Go.ResultVar.tmp 4],rs:=[Ty.int IntKind.i64],ps:=[PK.v (Ty.pair (Ty.slc false (Ty.pair (Ty.int IntKind.i64) (Ty.pair (Ty.int IntKind.i64) (Ty.pair Ty.str Ty.unit)))) (Ty.pair (Ty.slc false (Ty.pair (Ty.int IntKind.i64) (Ty.pair (Ty.int IntKind.i64) (Ty.pair (Ty.int IntKind.u8) (Ty.pair (Ty.int IntKind.u8) (Ty.pair Ty.bool (Ty.pair Ty.str Ty.unit))))))) Ty.unit)),PK.v (Ty.int IntKind.i64)],cuts:=[(8,[(1,none),(5,none),(6,none),(51,none),(52,none),(53,none)])],nt:=105 }
theorem Evtr_ok:EnvOk Evtr:=envOk tt_ok ⟨cfind_valid,trivial⟩
theorem Fvtr_ok:FnOk Evtr Try.f96:=⟨rfl,rfl⟩
theorem Evtr_t (x0_1:List (Int×Int×List UInt8×Unit)) (x0_2_1:List (Int×Int×Int×Int×Bool×List UInt8×Unit)) (x1:Int):exec Evtr 1000 [.code (bodyOf Try.prog 96)] (initSt cvtr.ps (((x0_1,x0_2_1,()),x1,()))) =
  .need ((0:Int)≤x1∧x1<(↑(List.length x0_1):Int)) (cond (decide (Prod.fst (List.getD x0_1 (Int.toNat x1) ((0:Int),(0:Int),[],()))<(0:Int))) (.ret (((1:Int),()))) (cond (decide (Prod.fst (Prod.snd (List.getD x0_1 (Int.toNat x1) ((0:Int),(0:Int),[],())))<(0:Int))) (.ret (((1:Int),()))) (cond (decide (Prod.fst (List.getD x0_1 (Int.toNat x1) ((0:Int),(0:Int),[],()))<Prod.fst (Prod.snd (List.getD x0_1 (Int.toNat x1) ((0:Int),(0:Int),[],()))))) (.ret (((1:Int),()))) (cond (decide (Prod.fst (Prod.snd (List.getD x0_1 (Int.toNat x1) ((0:Int),(0:Int),[],())))=(0:Int))) (cond (decide (Prod.fst (Prod.snd (Prod.snd (List.getD x0_1 (Int.toNat x1) ((0:Int),(0:Int),[],()))))≠Array.toList (ByteArray.data (ByteArray.mk #[])))) (.ret (((4:Int),()))) (cond (decide ((0:Int)<Prod.fst (List.getD x0_1 (Int.toNat x1) ((0:Int),(0:Int),[],())))) (.need (True) (cond (decide (findF x0_2_1 (Prod.fst (List.getD x0_1 (Int.toNat x1) ((0:Int),(0:Int),[],())))<(0:Int))) (.ret (((4:Int),()))) (.cut (loopAt (bodyOf Try.prog 96) 8).1 (loopAt (bodyOf Try.prog 96) 8).2 (St.mk [(1,AV.val (Ty.int IntKind.i64) x1),(5,AV.ptr 5 []),(6,AV.ptr 6 []),(51,AV.val (Ty.slc false (Ty.pair (Ty.int IntKind.i64) (Ty.pair (Ty.int IntKind.i64) (Ty.pair (Ty.int IntKind.u8) (Ty.pair (Ty.int IntKind.u8) (Ty.pair Ty.bool (Ty.pair Ty.str Ty.unit))))))) x0_2_1),(52,AV.val (Ty.int IntKind.i64) (↑(List.length x0_2_1):Int)),(53,AV.val (Ty.int IntKind.i64) (0:Int))] [(5,Ent.var (Ty.pair (Ty.int IntKind.i64) (Ty.pair (Ty.int IntKind.i64) (Ty.pair Ty.str Ty.unit))) (List.getD x0_1 (Int.toNat x1) ((0:Int),(0:Int),[],()))),(6,Ent.var (Ty.pair (Ty.int IntKind.i64) (Ty.pair (Ty.int IntKind.i64) (Ty.pair (Ty.int IntKind.u8) (Ty.pair (Ty.int IntKind.u8) (Ty.pair Ty.bool (Ty.pair Ty.str Ty.unit)))))) ((0:Int),(0:Int),(0:Int),(0:Int),false,[],()))])))) (.cut (loopAt (bodyOf Try.prog 96) 8).1 (loopAt (bodyOf Try.prog 96) 8).2 (St.mk [(1,AV.val (Ty.int IntKind.i64) x1),(5,AV.ptr 5 []),(6,AV.ptr 6 []),(51,AV.val (Ty.slc false (Ty.pair (Ty.int IntKind.i64) (Ty.pair (Ty.int IntKind.i64) (Ty.pair (Ty.int IntKind.u8) (Ty.pair (Ty.int IntKind.u8) (Ty.pair Ty.bool (Ty.pair Ty.str Ty.unit))))))) x0_2_1),(52,AV.val (Ty.int IntKind.i64) (↑(List.length x0_2_1):Int)),(53,AV.val (Ty.int IntKind.i64) (0:Int))] [(5,Ent.var (Ty.pair (Ty.int IntKind.i64) (Ty.pair (Ty.int IntKind.i64) (Ty.pair Ty.str Ty.unit))) (List.getD x0_1 (Int.toNat x1) ((0:Int),(0:Int),[],()))),(6,Ent.var (Ty.pair (Ty.int IntKind.i64) (Ty.pair (Ty.int IntKind.i64) (Ty.pair (Ty.int IntKind.u8) (Ty.pair (Ty.int IntKind.u8) (Ty.pair Ty.bool (Ty.pair Ty.str Ty.unit)))))) ((0:Int),(0:Int),(0:Int),(0:Int),false,[],()))])))) (cond (decide ((0:Int)<Prod.fst (List.getD x0_1 (Int.toNat x1) ((0:Int),(0:Int),[],())))) (.need (True) (cond (decide (findF x0_2_1 (Prod.fst (List.getD x0_1 (Int.toNat x1) ((0:Int),(0:Int),[],())))<(0:Int))) (.ret (((4:Int),()))) (.cut (loopAt (bodyOf Try.prog 96) 8).1 (loopAt (bodyOf Try.prog 96) 8).2 (St.mk [(1,AV.val (Ty.int IntKind.i64) x1),(5,AV.ptr 5 []),(6,AV.ptr 6 []),(51,AV.val (Ty.slc false (Ty.pair (Ty.int IntKind.i64) (Ty.pair (Ty.int IntKind.i64) (Ty.pair (Ty.int IntKind.u8) (Ty.pair (Ty.int IntKind.u8) (Ty.pair Ty.bool (Ty.pair Ty.str Ty.unit))))))) x0_2_1),(52,AV.val (Ty.int IntKind.i64) (↑(List.length x0_2_1):Int)),(53,AV.val (Ty.int IntKind.i64) (0:Int))] [(5,Ent.var (Ty.pair (Ty.int IntKind.i64) (Ty.pair (Ty.int IntKind.i64) (Ty.pair Ty.str Ty.unit))) (List.getD x0_1 (Int.toNat x1) ((0:Int),(0:Int),[],()))),(6,Ent.var (Ty.pair (Ty.int IntKind.i64) (Ty.pair (Ty.int IntKind.i64) (Ty.pair (Ty.int IntKind.u8) (Ty.pair (Ty.int IntKind.u8) (Ty.pair Ty.bool (Ty.pair Ty.str Ty.unit)))))) ((0:Int),(0:Int),(0:Int),(0:Int),false,[],()))])))) (.cut (loopAt (bodyOf Try.prog 96) 8).1 (loopAt (bodyOf Try.prog 96) 8).2 (St.mk [(1,AV.val (Ty.int IntKind.i64) x1),(5,AV.ptr 5 []),(6,AV.ptr 6 []),(51,AV.val (Ty.slc false (Ty.pair (Ty.int IntKind.i64) (Ty.pair (Ty.int IntKind.i64) (Ty.pair (Ty.int IntKind.u8) (Ty.pair (Ty.int IntKind.u8) (Ty.pair Ty.bool (Ty.pair Ty.str Ty.unit))))))) x0_2_1),(52,AV.val (Ty.int IntKind.i64) (↑(List.length x0_2_1):Int)),(53,AV.val (Ty.int IntKind.i64) (0:Int))] [(5,Ent.var (Ty.pair (Ty.int IntKind.i64) (Ty.pair (Ty.int IntKind.i64) (Ty.pair Ty.str Ty.unit))) (List.getD x0_1 (Int.toNat x1) ((0:Int),(0:Int),[],()))),(6,Ent.var (Ty.pair (Ty.int IntKind.i64) (Ty.pair (Ty.int IntKind.i64) (Ty.pair (Ty.int IntKind.u8) (Ty.pair (Ty.int IntKind.u8) (Ty.pair Ty.bool (Ty.pair Ty.str Ty.unit)))))) ((0:Int),(0:Int),(0:Int),(0:Int),false,[],()))]))))))):=by kernel_rfl
def Evtr_s8 (v1:Int) (v51:List (Int×Int×Int×Int×Bool×List UInt8×Unit)) (v52:Int) (v53:Int) (o5_1:Int) (o5_2_1:Int) (o5_2_2_1:List UInt8) (o6_1:Int) (o6_2_1:Int) (o6_2_2_1:Int) (o6_2_2_2_1:Int) (o6_2_2_2_2_1:Bool) (o6_2_2_2_2_2_1:List UInt8):St:=St.mk [(1,AV.val (Ty.int IntKind.i64) v1),(5,AV.ptr 5 []),(6,AV.ptr 6 []),(51,AV.val (Ty.slc false (Ty.pair (Ty.int IntKind.i64) (Ty.pair (Ty.int IntKind.i64) (Ty.pair (Ty.int IntKind.u8) (Ty.pair (Ty.int IntKind.u8) (Ty.pair Ty.bool (Ty.pair Ty.str Ty.unit))))))) v51),(52,AV.val (Ty.int IntKind.i64) v52),(53,AV.val (Ty.int IntKind.i64) v53)] [(5,Ent.var (Ty.pair (Ty.int IntKind.i64) (Ty.pair (Ty.int IntKind.i64) (Ty.pair Ty.str Ty.unit))) (o5_1,o5_2_1,o5_2_2_1,())),(6,Ent.var (Ty.pair (Ty.int IntKind.i64) (Ty.pair (Ty.int IntKind.i64) (Ty.pair (Ty.int IntKind.u8) (Ty.pair (Ty.int IntKind.u8) (Ty.pair Ty.bool (Ty.pair Ty.str Ty.unit)))))) (o6_1,o6_2_1,o6_2_2_1,o6_2_2_2_1,o6_2_2_2_2_1,o6_2_2_2_2_2_1,()))]
theorem Evtr_l8 (v1:Int) (v51:List (Int×Int×Int×Int×Bool×List UInt8×Unit)) (v52:Int) (v53:Int) (o5_1:Int) (o5_2_1:Int) (o5_2_2_1:List UInt8) (o6_1:Int) (o6_2_1:Int) (o6_2_2_1:Int) (o6_2_2_2_1:Int) (o6_2_2_2_2_1:Bool) (o6_2_2_2_2_2_1:List UInt8):exec Evtr 1000 (.code (loopAt (bodyOf Try.prog 96) 8).1::.inLoop (loopAt (bodyOf Try.prog 96) 8).1::(loopAt (bodyOf Try.prog 96) 8).2) (Evtr_s8 v1 v51 v52 v53 o5_1 o5_2_1 o5_2_2_1 o6_1 o6_2_1 o6_2_2_1 o6_2_2_2_1 o6_2_2_2_2_1 o6_2_2_2_2_2_1) =
  cond (decide (v53<v52)) (.need ((0:Int)≤v53∧v53<(↑(List.length v51):Int)) (.need ((0:Int)≤v1) (cond (decide (bAnd IntKind.u8 (bOr IntKind.u8 (Prod.fst (Prod.snd (Prod.snd (List.getD v51 (Int.toNat v53) ((0:Int),(0:Int),(0:Int),(0:Int),false,[],()))))) (Prod.fst (Prod.snd (Prod.snd (Prod.snd (List.getD v51 (Int.toNat v53) ((0:Int),(0:Int),(0:Int),(0:Int),false,[],())))))) / (2:Int)^min (Int.toNat v1) (IntKind.bits IntKind.u8)) (1:Int)=(1:Int))) (cond (decide (o5_1<Prod.fst (List.getD v51 (Int.toNat v53) ((0:Int),(0:Int),(0:Int),(0:Int),false,[],())))) (.ret (((4:Int),()))) (.need ((0:Int)≤v1) (cond (decide (bAnd IntKind.u8 (Prod.fst (Prod.snd (Prod.snd (Prod.snd (List.getD v51 (Int.toNat v53) ((0:Int),(0:Int),(0:Int),(0:Int),false,[],()))))) / (2:Int)^min (Int.toNat v1) (IntKind.bits IntKind.u8)) (1:Int)=(1:Int))) (cond (decide (o6_1<Prod.fst (List.getD v51 (Int.toNat v53) ((0:Int),(0:Int),(0:Int),(0:Int),false,[],())))) (.need (inK IntKind.i64 (v53+(1:Int))) (.cut (loopAt (bodyOf Try.prog 96) 8).1 (loopAt (bodyOf Try.prog 96) 8).2 (St.mk [(1,AV.val (Ty.int IntKind.i64) v1),(5,AV.ptr 5 []),(6,AV.ptr 6 []),(51,AV.val (Ty.slc false (Ty.pair (Ty.int IntKind.i64) (Ty.pair (Ty.int IntKind.i64) (Ty.pair (Ty.int IntKind.u8) (Ty.pair (Ty.int IntKind.u8) (Ty.pair Ty.bool (Ty.pair Ty.str Ty.unit))))))) v51),(52,AV.val (Ty.int IntKind.i64) v52),(53,AV.val (Ty.int IntKind.i64) (v53+(1:Int)))] [(5,Ent.var (Ty.pair (Ty.int IntKind.i64) (Ty.pair (Ty.int IntKind.i64) (Ty.pair Ty.str Ty.unit))) (o5_1,o5_2_1,o5_2_2_1,())),(6,Ent.var (Ty.pair (Ty.int IntKind.i64) (Ty.pair (Ty.int IntKind.i64) (Ty.pair (Ty.int IntKind.u8) (Ty.pair (Ty.int IntKind.u8) (Ty.pair Ty.bool (Ty.pair Ty.str Ty.unit)))))) (List.getD v51 (Int.toNat v53) ((0:Int),(0:Int),(0:Int),(0:Int),false,[],())))]))) (.need (inK IntKind.i64 (v53+(1:Int))) (.cut (loopAt (bodyOf Try.prog 96) 8).1 (loopAt (bodyOf Try.prog 96) 8).2 (St.mk [(1,AV.val (Ty.int IntKind.i64) v1),(5,AV.ptr 5 []),(6,AV.ptr 6 []),(51,AV.val (Ty.slc false (Ty.pair (Ty.int IntKind.i64) (Ty.pair (Ty.int IntKind.i64) (Ty.pair (Ty.int IntKind.u8) (Ty.pair (Ty.int IntKind.u8) (Ty.pair Ty.bool (Ty.pair Ty.str Ty.unit))))))) v51),(52,AV.val (Ty.int IntKind.i64) v52),(53,AV.val (Ty.int IntKind.i64) (v53+(1:Int)))] [(5,Ent.var (Ty.pair (Ty.int IntKind.i64) (Ty.pair (Ty.int IntKind.i64) (Ty.pair Ty.str Ty.unit))) (o5_1,o5_2_1,o5_2_2_1,())),(6,Ent.var (Ty.pair (Ty.int IntKind.i64) (Ty.pair (Ty.int IntKind.i64) (Ty.pair (Ty.int IntKind.u8) (Ty.pair (Ty.int IntKind.u8) (Ty.pair Ty.bool (Ty.pair Ty.str Ty.unit)))))) (o6_1,o6_2_1,o6_2_2_1,o6_2_2_2_1,o6_2_2_2_2_1,o6_2_2_2_2_2_1,()))])))) (.need (inK IntKind.i64 (v53+(1:Int))) (.cut (loopAt (bodyOf Try.prog 96) 8).1 (loopAt (bodyOf Try.prog 96) 8).2 (St.mk [(1,AV.val (Ty.int IntKind.i64) v1),(5,AV.ptr 5 []),(6,AV.ptr 6 []),(51,AV.val (Ty.slc false (Ty.pair (Ty.int IntKind.i64) (Ty.pair (Ty.int IntKind.i64) (Ty.pair (Ty.int IntKind.u8) (Ty.pair (Ty.int IntKind.u8) (Ty.pair Ty.bool (Ty.pair Ty.str Ty.unit))))))) v51),(52,AV.val (Ty.int IntKind.i64) v52),(53,AV.val (Ty.int IntKind.i64) (v53+(1:Int)))] [(5,Ent.var (Ty.pair (Ty.int IntKind.i64) (Ty.pair (Ty.int IntKind.i64) (Ty.pair Ty.str Ty.unit))) (o5_1,o5_2_1,o5_2_2_1,())),(6,Ent.var (Ty.pair (Ty.int IntKind.i64) (Ty.pair (Ty.int IntKind.i64) (Ty.pair (Ty.int IntKind.u8) (Ty.pair (Ty.int IntKind.u8) (Ty.pair Ty.bool (Ty.pair Ty.str Ty.unit)))))) (o6_1,o6_2_1,o6_2_2_1,o6_2_2_2_1,o6_2_2_2_2_1,o6_2_2_2_2_2_1,()))])))))) (.need ((0:Int)≤v1) (cond (decide (bAnd IntKind.u8 (Prod.fst (Prod.snd (Prod.snd (Prod.snd (List.getD v51 (Int.toNat v53) ((0:Int),(0:Int),(0:Int),(0:Int),false,[],()))))) / (2:Int)^min (Int.toNat v1) (IntKind.bits IntKind.u8)) (1:Int)=(1:Int))) (cond (decide (o6_1<Prod.fst (List.getD v51 (Int.toNat v53) ((0:Int),(0:Int),(0:Int),(0:Int),false,[],())))) (.need (inK IntKind.i64 (v53+(1:Int))) (.cut (loopAt (bodyOf Try.prog 96) 8).1 (loopAt (bodyOf Try.prog 96) 8).2 (St.mk [(1,AV.val (Ty.int IntKind.i64) v1),(5,AV.ptr 5 []),(6,AV.ptr 6 []),(51,AV.val (Ty.slc false (Ty.pair (Ty.int IntKind.i64) (Ty.pair (Ty.int IntKind.i64) (Ty.pair (Ty.int IntKind.u8) (Ty.pair (Ty.int IntKind.u8) (Ty.pair Ty.bool (Ty.pair Ty.str Ty.unit))))))) v51),(52,AV.val (Ty.int IntKind.i64) v52),(53,AV.val (Ty.int IntKind.i64) (v53+(1:Int)))] [(5,Ent.var (Ty.pair (Ty.int IntKind.i64) (Ty.pair (Ty.int IntKind.i64) (Ty.pair Ty.str Ty.unit))) (o5_1,o5_2_1,o5_2_2_1,())),(6,Ent.var (Ty.pair (Ty.int IntKind.i64) (Ty.pair (Ty.int IntKind.i64) (Ty.pair (Ty.int IntKind.u8) (Ty.pair (Ty.int IntKind.u8) (Ty.pair Ty.bool (Ty.pair Ty.str Ty.unit)))))) (List.getD v51 (Int.toNat v53) ((0:Int),(0:Int),(0:Int),(0:Int),false,[],())))]))) (.need (inK IntKind.i64 (v53+(1:Int))) (.cut (loopAt (bodyOf Try.prog 96) 8).1 (loopAt (bodyOf Try.prog 96) 8).2 (St.mk [(1,AV.val (Ty.int IntKind.i64) v1),(5,AV.ptr 5 []),(6,AV.ptr 6 []),(51,AV.val (Ty.slc false (Ty.pair (Ty.int IntKind.i64) (Ty.pair (Ty.int IntKind.i64) (Ty.pair (Ty.int IntKind.u8) (Ty.pair (Ty.int IntKind.u8) (Ty.pair Ty.bool (Ty.pair Ty.str Ty.unit))))))) v51),(52,AV.val (Ty.int IntKind.i64) v52),(53,AV.val (Ty.int IntKind.i64) (v53+(1:Int)))] [(5,Ent.var (Ty.pair (Ty.int IntKind.i64) (Ty.pair (Ty.int IntKind.i64) (Ty.pair Ty.str Ty.unit))) (o5_1,o5_2_1,o5_2_2_1,())),(6,Ent.var (Ty.pair (Ty.int IntKind.i64) (Ty.pair (Ty.int IntKind.i64) (Ty.pair (Ty.int IntKind.u8) (Ty.pair (Ty.int IntKind.u8) (Ty.pair Ty.bool (Ty.pair Ty.str Ty.unit)))))) (o6_1,o6_2_1,o6_2_2_1,o6_2_2_2_1,o6_2_2_2_2_1,o6_2_2_2_2_2_1,()))])))) (.need (inK IntKind.i64 (v53+(1:Int))) (.cut (loopAt (bodyOf Try.prog 96) 8).1 (loopAt (bodyOf Try.prog 96) 8).2 (St.mk [(1,AV.val (Ty.int IntKind.i64) v1),(5,AV.ptr 5 []),(6,AV.ptr 6 []),(51,AV.val (Ty.slc false (Ty.pair (Ty.int IntKind.i64) (Ty.pair (Ty.int IntKind.i64) (Ty.pair (Ty.int IntKind.u8) (Ty.pair (Ty.int IntKind.u8) (Ty.pair Ty.bool (Ty.pair Ty.str Ty.unit))))))) v51),(52,AV.val (Ty.int IntKind.i64) v52),(53,AV.val (Ty.int IntKind.i64) (v53+(1:Int)))] [(5,Ent.var (Ty.pair (Ty.int IntKind.i64) (Ty.pair (Ty.int IntKind.i64) (Ty.pair Ty.str Ty.unit))) (o5_1,o5_2_1,o5_2_2_1,())),(6,Ent.var (Ty.pair (Ty.int IntKind.i64) (Ty.pair (Ty.int IntKind.i64) (Ty.pair (Ty.int IntKind.u8) (Ty.pair (Ty.int IntKind.u8) (Ty.pair Ty.bool (Ty.pair Ty.str Ty.unit)))))) (o6_1,o6_2_1,o6_2_2_1,o6_2_2_2_1,o6_2_2_2_2_1,o6_2_2_2_2_2_1,()))])))))))) (cond (decide (o5_2_1≠o6_1)) (.ret (((4:Int),()))) (cond (decide ((0:Int)<o6_1)) (cond (decide (o5_2_2_1≠o6_2_2_2_2_2_1)) (.ret (((4:Int),()))) (.ret (((0:Int),())))) (.ret (((0:Int),()))))):=by kernel_rfl
theorem cvtr_valid:cvtr.Valid Try.prog 96:=by
  refine Ctr.valid_of Evtr_ok rfl rfl Try.func96 (c:=bodyOf Try.prog 96) rfl rfl Fvtr_ok rfl ?_
  rintro ⟨⟨(V:List VoterD),(R:List RoundD),⟨⟩⟩,(k:Int),⟨⟩⟩ ⟨(h0:0≤k),(h1:k<(V.length:Int))⟩ ⟨⟨-,⟨hR,-⟩,-⟩,-⟩
  have hR:R.length≤9223372036854775807:=hR
  refine exec_sound (n:=1000) Evtr_ok Fvtr_ok ?_
  refine holds_of_eq (Evtr_t V R k) ?_
  have key:∀ {y:Int},vtrE R (V.getD k.toNat v00) k=y→((y,()):Int×Unit)=(vtrE R (V.getD k.toNat v00) k,()):=by rintro y rfl; rfl
  have hv:V.getD k.toNat v00=List.getD V (Int.toNat k) (0,0,[],()):=rfl
  show _∧_
  rw [hv] at key
  generalize hvv:List.getD V (Int.toNat k) (0,0,[],())=v at *
  have hd:vtrE R v k=if v.1<0∨v.2.1<0∨v.1<v.2.1 then 1
    else if (v.2.1=0∧v.2.2.1≠[])∨(0<v.1∧findF R v.1<0) then 4
    else if R.any (lateR k v)=true then 4
    else if v.2.1≠(R.foldl (lastR k) r00).1∨(0<(R.foldl (lastR k) r00).1∧v.2.2.1≠(R.foldl (lastR k) r00).2.2.2.2.2.1) then 4 else 0:=rfl
  have loop:(v.1<0∨v.2.1<0∨v.1<v.2.1→False)→((v.2.1=0∧v.2.2.1≠[])∨(0<v.1∧findF R v.1<0)→False)→Go.Ex.Reach Evtr Try.f96 (vtrE R v k,()) () (.code (loopAt (bodyOf Try.prog 96) 8).1::.inLoop (loopAt (bodyOf Try.prog 96) 8).1::(loopAt (bodyOf Try.prog 96) 8).2) (Evtr_s8 k R (R.length:Int) ((0:Nat):Int) v.1 v.2.1 v.2.2.1 0 0 0 0 false []):=by
    intro n1 n2
    rw [if_neg n1,if_neg n2] at hd
    refine Reach.loopI Evtr_ok Fvtr_ok (fun s:Nat×RoundD=>Evtr_s8 k R (R.length:Int) (s.1:Int) v.1 v.2.1 v.2.2.1 s.2.1 s.2.2.1 s.2.2.2.1 s.2.2.2.2.1 s.2.2.2.2.2.1 s.2.2.2.2.2.2.1) (fun s=>s.1≤R.length∧(R.take s.1).any (lateR k v)=false∧s.2=(R.take s.1).foldl (lastR k) r00) (fun s=>R.length - s.1) 1000 (fun _=>⟨uniq_of rfl,uniq_of rfl⟩) ?_ (0,r00) ⟨Nat.zero_le _,rfl,rfl⟩
    rintro ⟨i,a⟩ ⟨(k1:i≤R.length),(k2:(R.take i).any (lateR k v)=false),(k3:a=(R.take i).foldl (lastR k) r00)⟩ - ih
    refine holds_of_eq (Evtr_l8 ..) ?_
    simp only [holds_cond,Tree.holds,true_and,true_implies,decide_eq_true_eq,decide_eq_false_iff_not,Bool.not_eq_true',Bool.not_eq_false',Int.toNat_natCast,inK_i64,List.length_set,List.length_cons,List.length_nil]
    refine ⟨fun c=>⟨by omega,fun _=>⟨h0,fun _=>?_⟩⟩,fun c=>?_⟩
    · have hi:i<R.length:=by omega
      have tk:R.take (i+1)=R.take i++[R.getD i r00]:=by
        rw [List.take_add_one,List.getElem?_eq_getElem hi,List.getD_eq_getElem?_getD,List.getElem?_eq_getElem hi]; rfl
      have hmem:R.getD i r00∈R:=getD_mem hi
      have hgd:R.getD i r00=List.getD R i (0,0,0,0,false,[],()):=rfl
      rw [hgd] at tk hmem
      generalize List.getD R i (0,0,0,0,false,[],())=r at *
      have hl:lateR k v r=(decide (at1 (bOr .u8 r.2.2.1 r.2.2.2.1) k=1) && decide (v.1<r.1)):=rfl
      have hs:lastR k a r=if at1 r.2.2.2.1 k=1∧a.1<r.1 then r else a:=rfl
      have next:lateR k v r=false→∀ a',a'=lastR k a r→_:=fun h a' e=>ih (i+1,a') ⟨hi,by show (R.take (i+1)).any (lateR k v)=false; rw [tk,List.any_append,k2,List.any_cons,h]; rfl,by show a'=(R.take (i+1)).foldl (lastR k) r00; rw [tk,List.foldl_append,← k3,e]; rfl⟩ (by show R.length - (i+1)<R.length - i; omega)
      have stop:at1 (bOr .u8 r.2.2.1 r.2.2.2.1) k=1→v.1<r.1→vtrE R v k=4:=fun e1 e2=>by
        rw [hd,if_pos]
        exact List.any_eq_true.2 ⟨r,hmem,by rw [hl,decide_eq_true e1,decide_eq_true e2]; rfl⟩
      refine ⟨fun d=>⟨fun e=>key (stop d e),fun e=>⟨h0,fun _=>?_⟩⟩,fun d=>⟨h0,fun _=>?_⟩⟩
      · have hnl:lateR k v r=false:=by rw [hl,decide_eq_false e,Bool.and_false]
        refine ⟨fun f=>⟨fun g=>⟨by omega,fun _=>next hnl r (by rw [hs,if_pos ⟨f,g⟩])⟩,fun g=>⟨by omega,fun _=>next hnl a (by rw [hs,if_neg (fun h=>g h.2)])⟩⟩,fun f=>⟨by omega,fun _=>next hnl a (by rw [hs,if_neg (fun h=>f h.1)])⟩⟩
      · have hnl:lateR k v r=false:=by rw [hl,decide_eq_false (show ¬ at1 (bOr .u8 r.2.2.1 r.2.2.2.1) k=1 from d),Bool.false_and]
        refine ⟨fun f=>⟨fun g=>⟨by omega,fun _=>next hnl r (by rw [hs,if_pos ⟨f,g⟩])⟩,fun g=>⟨by omega,fun _=>next hnl a (by rw [hs,if_neg (fun h=>g h.2)])⟩⟩,fun f=>⟨by omega,fun _=>next hnl a (by rw [hs,if_neg (fun h=>f h.1)])⟩⟩
    · rw [List.take_of_length_le (by omega)] at k2 k3
      rw [if_neg (by rw [k2]; simp),← k3] at hd
      exact ⟨fun e=>key (by rw [hd,if_pos (.inl e)]),fun e=>⟨fun f=>⟨fun g=>key (by rw [hd,if_pos (.inr ⟨f,g⟩)]),fun g=>key (by rw [hd,if_neg]; rintro (h|h); exact e h; exact g h.2)⟩,fun f=>key (by rw [hd,if_neg]; rintro (h|h); exact e h; exact f h.1)⟩⟩
  simp only [holds_cond,Tree.holds,true_and,true_implies,decide_eq_true_eq,decide_eq_false_iff_not,Bool.not_eq_true',Bool.not_eq_false',Int.toNat_natCast,inK_i64,List.length_set,List.length_cons,List.length_nil]
  refine ⟨⟨h0,h1⟩,fun _=>⟨fun a=>key (by rw [hd,if_pos (.inl a)]),fun a=>⟨fun b=>key (by rw [hd,if_pos (.inr (.inl b))]),fun b=>⟨fun c=>key (by rw [hd,if_pos (.inr (.inr c))]),fun c=>?_⟩⟩⟩⟩
  have n1:v.1<0∨v.2.1<0∨v.1<v.2.1→False:=by omega
  refine ⟨fun d=>⟨fun e=>key (by rw [hd,if_neg n1,if_pos (.inl ⟨d,e⟩)]),fun e=>⟨fun f=>⟨fun g=>key (by rw [hd,if_neg n1,if_pos (.inr ⟨f,g⟩)]),fun g=>loop n1 ?_⟩,fun f=>loop n1 ?_⟩⟩,fun d=>⟨fun f=>⟨fun g=>key (by rw [hd,if_neg n1,if_pos (.inr ⟨f,g⟩)]),fun g=>loop n1 ?_⟩,fun f=>loop n1 ?_⟩⟩
  · rintro (h|h); exact e h.2; exact g h.2
  · rintro (h|h); exact e h.2; exact f h.1
  · rintro (h|h); exact d h.1; exact g h.2
  · rintro (h|h); exact d h.1; exact f h.1
def scheck (s:SynodD):Int:=if inF s.1.length 1 6=false∨30<s.2.1.length then 1 else if firstE (rndE s.1.length s.2.1) s.2.1.length≠0 then firstE (rndE s.1.length s.2.1) s.2.1.length else firstE (fun k=>vtrE s.2.1 (s.1.getD k v00) (k:Int)) s.1.length
def cscheck:Ctr:={ ps:=[.v Synod],rs:=[I64],pre:=fun _=>True,fn:=fun x=>(scheck x.1,()),out:=fun _=>() }
noncomputable def Escheck:Env:={ P:=Try.prog,tt:=tt,ctr:=[(67,cyin),(95,crnd),(96,cvtr)],res:=[Go.ResultVar.tmp 2],rs:=[Ty.int IntKind.i64],ps:=[PK.v (Ty.pair (Ty.slc false (Ty.pair (Ty.int IntKind.i64) (Ty.pair (Ty.int IntKind.i64) (Ty.pair Ty.str Ty.unit)))) (Ty.pair (Ty.slc false (Ty.pair (Ty.int IntKind.i64) (Ty.pair (Ty.int IntKind.i64) (Ty.pair (Ty.int IntKind.u8) (Ty.pair (Ty.int IntKind.u8) (Ty.pair Ty.bool (Ty.pair Ty.str Ty.unit))))))) Ty.unit))],cuts:=[(4,[(1,none),(20,none),(21,none)]),(11,[(1,none),(33,none),(34,none)])],nt:=44 }
theorem Escheck_ok:EnvOk Escheck:=envOk tt_ok ⟨cyin_valid,crnd_valid,cvtr_valid,trivial⟩
theorem Fscheck_ok:FnOk Escheck Try.f50:=⟨rfl,rfl⟩
theorem Escheck_t (x0_1:List (Int×Int×List UInt8×Unit)) (x0_2_1:List (Int×Int×Int×Int×Bool×List UInt8×Unit)):exec Escheck 1000 [.code (bodyOf Try.prog 50)] (initSt cscheck.ps (((x0_1,x0_2_1,()),()))) =
  .need (True) (cond (!inF (↑(List.length x0_1):Int) (1:Int) (6:Int)) (.ret (((1:Int),()))) (cond (decide ((30:Int)<(↑(List.length x0_2_1):Int))) (.ret (((1:Int),()))) (.cut (loopAt (bodyOf Try.prog 50) 4).1 (loopAt (bodyOf Try.prog 50) 4).2 (St.mk [(1,AV.ptr 1 []),(20,AV.val (Ty.int IntKind.i64) (↑(List.length x0_2_1):Int)),(21,AV.val (Ty.int IntKind.i64) (0:Int))] [(1,Ent.var (Ty.pair (Ty.slc false (Ty.pair (Ty.int IntKind.i64) (Ty.pair (Ty.int IntKind.i64) (Ty.pair Ty.str Ty.unit)))) (Ty.pair (Ty.slc false (Ty.pair (Ty.int IntKind.i64) (Ty.pair (Ty.int IntKind.i64) (Ty.pair (Ty.int IntKind.u8) (Ty.pair (Ty.int IntKind.u8) (Ty.pair Ty.bool (Ty.pair Ty.str Ty.unit))))))) Ty.unit)) (x0_1,x0_2_1,()))])))):=by kernel_rfl
def Escheck_s4 (v20:Int) (v21:Int) (o1_1:List (Int×Int×List UInt8×Unit)) (o1_2_1:List (Int×Int×Int×Int×Bool×List UInt8×Unit)):St:=St.mk [(1,AV.ptr 1 []),(20,AV.val (Ty.int IntKind.i64) v20),(21,AV.val (Ty.int IntKind.i64) v21)] [(1,Ent.var (Ty.pair (Ty.slc false (Ty.pair (Ty.int IntKind.i64) (Ty.pair (Ty.int IntKind.i64) (Ty.pair Ty.str Ty.unit)))) (Ty.pair (Ty.slc false (Ty.pair (Ty.int IntKind.i64) (Ty.pair (Ty.int IntKind.i64) (Ty.pair (Ty.int IntKind.u8) (Ty.pair (Ty.int IntKind.u8) (Ty.pair Ty.bool (Ty.pair Ty.str Ty.unit))))))) Ty.unit)) (o1_1,o1_2_1,()))]
theorem Escheck_l4 (v20:Int) (v21:Int) (o1_1:List (Int×Int×List UInt8×Unit)) (o1_2_1:List (Int×Int×Int×Int×Bool×List UInt8×Unit)):exec Escheck 1000 (.code (loopAt (bodyOf Try.prog 50) 4).1::.inLoop (loopAt (bodyOf Try.prog 50) 4).1::(loopAt (bodyOf Try.prog 50) 4).2) (Escheck_s4 v20 v21 o1_1 o1_2_1) =
  cond (decide (v21<v20)) (.need ((0:Int)≤v21∧v21<(↑(List.length o1_2_1):Int)) (cond (decide (rndE (↑(List.length o1_1):Int) o1_2_1 (Int.toNat v21)≠(0:Int))) (.ret ((rndE (↑(List.length o1_1):Int) o1_2_1 (Int.toNat v21),()))) (.need (inK IntKind.i64 (v21+(1:Int))) (.cut (loopAt (bodyOf Try.prog 50) 4).1 (loopAt (bodyOf Try.prog 50) 4).2 (St.mk [(1,AV.ptr 1 []),(20,AV.val (Ty.int IntKind.i64) v20),(21,AV.val (Ty.int IntKind.i64) (v21+(1:Int)))] [(1,Ent.var (Ty.pair (Ty.slc false (Ty.pair (Ty.int IntKind.i64) (Ty.pair (Ty.int IntKind.i64) (Ty.pair Ty.str Ty.unit)))) (Ty.pair (Ty.slc false (Ty.pair (Ty.int IntKind.i64) (Ty.pair (Ty.int IntKind.i64) (Ty.pair (Ty.int IntKind.u8) (Ty.pair (Ty.int IntKind.u8) (Ty.pair Ty.bool (Ty.pair Ty.str Ty.unit))))))) Ty.unit)) (o1_1,o1_2_1,()))]))))) (.cut (loopAt (bodyOf Try.prog 50) 11).1 (loopAt (bodyOf Try.prog 50) 11).2 (St.mk [(1,AV.ptr 1 []),(33,AV.val (Ty.int IntKind.i64) (↑(List.length o1_1):Int)),(34,AV.val (Ty.int IntKind.i64) (0:Int))] [(1,Ent.var (Ty.pair (Ty.slc false (Ty.pair (Ty.int IntKind.i64) (Ty.pair (Ty.int IntKind.i64) (Ty.pair Ty.str Ty.unit)))) (Ty.pair (Ty.slc false (Ty.pair (Ty.int IntKind.i64) (Ty.pair (Ty.int IntKind.i64) (Ty.pair (Ty.int IntKind.u8) (Ty.pair (Ty.int IntKind.u8) (Ty.pair Ty.bool (Ty.pair Ty.str Ty.unit))))))) Ty.unit)) (o1_1,o1_2_1,()))])):=by kernel_rfl
def Escheck_s11 (v33:Int) (v34:Int) (o1_1:List (Int×Int×List UInt8×Unit)) (o1_2_1:List (Int×Int×Int×Int×Bool×List UInt8×Unit)):St:=St.mk [(1,AV.ptr 1 []),(33,AV.val (Ty.int IntKind.i64) v33),(34,AV.val (Ty.int IntKind.i64) v34)] [(1,Ent.var (Ty.pair (Ty.slc false (Ty.pair (Ty.int IntKind.i64) (Ty.pair (Ty.int IntKind.i64) (Ty.pair Ty.str Ty.unit)))) (Ty.pair (Ty.slc false (Ty.pair (Ty.int IntKind.i64) (Ty.pair (Ty.int IntKind.i64) (Ty.pair (Ty.int IntKind.u8) (Ty.pair (Ty.int IntKind.u8) (Ty.pair Ty.bool (Ty.pair Ty.str Ty.unit))))))) Ty.unit)) (o1_1,o1_2_1,()))]
theorem Escheck_l11 (v33:Int) (v34:Int) (o1_1:List (Int×Int×List UInt8×Unit)) (o1_2_1:List (Int×Int×Int×Int×Bool×List UInt8×Unit)):exec Escheck 1000 (.code (loopAt (bodyOf Try.prog 50) 11).1::.inLoop (loopAt (bodyOf Try.prog 50) 11).1::(loopAt (bodyOf Try.prog 50) 11).2) (Escheck_s11 v33 v34 o1_1 o1_2_1) =
  cond (decide (v34<v33)) (.need ((0:Int)≤v34∧v34<(↑(List.length o1_1):Int)) (cond (decide (vtrE o1_2_1 (List.getD o1_1 (Int.toNat v34) v00) v34≠(0:Int))) (.ret ((vtrE o1_2_1 (List.getD o1_1 (Int.toNat v34) v00) v34,()))) (.need (inK IntKind.i64 (v34+(1:Int))) (.cut (loopAt (bodyOf Try.prog 50) 11).1 (loopAt (bodyOf Try.prog 50) 11).2 (St.mk [(1,AV.ptr 1 []),(33,AV.val (Ty.int IntKind.i64) v33),(34,AV.val (Ty.int IntKind.i64) (v34+(1:Int)))] [(1,Ent.var (Ty.pair (Ty.slc false (Ty.pair (Ty.int IntKind.i64) (Ty.pair (Ty.int IntKind.i64) (Ty.pair Ty.str Ty.unit)))) (Ty.pair (Ty.slc false (Ty.pair (Ty.int IntKind.i64) (Ty.pair (Ty.int IntKind.i64) (Ty.pair (Ty.int IntKind.u8) (Ty.pair (Ty.int IntKind.u8) (Ty.pair Ty.bool (Ty.pair Ty.str Ty.unit))))))) Ty.unit)) (o1_1,o1_2_1,()))]))))) (.ret (((0:Int),()))):=by kernel_rfl
theorem cscheck_valid:cscheck.Valid Try.prog 50:=by
  refine Ctr.valid_of Escheck_ok rfl rfl Try.func50 (c:=bodyOf Try.prog 50) rfl rfl Fscheck_ok rfl ?_
  rintro ⟨⟨(V:List VoterD),(R:List RoundD),⟨⟩⟩,⟨⟩⟩ - -
  refine exec_sound (n:=1000) Escheck_ok Fscheck_ok ?_
  refine holds_of_eq (Escheck_t V R) ?_
  have key:∀ {y:Int},scheck (V,R,())=y→((y,()):Int×Unit)=(scheck (V,R,()),()):=by rintro y rfl; rfl
  have hd:scheck (V,R,())=if inF V.length 1 6=false∨30<R.length then 1 else if firstE (rndE V.length R) R.length≠0 then firstE (rndE V.length R) R.length else firstE (fun k=>vtrE R (V.getD k v00) (k:Int)) V.length:=rfl
  simp only [holds_cond,Tree.holds,true_and,true_implies,decide_eq_true_eq,decide_eq_false_iff_not,Bool.not_eq_true',Bool.not_eq_false',Int.toNat_natCast,inK_i64,List.length_set,List.length_cons,List.length_nil]
  refine ⟨fun a=>key (by rw [hd,if_pos (.inl a)]),fun a=>⟨fun b=>key (by rw [hd,if_pos (.inr (by omega))]),fun b=>?_⟩⟩
  rw [if_neg (by rintro (h|h); (rw [a] at h; cases h); omega)] at hd
  have hV:=inF_iff.1 a
  refine Reach.loopI Escheck_ok Fscheck_ok (fun i:Nat=>Escheck_s4 (R.length:Int) (i:Int) V R) (fun i=>i≤R.length∧firstE (rndE V.length R) i=0) (fun i=>R.length - i) 1000 (fun _=>⟨uniq_of rfl,uniq_of rfl⟩) ?_ 0 ⟨Nat.zero_le _,rfl⟩
  rintro i ⟨(k1:i≤R.length),(k2:firstE (rndE V.length R) i=0)⟩ - ih
  refine holds_of_eq (Escheck_l4 ..) ?_
  simp only [holds_cond,Tree.holds,true_and,true_implies,decide_eq_true_eq,decide_eq_false_iff_not,Bool.not_eq_true',Bool.not_eq_false',Int.toNat_natCast,inK_i64,List.length_set,List.length_cons,List.length_nil]
  refine ⟨fun c=>⟨by omega,fun _=>⟨fun d=>key (by rw [hd,firstE_stop k2 d (by omega),if_pos d]),fun d=>⟨by omega,fun _=>ih (i+1) ⟨by omega,firstE_step k2 (Decidable.not_not.1 d)⟩ (by omega)⟩⟩⟩,fun c=>?_⟩
  obtain rfl:i=R.length:=by omega
  rw [if_neg (by rw [k2]; simp)] at hd
  refine Reach.loopI Escheck_ok Fscheck_ok (fun i:Nat=>Escheck_s11 (V.length:Int) (i:Int) V R) (fun i=>i≤V.length∧firstE (fun k=>vtrE R (V.getD k v00) (k:Int)) i=0) (fun i=>V.length - i) 1000 (fun _=>⟨uniq_of rfl,uniq_of rfl⟩) ?_ 0 ⟨Nat.zero_le _,rfl⟩
  rintro i ⟨(j1:i≤V.length),(j2:firstE (fun k=>vtrE R (V.getD k v00) (k:Int)) i=0)⟩ - ih2
  refine holds_of_eq (Escheck_l11 ..) ?_
  simp only [holds_cond,Tree.holds,true_and,true_implies,decide_eq_true_eq,decide_eq_false_iff_not,Bool.not_eq_true',Bool.not_eq_false',Int.toNat_natCast,inK_i64,List.length_set,List.length_cons,List.length_nil]
  refine ⟨fun c=>⟨by omega,fun _=>⟨fun d=>key (by rw [hd,firstE_stop j2 d (by omega)]),fun d=>⟨by omega,fun _=>ih2 (i+1) ⟨by omega,firstE_step j2 (Decidable.not_not.1 d)⟩ (by omega)⟩⟩⟩,fun c=>?_⟩
  obtain rfl:i=V.length:=by omega
  exact key (by rw [hd,j2])
end Go.Proofs.Ytegigiecamjobaa
