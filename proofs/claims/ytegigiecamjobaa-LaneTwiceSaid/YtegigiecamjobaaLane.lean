/- The contracts of the package lane's functions. -/
import Derived.Test.YtegigiecamjobaaBase
namespace Go.Proofs.Ytegigiecamjobaa
open Go.Ex
set_option maxRecDepth 100000
def firstE (f:Nat→Int):Nat→Int
  | 0=>0
  | k+1=>if firstE f k≠0 then firstE f k else f k
theorem firstE_stop {f:Nat→Int} {k:Nat} (h0:firstE f k=0) (h1:f k≠0):∀ {n:Nat},k<n→firstE f n=f k
  | 0,h=>by omega
  | n+1,h=>by
    by_cases e:k=n
    · subst e; simp [firstE,h0]
    · have:=firstE_stop h0 h1 (n:=n) (by omega)
      simp [firstE,this,h1]
theorem firstE_step {f:Nat→Int} {k:Nat} (h0:firstE f k=0) (h1:f k=0):firstE f (k+1)=0:=by simp [firstE,h0,h1]
theorem firstE_zero {f:Nat→Int}:∀ {n:Nat},firstE f n=0↔∀ k,k<n→f k=0
  | 0=>by simp [firstE]
  | n+1=>by
    constructor
    · intro h k hk
      have h2:firstE f n=0:=by
        by_cases e:firstE f n=0
        · exact e
        · rw [firstE,if_pos e] at h; exact absurd h e
      by_cases e:k=n
      · subst e; simpa [firstE,h2] using h
      · exact firstE_zero.1 h2 k (by omega)
    · intro h
      exact firstE_step (firstE_zero.2 (fun k hk=>h k (by omega))) (h n (by omega))
abbrev ParcelD:=Int×List UInt8×Unit
abbrev FromD:=Int×List (List UInt8)×Unit
abbrev ToD:=Int×List ParcelD×Unit
def clin:Ctr:={ ps:=[.v I64,.v I64,.v I64],rs:=[.bool],pre:=fun _=>True,fn:=fun x=>(inF x.1 x.2.1 x.2.2.1,()),out:=fun _=>() }
noncomputable def Elin:Env:={ P:=Try.prog,tt:=tt,ctr:=[],res:=[Go.ResultVar.tmp 6],rs:=[Ty.bool],ps:=[PK.v (Ty.int IntKind.i64),PK.v (Ty.int IntKind.i64),PK.v (Ty.int IntKind.i64)],cuts:=[],nt:=15 }
theorem Elin_ok:EnvOk Elin:=envOk tt_ok trivial
theorem Flin_ok:FnOk Elin Try.f81:=⟨rfl,rfl⟩
theorem Elin_t (x0:Int) (x1:Int) (x2:Int):exec Elin 1000 [.code (bodyOf Try.prog 81)] (initSt clin.ps ((x0,x1,x2,()))) =
  cond (decide (x1≤x0)) (.ret ((decide (x0≤x2),()))) (.ret ((false,()))):=by kernel_rfl
theorem clin_valid:clin.Valid Try.prog 81:=by
  refine Ctr.valid_of Elin_ok rfl rfl Try.func81 (c:=bodyOf Try.prog 81) rfl rfl Flin_ok rfl ?_
  rintro ⟨(a:Int),(b:Int),(c:Int),⟨⟩⟩ - -
  refine exec_sound (n:=1000) Elin_ok Flin_ok ?_
  refine holds_of_eq (Elin_t a b c) ?_
  simp only [holds_cond,Tree.holds,true_and,true_implies,decide_eq_true_eq,decide_eq_false_iff_not,Bool.not_eq_true',Bool.not_eq_false',Int.toNat_natCast,inK_i64,List.length_set,List.length_cons,List.length_nil]
  repeat' first|exact trivial|(refine And.intro ?_ ?_)|(intro _)
  all_goals (show ((_,()):Bool×Unit)=(inF a b c,()); simp [inF, *])
def llong (s:List UInt8):Bool:=decide ((200:Int)<s.length)
def cllong:Ctr:={ ps:=[.v .str],rs:=[.bool],pre:=fun _=>True,fn:=fun x=>(llong x.1,()),out:=fun _=>() }
noncomputable def Ellong:Env:={ P:=Try.prog,tt:=tt,ctr:=[],res:=[Go.ResultVar.tmp 2],rs:=[Ty.bool],ps:=[PK.v Ty.str],cuts:=[],nt:=6 }
theorem Ellong_ok:EnvOk Ellong:=envOk tt_ok trivial
theorem Fllong_ok:FnOk Ellong Try.f82:=⟨rfl,rfl⟩
theorem Ellong_t (x0:List UInt8):exec Ellong 1000 [.code (bodyOf Try.prog 82)] (initSt cllong.ps ((x0,()))) =
  .ret ((decide ((200:Int)<(↑(List.length x0):Int)),())):=by kernel_rfl
theorem cllong_valid:cllong.Valid Try.prog 82:=by
  refine Ctr.valid_of Ellong_ok rfl rfl Try.func82 (c:=bodyOf Try.prog 82) rfl rfl Fllong_ok rfl ?_
  rintro ⟨(s:List UInt8),⟨⟩⟩ - -
  refine exec_sound (n:=1000) Ellong_ok Fllong_ok ?_
  refine holds_of_eq (Ellong_t s) ?_
  rfl
def cidxS:Ctr:={ ps:=[.v (.slc false .str),.clo 82 []],rs:=[I64],pre:=fun x=>True,fn:=fun x=>(idxOf (llong) x.1,()),out:=fun _=>() }
noncomputable def EidxS:Env:={ P:=Try.prog,tt:=tt,ctr:=[(82,cllong)],res:=[Go.ResultVar.tmp 4],rs:=[Ty.int IntKind.i64],ps:=[PK.v (Ty.slc false Ty.str),PK.clo 82 []],cuts:=[(2,[(0,none),(1,none),(7,none),(8,none)])],nt:=19 }
def EidxS_s2 (v0:List (List UInt8)) (v7:Int) (v8:Int):St:=St.mk [(0,AV.val (Ty.slc false Ty.str) v0),(1,AV.clo 82 AV.nil),(7,AV.val (Ty.int IntKind.i64) v7),(8,AV.val (Ty.int IntKind.i64) v8)] []
def ccontS:Ctr:={ ps:=[.v (.slc false .str),.clo 82 []],rs:=[.bool],pre:=fun x=>True,fn:=fun x=>(List.any (α:=List UInt8) x.1 (llong),()),out:=fun _=>() }
noncomputable def EcontS:Env:={ P:=Try.prog,tt:=tt,ctr:=[(128,cidxS)],res:=[Go.ResultVar.tmp 4],rs:=[Ty.bool],ps:=[PK.v (Ty.slc false Ty.str),PK.clo 82 []],cuts:=[],nt:=9 }
def cscl:Ctr:={ ps:=[.v (.slc false .str)],rs:=[.slc true .str],pre:=fun x=>List.length (α:=List UInt8) x.1≤1048576,fn:=fun x=>x,out:=fun _=>() }
noncomputable def Escl:Env:={ P:=Try.prog,tt:=tt,ctr:=[],res:=[Go.ResultVar.tmp 2],rs:=[Ty.slc true Ty.str],ps:=[PK.v (Ty.slc false Ty.str)],cuts:=[],nt:=8 }
def cpcl:Ctr:={ ps:=[.v (.slc false Parcel)],rs:=[.slc true Parcel],pre:=fun x=>List.length (α:=ParcelD) x.1≤1048576,fn:=fun x=>x,out:=fun _=>() }
noncomputable def Epcl:Env:={ P:=Try.prog,tt:=tt,ctr:=[],res:=[Go.ResultVar.tmp 2],rs:=[Ty.slc true (Ty.pair (Ty.int IntKind.i64) (Ty.pair Ty.str Ty.unit))],ps:=[PK.v (Ty.slc false (Ty.pair (Ty.int IntKind.i64) (Ty.pair Ty.str Ty.unit)))],cuts:=[],nt:=8 }
def ceqS:Ctr:={ ps:=[.v (.slc false .str),.v (.slc false .str)],rs:=[.bool],pre:=fun _=>True,fn:=fun x=>(decide ((show List (List UInt8) from x.1)=(show List (List UInt8) from x.2.1)),()),out:=fun _=>() }
noncomputable def EeqS:Env:={ P:=Try.prog,tt:=tt,ctr:=[],res:=[Go.ResultVar.tmp 4],rs:=[Ty.bool],ps:=[PK.v (Ty.slc false Ty.str),PK.v (Ty.slc false Ty.str)],cuts:=[(4,[(0,none),(1,none),(12,none),(13,none)])],nt:=26 }
def EeqS_s4 (v0:List (List UInt8)) (v1:List (List UInt8)) (v12:Int) (v13:Int):St:=St.mk [(0,AV.val (Ty.slc false Ty.str) v0),(1,AV.val (Ty.slc false Ty.str) v1),(12,AV.val (Ty.int IntKind.i64) v12),(13,AV.val (Ty.int IntKind.i64) v13)] []
def f00:FromD:=(0,[],())
def fromE (s:FromD):Int:=if inF s.1 0 16777215=false then 1 else if (16:Int)<s.2.1.length then 1 else if s.2.1.any llong=true then 2 else 0
def cfromE:Ctr:={ ps:=[.v FromT],rs:=[I64],pre:=fun _=>True,fn:=fun x=>(fromE x.1,()),out:=fun _=>() }
noncomputable def EfromE:Env:={ P:=Try.prog,tt:=tt,ctr:=[(81,clin),(90,ccontS)],res:=[Go.ResultVar.tmp 2],rs:=[Ty.int IntKind.i64],ps:=[PK.v (Ty.pair (Ty.int IntKind.i64) (Ty.pair (Ty.slc false Ty.str) Ty.unit))],cuts:=[],nt:=18 }
theorem lnf {b:Bool} (h:b=true):¬ b=false:=by rw [h]; simp
def lput (s:FromD) (x:List UInt8):FromD×Int×Unit :=
  if fromE s≠0 then (f00,fromE s,()) else if llong x=true then (f00,2,()) else if (s.2.1.length:Int)=16∨16777215≤s.1+s.2.1.length then (f00,8,()) else ((s.1,s.2.1++[x],()),0,())
def clput:Ctr:={ ps:=[.v FromT,.v .str],rs:=[FromO,I64],pre:=fun _=>True,fn:=fun x=>lput x.1 x.2.1,out:=fun _=>() }
noncomputable def Elput:Env:={ P:=Try.prog,tt:=tt,ctr:=[(43,cfromE),(82,cllong),(91,cscl)],res:=[Go.ResultVar.cell 4 92,Go.ResultVar.tmp 5],rs:=[Ty.pair (Ty.int IntKind.i64) (Ty.pair (Ty.slc true Ty.str) Ty.unit),Ty.int IntKind.i64],ps:=[PK.v (Ty.pair (Ty.int IntKind.i64) (Ty.pair (Ty.slc false Ty.str) Ty.unit)),PK.v Ty.str],cuts:=[],nt:=41 }
def ahd (b x:Int):Int:=if x - b<0 then 0 else x - b
def lheard (s:FromD) (x:Int):FromD×Int×Unit :=
  if fromE s≠0 then (f00,fromE s,()) else if s.1+s.2.1.length<x then (f00,1,()) else ((s.1+ahd s.1 x,s.2.1.drop (ahd s.1 x).toNat,()),0,())
def clheard:Ctr:={ ps:=[.v FromT,.v I64],rs:=[FromO,I64],pre:=fun x=>LE.le (α:=Int) 0 x.2.1,fn:=fun x=>lheard x.1 x.2.1,out:=fun _=>() }
noncomputable def Elheard:Env:={ P:=Try.prog,tt:=tt,ctr:=[(43,cfromE),(91,cscl)],res:=[Go.ResultVar.cell 4 92,Go.ResultVar.tmp 5],rs:=[Ty.pair (Ty.int IntKind.i64) (Ty.pair (Ty.slc true Ty.str) Ty.unit),Ty.int IntKind.i64],ps:=[PK.v (Ty.pair (Ty.int IntKind.i64) (Ty.pair (Ty.slc false Ty.str) Ty.unit)),PK.v (Ty.int IntKind.i64)],cuts:=[],nt:=38 }
def sendsL (b most:Int) (l:List (List UInt8)):Nat→List ParcelD
  | 0=>[]
  | i+1=>sendsL b most l i++(if (i:Int)<most then [(b+i,l.getD i [],())] else [])
def lsends (s:FromD) (most:Int):List ParcelD×Int×Unit:=if fromE s≠0 then ([],fromE s,()) else (sendsL s.1 most s.2.1 s.2.1.length,0,())
def clsends:Ctr:={ ps:=[.v FromT,.v I64],rs:=[.slc true Parcel,I64],pre:=fun _=>True,fn:=fun x=>lsends x.1 x.2.1,out:=fun _=>() }
noncomputable def Elsends:Env:={ P:=Try.prog,tt:=tt,ctr:=[(43,cfromE)],res:=[Go.ResultVar.tmp 4,Go.ResultVar.tmp 5],rs:=[Ty.slc true (Ty.pair (Ty.int IntKind.i64) (Ty.pair Ty.str Ty.unit)),Ty.int IntKind.i64],ps:=[PK.v (Ty.pair (Ty.int IntKind.i64) (Ty.pair (Ty.slc false Ty.str) Ty.unit)),PK.v (Ty.int IntKind.i64)],cuts:=[(6,[(1,none),(2,none),(7,some (Ty.slc true (Ty.pair (Ty.int IntKind.i64) (Ty.pair Ty.str Ty.unit)))),(16,none),(17,none),(18,none)])],nt:=37 }
def Elsends_s6 (v1:Int) (v16:List (List UInt8)) (v17:Int) (v18:Int) (o2_1:Int) (o2_2_1:List (List UInt8)) (o1000007:List (Int×List UInt8×Unit)):St:=St.mk [(1,AV.val (Ty.int IntKind.i64) v1),(2,AV.ptr 2 []),(7,AV.at_ 1000007 []),(16,AV.val (Ty.slc false Ty.str) v16),(17,AV.val (Ty.int IntKind.i64) v17),(18,AV.val (Ty.int IntKind.i64) v18)] [(2,Ent.var (Ty.pair (Ty.int IntKind.i64) (Ty.pair (Ty.slc false Ty.str) Ty.unit)) (o2_1,o2_2_1,())),(1000007,Ent.own (Ty.slc true (Ty.pair (Ty.int IntKind.i64) (Ty.pair Ty.str Ty.unit))) o1000007)]
def p00:ParcelD:=(0,[],())
def t00:ToD:=(0,[],())
def befE (r:Int) (l:List ParcelD):Nat→Int
  | 0=>r
  | i+1=>(l.getD i p00).1
def earlyE (r:Int) (l:List ParcelD) (i:Nat):Int:=if (l.getD i p00).1≤befE r l i then 4 else if r+16≤(l.getD i p00).1 then 4 else if llong (l.getD i p00).2.1=true then 4 else 0
def toE (s:ToD):Int:=if inF s.1 0 16777215=false then 1 else if (16:Int)<s.2.1.length then 2 else firstE (earlyE s.1 s.2.1) s.2.1.length
def ctoE:Ctr:={ ps:=[.v ToT],rs:=[I64],pre:=fun _=>True,fn:=fun x=>(toE x.1,()),out:=fun _=>() }
noncomputable def EtoE:Env:={ P:=Try.prog,tt:=tt,ctr:=[(81,clin),(82,cllong)],res:=[Go.ResultVar.tmp 2],rs:=[Ty.int IntKind.i64],ps:=[PK.v (Ty.pair (Ty.int IntKind.i64) (Ty.pair (Ty.slc false (Ty.pair (Ty.int IntKind.i64) (Ty.pair Ty.str Ty.unit))) Ty.unit))],cuts:=[(7,[(1,none),(3,none),(19,none),(20,none),(21,none)])],nt:=45 }
theorem EtoE_ok:EnvOk EtoE:=envOk tt_ok ⟨clin_valid,cllong_valid,trivial⟩
theorem FtoE_ok:FnOk EtoE Try.f39:=⟨rfl,rfl⟩
theorem EtoE_t (x0_1:Int) (x0_2_1:List (Int×List UInt8×Unit)):exec EtoE 1000 [.code (bodyOf Try.prog 39)] (initSt ctoE.ps (((x0_1,x0_2_1,()),()))) =
  .need (True) (cond (!inF x0_1 (0:Int) (16777215:Int)) (.ret (((1:Int),()))) (cond (decide ((16:Int)<(↑(List.length x0_2_1):Int))) (.ret (((2:Int),()))) (.cut (loopAt (bodyOf Try.prog 39) 7).1 (loopAt (bodyOf Try.prog 39) 7).2 (St.mk [(1,AV.ptr 1 []),(3,AV.val (Ty.int IntKind.i64) x0_1),(19,AV.val (Ty.slc false (Ty.pair (Ty.int IntKind.i64) (Ty.pair Ty.str Ty.unit))) x0_2_1),(20,AV.val (Ty.int IntKind.i64) (↑(List.length x0_2_1):Int)),(21,AV.val (Ty.int IntKind.i64) (0:Int))] [(1,Ent.var (Ty.pair (Ty.int IntKind.i64) (Ty.pair (Ty.slc false (Ty.pair (Ty.int IntKind.i64) (Ty.pair Ty.str Ty.unit))) Ty.unit)) (x0_1,x0_2_1,()))])))):=by kernel_rfl
def EtoE_s7 (v3:Int) (v19:List (Int×List UInt8×Unit)) (v20:Int) (v21:Int) (o1_1:Int) (o1_2_1:List (Int×List UInt8×Unit)):St:=St.mk [(1,AV.ptr 1 []),(3,AV.val (Ty.int IntKind.i64) v3),(19,AV.val (Ty.slc false (Ty.pair (Ty.int IntKind.i64) (Ty.pair Ty.str Ty.unit))) v19),(20,AV.val (Ty.int IntKind.i64) v20),(21,AV.val (Ty.int IntKind.i64) v21)] [(1,Ent.var (Ty.pair (Ty.int IntKind.i64) (Ty.pair (Ty.slc false (Ty.pair (Ty.int IntKind.i64) (Ty.pair Ty.str Ty.unit))) Ty.unit)) (o1_1,o1_2_1,()))]
theorem EtoE_l7 (v3:Int) (v19:List (Int×List UInt8×Unit)) (v20:Int) (v21:Int) (o1_1:Int) (o1_2_1:List (Int×List UInt8×Unit)):exec EtoE 1000 (.code (loopAt (bodyOf Try.prog 39) 7).1::.inLoop (loopAt (bodyOf Try.prog 39) 7).1::(loopAt (bodyOf Try.prog 39) 7).2) (EtoE_s7 v3 v19 v20 v21 o1_1 o1_2_1) =
  cond (decide (v21<v20)) (.need ((0:Int)≤v21∧v21<(↑(List.length v19):Int)) (cond (decide (Prod.fst (List.getD v19 (Int.toNat v21) ((0:Int),[],()))≤v3)) (.ret (((4:Int),()))) (.need (inK IntKind.i64 (o1_1+(16:Int))) (cond (decide (o1_1+(16:Int)≤Prod.fst (List.getD v19 (Int.toNat v21) ((0:Int),[],())))) (.ret (((4:Int),()))) (.need (True) (cond (llong (Prod.fst (Prod.snd (List.getD v19 (Int.toNat v21) ((0:Int),[],()))))) (.ret (((4:Int),()))) (.need (inK IntKind.i64 (v21+(1:Int))) (.cut (loopAt (bodyOf Try.prog 39) 7).1 (loopAt (bodyOf Try.prog 39) 7).2 (St.mk [(1,AV.ptr 1 []),(3,AV.val (Ty.int IntKind.i64) (Prod.fst (List.getD v19 (Int.toNat v21) ((0:Int),[],())))),(19,AV.val (Ty.slc false (Ty.pair (Ty.int IntKind.i64) (Ty.pair Ty.str Ty.unit))) v19),(20,AV.val (Ty.int IntKind.i64) v20),(21,AV.val (Ty.int IntKind.i64) (v21+(1:Int)))] [(1,Ent.var (Ty.pair (Ty.int IntKind.i64) (Ty.pair (Ty.slc false (Ty.pair (Ty.int IntKind.i64) (Ty.pair Ty.str Ty.unit))) Ty.unit)) (o1_1,o1_2_1,()))]))))))))) (.ret (((0:Int),()))):=by kernel_rfl
theorem ctoE_valid:ctoE.Valid Try.prog 39:=by
  refine Ctr.valid_of EtoE_ok rfl rfl Try.func39 (c:=bodyOf Try.prog 39) rfl rfl FtoE_ok rfl ?_
  rintro ⟨⟨(r:Int),(l:List ParcelD),⟨⟩⟩,⟨⟩⟩ - -
  refine exec_sound (n:=1000) EtoE_ok FtoE_ok ?_
  refine holds_of_eq (EtoE_t r l) ?_
  have key:∀ {x:Int},toE (r,l,())=x→((x,()):Int×Unit)=(toE (r,l,()),()):=by rintro x rfl; rfl
  have hd:toE (r,l,())=if inF r 0 16777215=false then 1 else if (16:Int)<l.length then 2 else firstE (earlyE r l) l.length:=rfl
  simp only [holds_cond,Tree.holds,true_and,true_implies,decide_eq_true_eq,decide_eq_false_iff_not,Bool.not_eq_true',Bool.not_eq_false',Int.toNat_natCast,inK_i64,List.length_set,List.length_cons,List.length_nil]
  refine ⟨fun a=>key (by rw [hd,if_pos a]),fun a=>?_⟩
  have hr:=inF_iff.1 a
  rw [if_neg (lnf a)] at hd
  refine ⟨fun a=>key (by rw [hd,if_pos a]),fun a=>?_⟩
  rw [if_neg a] at hd
  refine Reach.loopI EtoE_ok FtoE_ok (fun i:Nat=>EtoE_s7 (befE r l i) l (l.length:Int) (i:Int) r l) (fun i=>i≤l.length∧firstE (earlyE r l) i=0) (fun i=>l.length - i) 1000 (fun _=>⟨uniq_of rfl,uniq_of rfl⟩) ?_ 0 ⟨by omega,rfl⟩
  rintro i ⟨k1,k2⟩ - ih
  have k1:i≤l.length:=k1
  refine holds_of_eq (EtoE_l7 ..) ?_
  simp only [holds_cond,Tree.holds,true_and,true_implies,decide_eq_true_eq,decide_eq_false_iff_not,Bool.not_eq_true',Bool.not_eq_false',Int.toNat_natCast,inK_i64,List.length_set,List.length_cons,List.length_nil]
  have hE:earlyE r l i=if (l.getD i (0,[],())).1≤befE r l i then 4 else if r+16≤(l.getD i (0,[],())).1 then 4 else if llong (l.getD i (0,[],())).2.1=true then 4 else 0:=rfl
  have hB:befE r l (i+1)=(l.getD i (0,[],())).1:=rfl
  have stop:earlyE r l i=4→i<l.length→toE (r,l,())=4:=fun h9 hi=>by rw [hd,firstE_stop k2 (by rw [h9]; decide) hi,h9]
  have next:=fun (h:earlyE r l i=0) (hi:i<l.length)=>ih (i+1) ⟨by omega,firstE_step k2 h⟩ (by omega)
  rw [hB] at next
  generalize l.getD i (0,[],())=w at *
  obtain ⟨q,x,u⟩:=w
  simp only at hE next ⊢
  refine ⟨fun c=>⟨by omega,fun _=>⟨fun c1=>key (stop (by rw [hE,if_pos c1]) (by omega)),fun c1=>⟨by omega,fun _=>⟨fun c2=>key (stop (by rw [hE,if_neg c1,if_pos c2]) (by omega)),fun c2=>⟨fun c3=>key (stop (by rw [hE,if_neg c1,if_neg c2,if_pos c3]) (by omega)),fun c3=>⟨by omega,fun _=>next (by rw [hE,if_neg c1,if_neg c2,if_neg (by rw [c3]; simp)]) (by omega)⟩⟩⟩⟩⟩⟩,fun c=>key (by rw [hd,show l.length=i by omega,k2])⟩
end Go.Proofs.Ytegigiecamjobaa
