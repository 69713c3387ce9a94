/- LaneOrder, LaneWhole: the walks. -/
import Derived.Test.YtegigiecamjobaaLaneR
namespace Go.Proofs.Ytegigiecamjobaa
open Go.Ex
set_option maxRecDepth 100000
def cLaneOrder:Ctr:=smallC [.slc false LActT]
noncomputable def ELaneOrder:Env:={ P:=Try.prog,tt:=tt,ctr:=[(41,crun),(42,ceqS),(43,cfromE),(39,ctoE)],res:=[Go.ResultVar.tmp 2],rs:=[Ty.bool],ps:=[PK.v (Ty.slc false (Ty.pair (Ty.int IntKind.i64) (Ty.pair (Ty.int IntKind.i64) (Ty.pair Ty.str Ty.unit))))],cuts:=[],nt:=97 }
theorem ELaneOrder_ok:EnvOk ELaneOrder:=envOk tt_ok ⟨crun_valid,ceqS_valid,cfromE_valid,ctoE_valid,trivial⟩
theorem FLaneOrder_ok:FnOk ELaneOrder Try.f11:=⟨rfl,rfl⟩
theorem ELaneOrder_t (x0:List (Int×Int×List UInt8×Unit)):exec ELaneOrder 1000 [.code (bodyOf Try.prog 11)] (initSt cLaneOrder.ps ((x0,()))) =
  .need (List.length (List.set (List.set (List.set (List.set [((0:Int),(0:Int),[],()),((0:Int),(0:Int),[],()),((0:Int),(0:Int),[],()),((0:Int),(0:Int),[],())] (Int.toNat (↑0:Int)) ((0:Int),(0:Int),Array.toList (ByteArray.data (ByteArray.mk #[(97:UInt8)])),())) (Int.toNat (↑1:Int)) ((4:Int),(9:Int),[],())) (Int.toNat (↑2:Int)) ((3:Int),(0:Int),[],())) (Int.toNat (↑3:Int)) ((3:Int),(0:Int),[],()))≤1048576) (.need (True) (.need (List.length x0≤1048576) (cond (decide ((↑(List.length (Prod.fst (Prod.snd (lgo x0 (List.length x0))))):Int)≤(↑(List.length (Prod.fst (lgo x0 (List.length x0)))):Int))) (.need ((0:Int)≤(0:Int)∧(0:Int)≤(↑(List.length (Prod.fst (Prod.snd (lgo x0 (List.length x0))))):Int)∧(↑(List.length (Prod.fst (Prod.snd (lgo x0 (List.length x0))))):Int)≤(↑(List.length (Prod.fst (lgo x0 (List.length x0)))):Int)) (.need (True) (cond (decide (Prod.fst (Prod.snd (lgo x0 (List.length x0)))=cut2 (0:Int) (↑(List.length (Prod.fst (Prod.snd (lgo x0 (List.length x0))))):Int) (Prod.fst (lgo x0 (List.length x0))))) (cond (decide (Prod.fst (Prod.fst (Prod.snd (Prod.snd (Prod.snd (lgo x0 (List.length x0))))))=(↑(List.length (Prod.fst (Prod.snd (lgo x0 (List.length x0))))):Int))) (.need (inK IntKind.i64 (Prod.fst (Prod.fst (Prod.snd (Prod.snd (lgo x0 (List.length x0)))))+(↑(List.length (Prod.fst (Prod.snd (Prod.fst (Prod.snd (Prod.snd (lgo x0 (List.length x0)))))))):Int))) (cond (decide (Prod.fst (Prod.fst (Prod.snd (Prod.snd (lgo x0 (List.length x0)))))+(↑(List.length (Prod.fst (Prod.snd (Prod.fst (Prod.snd (Prod.snd (lgo x0 (List.length x0)))))))):Int)=(↑(List.length (Prod.fst (lgo x0 (List.length x0)))):Int))) (cond (decide (Prod.fst (Prod.fst (Prod.snd (Prod.snd (lgo x0 (List.length x0)))))≤Prod.fst (Prod.fst (Prod.snd (Prod.snd (Prod.snd (lgo x0 (List.length x0)))))))) (.need (True) (cond (decide (fromE (Prod.fst (Prod.snd (Prod.snd (lgo x0 (List.length x0)))))=(0:Int))) (.need (True) (.ret ((decide (toE (Prod.fst (Prod.snd (Prod.snd (Prod.snd (lgo x0 (List.length x0))))))=(0:Int)),())))) (.ret ((false,()))))) (.ret ((false,())))) (.ret ((false,()))))) (.ret ((false,())))) (.ret ((false,())))))) (.ret ((false,())))))):=by kernel_rfl
def cLaneWhole:Ctr:=smallC [.slc false LActT]
noncomputable def ELaneWhole:Env:={ P:=Try.prog,tt:=tt,ctr:=[(41,crun),(42,ceqS),(37,cltake),(44,clsends),(45,clheard)],res:=[Go.ResultVar.tmp 2],rs:=[Ty.bool],ps:=[PK.v (Ty.slc false (Ty.pair (Ty.int IntKind.i64) (Ty.pair (Ty.int IntKind.i64) (Ty.pair Ty.str Ty.unit))))],cuts:=[(9,[(8,some (Ty.slc true Ty.str)),(9,some (Ty.slc true Ty.str)),(10,none),(11,none),(14,none),(62,some (Ty.slc true (Ty.pair (Ty.int IntKind.i64) (Ty.pair Ty.str Ty.unit)))),(63,none),(64,none)])],nt:=112 }
def ELaneWhole_s9 (v14:Int) (v63:Int) (v64:Int) (o10_1:Int) (o10_2_1:List (List UInt8)) (o11_1:Int) (o11_2_1:List (Int×List UInt8×Unit)) (o1000008:List (List UInt8)) (o1000009:List (List UInt8)) (o1000062:List (Int×List UInt8×Unit)):St:=St.mk [(8,AV.at_ 1000008 []),(9,AV.at_ 1000009 []),(10,AV.ptr 10 []),(11,AV.ptr 11 []),(14,AV.val (Ty.int IntKind.i64) v14),(62,AV.at_ 1000062 []),(63,AV.val (Ty.int IntKind.i64) v63),(64,AV.val (Ty.int IntKind.i64) v64)] [(10,Ent.var (Ty.pair (Ty.int IntKind.i64) (Ty.pair (Ty.slc true Ty.str) Ty.unit)) (o10_1,o10_2_1,())),(11,Ent.var (Ty.pair (Ty.int IntKind.i64) (Ty.pair (Ty.slc true (Ty.pair (Ty.int IntKind.i64) (Ty.pair Ty.str Ty.unit))) Ty.unit)) (o11_1,o11_2_1,())),(1000008,Ent.own (Ty.slc true Ty.str) o1000008),(1000009,Ent.own (Ty.slc true Ty.str) o1000009),(1000062,Ent.own (Ty.slc true (Ty.pair (Ty.int IntKind.i64) (Ty.pair Ty.str Ty.unit))) o1000062)]
theorem cut2_tk {α:Type} {l:List α} {i:Nat}:cut2 0 (i:Int) l=l.take i:=by
  rw [cut2,show ((i:Int) - 0).toNat=i by omega]; rfl
theorem blkL_lenY {α:Type} {f:α→Nat} {c:Nat} (h:∀ x,c≤f x):∀ l:List α,c*l.length≤bulkL f l
  | []=>by simp [bulkL]
  | x::l=>by have h1:=h x; have h2:=blkL_lenY h l; simp only [bulkL,List.length_cons,Nat.mul_add]; omega
theorem acts_len {l:List LActD} (hp:bulkK [.slc false LActT] (l,())≤1048576):l.length≤1048576:=by
  have h2:=blkL_lenY (f:=Ty.bulk LActT) (c:=1) (fun x=>by show 1≤1+_; omega) l
  have h1:(bulkL (Ty.bulk LActT) l+1)+0≤1048576:=hp
  omega
attribute [local irreducible] lgo exec
theorem cLaneOrder_valid:(smallC [.slc false LActT]).Valid Try.prog 11:=by
  refine Ctr.valid_of ELaneOrder_ok rfl rfl Try.func11 (c:=bodyOf Try.prog 11) rfl rfl FLaneOrder_ok rfl ?_
  rintro ⟨(l:List LActD),⟨⟩⟩ hp -
  have hl:=acts_len hp
  refine exec_sound (n:=1000) ELaneOrder_ok FLaneOrder_ok ?_
  refine holds_of_eq (ELaneOrder_t l) ?_
  have hI:=lgo_ok l l.length
  generalize lgo l l.length=st at *
  obtain ⟨put,told,⟨b,late,⟨⟩⟩,⟨n,early,⟨⟩⟩,way⟩:=st
  have hI:LI put told (b,late,()) (n,early,()) way:=hI
  have h1:told.length=n∧told=put.take told.length∧told.length≤put.length:=hI.told_len
  have h2:b+(late.length:Int)=put.length:=hI.drop
  have h3:0≤b∧b≤n:=hI.base
  have h4:=hI.from_
  have h5:toE (n,early,())=0:=toE_iff.2 hI.ok
  have h6:=hI.all
  have h7:cut2 (0:Int) (told.length:Int) put=told:=by
    rw [cut2_tk]; exact h1.2.1.symm
  simp only [holds_cond,Tree.holds,true_and,true_implies,decide_eq_true_eq,decide_eq_false_iff_not,Bool.not_eq_true',Bool.not_eq_false',Int.toNat_natCast,inK_i64,List.length_set,List.length_cons,List.length_nil]
  refine ⟨by decide,fun _=>⟨hl,fun _=>⟨fun _=>⟨by omega,fun _=>⟨fun _=>⟨fun _=>⟨by omega,fun _=>⟨fun _=>⟨fun _=>⟨fun _=>?_,fun e=>absurd h4 e⟩,fun e=>absurd h3.2 e⟩,fun e=>absurd h2 e⟩⟩,fun e=>absurd h1.1.symm e⟩,fun e=>absurd h7.symm e⟩⟩,fun e=>absurd (show (told.length:Int)≤put.length by omega) e⟩⟩⟩
  show ((decide (toE (n,early,())=0),()):Bool×Unit)=(true,())
  rw [decide_eq_true h5]
end Go.Proofs.Ytegigiecamjobaa
