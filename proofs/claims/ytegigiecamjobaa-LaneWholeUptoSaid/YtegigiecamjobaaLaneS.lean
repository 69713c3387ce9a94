/- LaneOrder, LaneWhole: the walks. -/
import Derived.Test.YtegigiecamjobaaLaneR
namespace Go.Proofs.Ytegigiecamjobaa
open Go.Ex
set_option maxRecDepth 100000
def cLaneOrder:Ctr:=smallC [.slc false LActT]
noncomputable def ELaneOrder:Env:={ P:=Try.prog,tt:=tt,ctr:=[(41,crun),(42,ceqS),(43,cfromE),(39,ctoE)],res:=[Go.ResultVar.tmp 2],rs:=[Ty.bool],ps:=[PK.v (Ty.slc false (Ty.pair (Ty.int IntKind.i64) (Ty.pair (Ty.int IntKind.i64) (Ty.pair Ty.str Ty.unit))))],cuts:=[],nt:=97 }
def cLaneWhole:Ctr:=smallC [.slc false LActT]
noncomputable def ELaneWhole:Env:={ P:=Try.prog,tt:=tt,ctr:=[(41,crun),(42,ceqS),(37,cltake),(44,clsends),(45,clheard)],res:=[Go.ResultVar.tmp 2],rs:=[Ty.bool],ps:=[PK.v (Ty.slc false (Ty.pair (Ty.int IntKind.i64) (Ty.pair (Ty.int IntKind.i64) (Ty.pair Ty.str Ty.unit))))],cuts:=[(9,[(8,some (Ty.slc true Ty.str)),(9,some (Ty.slc true Ty.str)),(10,none),(11,none),(14,none),(62,some (Ty.slc true (Ty.pair (Ty.int IntKind.i64) (Ty.pair Ty.str Ty.unit)))),(63,none),(64,none)])],nt:=112 }
theorem ELaneWhole_ok:EnvOk ELaneWhole:=envOk tt_ok ⟨crun_valid,ceqS_valid,cltake_valid,clsends_valid,clheard_valid,trivial⟩
theorem FLaneWhole_ok:FnOk ELaneWhole Try.f12:=⟨rfl,rfl⟩
theorem ELaneWhole_t (x0:List (Int×Int×List UInt8×Unit)):exec ELaneWhole 1000 [.code (bodyOf Try.prog 12)] (initSt cLaneWhole.ps ((x0,()))) =
  .need (List.length (List.set (List.set (List.set (List.set (List.set [((0:Int),(0:Int),[],()),((0:Int),(0:Int),[],()),((0:Int),(0:Int),[],()),((0:Int),(0:Int),[],()),((0:Int),(0:Int),[],())] (Int.toNat (↑0:Int)) ((0:Int),(0:Int),Array.toList (ByteArray.data (ByteArray.mk #[(97:UInt8)])),())) (Int.toNat (↑1:Int)) ((0:Int),(0:Int),Array.toList (ByteArray.data (ByteArray.mk #[(98:UInt8)])),())) (Int.toNat (↑2:Int)) ((4:Int),(2:Int),[],())) (Int.toNat (↑3:Int)) ((3:Int),(1:Int),[],())) (Int.toNat (↑4:Int)) ((3:Int),(0:Int),[],()))≤1048576) (.need (True) (.need (List.length x0≤1048576) (.need (True) (.cut (loopAt (bodyOf Try.prog 12) 9).1 (loopAt (bodyOf Try.prog 12) 9).2 (St.mk [(8,AV.at_ 1000008 []),(9,AV.at_ 1000009 []),(10,AV.ptr 10 []),(11,AV.ptr 11 []),(14,AV.val (Ty.int IntKind.i64) (Prod.fst (Prod.snd (lsends (Prod.fst (Prod.snd (Prod.snd (lgo x0 (List.length x0))))) (16:Int))))),(62,AV.at_ 1000062 []),(63,AV.val (Ty.int IntKind.i64) (↑(List.length (Prod.fst (lsends (Prod.fst (Prod.snd (Prod.snd (lgo x0 (List.length x0))))) (16:Int)))):Int)),(64,AV.val (Ty.int IntKind.i64) (0:Int))] [(10,Ent.var (Ty.pair (Ty.int IntKind.i64) (Ty.pair (Ty.slc true Ty.str) Ty.unit)) (Prod.fst (Prod.snd (Prod.snd (lgo x0 (List.length x0)))))),(11,Ent.var (Ty.pair (Ty.int IntKind.i64) (Ty.pair (Ty.slc true (Ty.pair (Ty.int IntKind.i64) (Ty.pair Ty.str Ty.unit))) Ty.unit)) (Prod.fst (Prod.snd (Prod.snd (Prod.snd (lgo x0 (List.length x0))))))),(1000008,Ent.own (Ty.slc true Ty.str) (Prod.fst (lgo x0 (List.length x0)))),(1000009,Ent.own (Ty.slc true Ty.str) (Prod.fst (Prod.snd (lgo x0 (List.length x0))))),(1000062,Ent.own (Ty.slc true (Ty.pair (Ty.int IntKind.i64) (Ty.pair Ty.str Ty.unit))) (Prod.fst (lsends (Prod.fst (Prod.snd (Prod.snd (lgo x0 (List.length x0))))) (16:Int))))]))))):=by kernel_rfl
def ELaneWhole_s9 (v14:Int) (v63:Int) (v64:Int) (o10_1:Int) (o10_2_1:List (List UInt8)) (o11_1:Int) (o11_2_1:List (Int×List UInt8×Unit)) (o1000008:List (List UInt8)) (o1000009:List (List UInt8)) (o1000062:List (Int×List UInt8×Unit)):St:=St.mk [(8,AV.at_ 1000008 []),(9,AV.at_ 1000009 []),(10,AV.ptr 10 []),(11,AV.ptr 11 []),(14,AV.val (Ty.int IntKind.i64) v14),(62,AV.at_ 1000062 []),(63,AV.val (Ty.int IntKind.i64) v63),(64,AV.val (Ty.int IntKind.i64) v64)] [(10,Ent.var (Ty.pair (Ty.int IntKind.i64) (Ty.pair (Ty.slc true Ty.str) Ty.unit)) (o10_1,o10_2_1,())),(11,Ent.var (Ty.pair (Ty.int IntKind.i64) (Ty.pair (Ty.slc true (Ty.pair (Ty.int IntKind.i64) (Ty.pair Ty.str Ty.unit))) Ty.unit)) (o11_1,o11_2_1,())),(1000008,Ent.own (Ty.slc true Ty.str) o1000008),(1000009,Ent.own (Ty.slc true Ty.str) o1000009),(1000062,Ent.own (Ty.slc true (Ty.pair (Ty.int IntKind.i64) (Ty.pair Ty.str Ty.unit))) o1000062)]
theorem ELaneWhole_l9 (v14:Int) (v63:Int) (v64:Int) (o10_1:Int) (o10_2_1:List (List UInt8)) (o11_1:Int) (o11_2_1:List (Int×List UInt8×Unit)) (o1000008:List (List UInt8)) (o1000009:List (List UInt8)) (o1000062:List (Int×List UInt8×Unit)):exec ELaneWhole 1000 (.code (loopAt (bodyOf Try.prog 12) 9).1::.inLoop (loopAt (bodyOf Try.prog 12) 9).1::(loopAt (bodyOf Try.prog 12) 9).2) (ELaneWhole_s9 v14 v63 v64 o10_1 o10_2_1 o11_1 o11_2_1 o1000008 o1000009 o1000062) =
  cond (decide (v64<v63)) (.need ((0:Int)≤v64∧v64<(↑(List.length o1000062):Int)) (.need (True) (cond (decide (Prod.fst (Prod.snd (Prod.snd (ltake (o11_1,o11_2_1,()) (List.getD o1000062 (Int.toNat v64) ((0:Int),[],())))))≠(0:Int))) (.ret ((false,()))) (.need (List.length o1000009+List.length (Prod.fst (Prod.snd (ltake (o11_1,o11_2_1,()) (List.getD o1000062 (Int.toNat v64) ((0:Int),[],())))))≤140737488355328∧(List.length o1000009+List.length (Prod.fst (Prod.snd (ltake (o11_1,o11_2_1,()) (List.getD o1000062 (Int.toNat v64) ((0:Int),[],()))))))*Ty.wb Ty.str≤140737488355328) (.need (inK IntKind.i64 (v64+(1:Int))) (.cut (loopAt (bodyOf Try.prog 12) 9).1 (loopAt (bodyOf Try.prog 12) 9).2 (St.mk [(8,AV.at_ 1000008 []),(9,AV.at_ 1000009 []),(10,AV.ptr 10 []),(11,AV.ptr 11 []),(14,AV.val (Ty.int IntKind.i64) v14),(62,AV.at_ 1000062 []),(63,AV.val (Ty.int IntKind.i64) v63),(64,AV.val (Ty.int IntKind.i64) (v64+(1:Int)))] [(10,Ent.var (Ty.pair (Ty.int IntKind.i64) (Ty.pair (Ty.slc true Ty.str) Ty.unit)) (o10_1,o10_2_1,())),(11,Ent.var (Ty.pair (Ty.int IntKind.i64) (Ty.pair (Ty.slc true (Ty.pair (Ty.int IntKind.i64) (Ty.pair Ty.str Ty.unit))) Ty.unit)) (Prod.fst (ltake (o11_1,o11_2_1,()) (List.getD o1000062 (Int.toNat v64) ((0:Int),[],()))))),(1000008,Ent.own (Ty.slc true Ty.str) o1000008),(1000009,Ent.own (Ty.slc true Ty.str) (o1000009++Prod.fst (Prod.snd (ltake (o11_1,o11_2_1,()) (List.getD o1000062 (Int.toNat v64) ((0:Int),[],())))))),(1000062,Ent.own (Ty.slc true (Ty.pair (Ty.int IntKind.i64) (Ty.pair Ty.str Ty.unit))) o1000062)]))))))) (.need ((0:Int)≤o11_1) (cond (decide (v14=(0:Int))) (cond (decide (Prod.fst (Prod.snd (lheard (o10_1,o10_2_1,()) o11_1))=(0:Int))) (.need (True) (cond (decide (o1000009=o1000008)) (cond (decide ((↑(List.length (Prod.fst (Prod.snd (Prod.fst (lheard (o10_1,o10_2_1,()) o11_1))))):Int)=(0:Int))) (.ret ((decide ((↑(List.length o11_2_1):Int)=(0:Int)),()))) (.ret ((false,())))) (.ret ((false,()))))) (.ret ((false,())))) (.ret ((false,()))))):=by kernel_rfl
theorem blkL_lenY {α:Type} {f:α→Nat} {c:Nat} (h:∀ x,c≤f x):∀ l:List α,c*l.length≤bulkL f l
  | []=>by simp [bulkL]
  | x::l=>by have h1:=h x; have h2:=blkL_lenY h l; simp only [bulkL,List.length_cons,Nat.mul_add]; omega
theorem acts_len {l:List LActD} (hp:bulkK [.slc false LActT] (l,())≤1048576):l.length≤1048576:=by
  have h2:=blkL_lenY (f:=Ty.bulk LActT) (c:=1) (fun x=>by show 1≤1+_; omega) l
  have h1:(bulkL (Ty.bulk LActT) l+1)+0≤1048576:=hp
  omega
theorem sendsL_all {b m:Int} {l:List Str}:∀ {i:Nat},(i:Int)≤m→(sendsL b m l i).length=i∧∀ j,j<i→(sendsL b m l i).getD j p00=(b+j,l.getD j [],())
  | 0,_=>⟨rfl,fun j hj=>by omega⟩
  | i+1,hi=>by
    obtain ⟨h1,h2⟩:=sendsL_all (b:=b) (m:=m) (l:=l) (i:=i) (by omega)
    rw [sendsL,if_pos (by omega)]
    refine ⟨by rw [List.length_append,h1]; rfl,fun j hj=>?_⟩
    rw [List.getD_eq_getElem?_getD]
    by_cases e:j=i
    · subst e
      rw [List.getElem?_append_right (by omega),h1,Nat.sub_self]; rfl
    · rw [List.getElem?_append_left (by omega),← List.getD_eq_getElem?_getD]
      exact h2 j (by omega)
attribute [local irreducible] lgo exec
theorem cLaneWhole_valid:(smallC [.slc false LActT]).Valid Try.prog 12:=by
  refine Ctr.valid_of ELaneWhole_ok rfl rfl Try.func12 (c:=bodyOf Try.prog 12) rfl rfl FLaneWhole_ok rfl ?_
  rintro ⟨(l:List LActD),⟨⟩⟩ hp -
  have hl:=acts_len hp
  refine exec_sound (n:=1000) ELaneWhole_ok FLaneWhole_ok ?_
  refine holds_of_eq (ELaneWhole_t l) ?_
  have w16:Ty.wb .str=16:=rfl
  have hI:=lgo_ok l l.length
  generalize lgo l l.length=st at *
  obtain ⟨put,told,⟨b,late,⟨⟩⟩,⟨n,early,⟨⟩⟩,way⟩:=st
  have hI:LI put told (b,late,()) (n,early,()) way:=hI
  have h2:b+(late.length:Int)=put.length:=hI.drop
  have h3:0≤b∧b≤n:=hI.base
  have h4:=hI.from_
  have h6:=hI.all
  have hfew:late.length≤16:=hI.few
  have hs:lsends (b,late,()) 16=(sendsL b 16 late late.length,0,()):=by rw [lsends,if_neg (by rw [h4]; simp)]
  obtain ⟨s1,s2⟩:=sendsL_all (b:=b) (m:=16) (l:=late) (i:=late.length) (by omega)
  have s3:=sendsL_of (most:=16) (show late=put.drop b.toNat from hI.late) h3.1 h2 (Nat.le_refl _)
  simp only [hs]
  generalize sendsL b 16 late late.length=P at *
  simp only [holds_cond,Tree.holds,true_and,true_implies,decide_eq_true_eq,decide_eq_false_iff_not,Bool.not_eq_true',Bool.not_eq_false',Int.toNat_natCast,inK_i64,List.length_set,List.length_cons,List.length_nil,w16]
  refine ⟨by decide,fun _=>⟨hl,fun _=>?_⟩⟩
  refine Reach.loopI ELaneWhole_ok FLaneWhole_ok (fun s:Nat×List Str×ToD=>ELaneWhole_s9 0 (P.length:Int) (s.1:Int) b late s.2.2.1 s.2.2.2.1 put s.2.1 P) (fun s=>s.1≤P.length∧LI put s.2.1 (b,late,()) s.2.2 way∧b+(s.1:Int)≤s.2.2.1) (fun s=>P.length - s.1) 1000 (fun _=>⟨uniq_of rfl,uniq_of rfl⟩) ?_ (0,told,(n,early,())) ⟨Nat.zero_le _,hI,by show b+((0:Nat):Int)≤n; omega⟩
  rintro ⟨k,told,⟨n,early,⟨⟩⟩⟩ ⟨(k1:k≤P.length),(k2:LI put told (b,late,()) (n,early,()) way),(k3:b+(k:Int)≤n)⟩ - ih
  refine holds_of_eq (ELaneWhole_l9 ..) ?_
  have hn:n≤(put.length:Int):=k2.next
  have htl:told.length=n∧told=put.take told.length∧told.length≤put.length:=k2.told_len
  simp only [holds_cond,Tree.holds,true_and,true_implies,decide_eq_true_eq,decide_eq_false_iff_not,Bool.not_eq_true',Bool.not_eq_false',Int.toNat_natCast,inK_i64,List.length_set,List.length_cons,List.length_nil,w16]
  refine ⟨fun c=>⟨⟨by omega,by omega⟩,fun _=>?_⟩,fun c=>⟨by omega,fun _=>⟨?_,fun e=>absurd trivial e⟩⟩⟩
  · have hk:k<P.length:=by omega
    have e0:P.getD k (0,[],())=P.getD k p00:=rfl
    rw [e0]
    obtain ⟨q1,q2,q3,q4⟩:=k2.take (s3 (P.getD k p00) (getD_mem hk))
    have e1:=s2 k (by omega)
    have q4:=q4 (by rw [e1]; show b+(k:Int)≤n; omega)
    have q4:b+(k:Int)<(ltake (n,early,()) (P.getD k p00)).1.1:=by rw [e1] at q4 ⊢; exact q4
    have hl9:=q1.told_len
    rw [List.length_append] at hl9
    refine ⟨fun e=>absurd q2 e,fun _=>⟨⟨by omega,by omega⟩,fun _=>⟨by omega,fun _=>?_⟩⟩⟩
    exact ih (k+1,told++(ltake (n,early,()) (P.getD k p00)).2.1,(ltake (n,early,()) (P.getD k p00)).1) ⟨by show k+1≤_; omega,q1,by show b+((k+1:Nat):Int)≤(ltake (n,early,()) (P.getD k p00)).1.1; omega⟩ (by show P.length - (k+1)<P.length - k; omega)
  · have hk:k=P.length:=by omega
    obtain ⟨g1,g2,g3⟩:=k2.heard
    have g1:(lheard (b,late,()) n).2.1=0:=g1
    have g3:(lheard (b,late,()) n).1.2.1=put.drop n.toNat:=g3
    have htold:told=put:=by
      rw [htl.2.1]; exact List.take_of_length_le (by omega)
    have hearly:early=[]:=by
      rw [List.eq_nil_iff_forall_not_mem]
      intro p hp9
      obtain ⟨x1,x2,x3⟩:=k2.early p hp9
      have:=rise_mem k2.ok.up hp9
      have:n<p.1:=this
      omega
    have hlate:((lheard (b,late,()) n).1.2.1.length:Int)=0:=by
      rw [g3,List.length_drop]; omega
    refine ⟨fun _=>⟨fun _=>⟨fun _=>?_,fun e=>absurd hlate e⟩,fun e=>absurd htold e⟩,fun e=>absurd g1 e⟩
    show ((decide ((early.length:Int)=0),()):Bool×Unit)=(true,())
    rw [hearly]; rfl
end Go.Proofs.Ytegigiecamjobaa
