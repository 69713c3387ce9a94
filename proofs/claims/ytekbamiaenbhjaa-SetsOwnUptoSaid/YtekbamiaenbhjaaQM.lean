/- Quorum systems: minimal and what calls it: the contracts. No condition but those named. -/
import Derived.Test.YtekbamiaenbhjaaQA
import Derived.Test.YtekbamiaenbhjaaQG
import Derived.Shelf.SlGeneric
namespace Go.Proofs.Ytekbamiaenbhjaa
open Go.Ex Go.Sort
set_option maxRecDepth 100000
def b1e:Go.Shelf.Ren:=⟨fun|6=>267|14=>312|15=>180|20=>335|21=>336|22=>337|23=>338|24=>339|25=>340|26=>341|27=>342|28=>254|29=>255|46=>350|47=>294|48=>295|49=>351|50=>352|57=>354|n=>n,fun|0=>0|3=>3|4=>4|5=>5|9=>9|22=>195|24=>204|25=>372|39=>297|45=>358|46=>359|50=>268|53=>365|55=>367|66=>395|70=>399|76=>421|77=>422|n=>n,fun|n=>n⟩
theorem b9H:Go.Proofs.SlLaysF.n6 Try.prog b1e:={
  mixed:=by kernel_rfl,
  f6:=⟨Try.f267.name,by decide,Try.func267.trans (congrArg some (by kernel_rfl))⟩,
  f14:=⟨Try.f312.name,by decide,Try.func312.trans (congrArg some (by kernel_rfl))⟩,
  f15:=Try.func180.trans (congrArg some (by kernel_rfl)),
  f20:=⟨Try.f335.name,by decide,Try.func335.trans (congrArg some (by kernel_rfl))⟩,
  f21:=⟨Try.f336.name,by decide,Try.func336.trans (congrArg some (by kernel_rfl))⟩,
  f22:=⟨Try.f337.name,by decide,Try.func337.trans (congrArg some (by kernel_rfl))⟩,
  f23:=⟨Try.f338.name,by decide,Try.func338.trans (congrArg some (by kernel_rfl))⟩,
  f24:=⟨Try.f339.name,by decide,Try.func339.trans (congrArg some (by kernel_rfl))⟩,
  f25:=⟨Try.f340.name,by decide,Try.func340.trans (congrArg some (by kernel_rfl))⟩,
  f26:=⟨Try.f341.name,by decide,Try.func341.trans (congrArg some (by kernel_rfl))⟩,
  f27:=⟨Try.f342.name,by decide,Try.func342.trans (congrArg some (by kernel_rfl))⟩,
  f28:=Try.func254.trans (congrArg some (by kernel_rfl)),
  f29:=Try.func255.trans (congrArg some (by kernel_rfl)),
  f46:=⟨Try.f350.name,by decide,Try.func350.trans (congrArg some (by kernel_rfl))⟩,
  f47:=Try.func294.trans (congrArg some (by kernel_rfl)),
  f48:=Try.func295.trans (congrArg some (by kernel_rfl)),
  f49:=⟨Try.f351.name,by decide,Try.func351.trans (congrArg some (by kernel_rfl))⟩,
  f50:=⟨Try.f352.name,by decide,Try.func352.trans (congrArg some (by kernel_rfl))⟩,
  f57:=⟨Try.f354.name,by decide,Try.func354.trans (congrArg some (by kernel_rfl))⟩,
  t0:=Try.underlying0,
  a0:=Try.isAgg0,
  z0:=Try.sizeOf0,
  v0:=Try.zeroValue0,
  t3:=Try.underlying3,
  a3:=Try.isAgg3,
  z3:=Try.sizeOf3,
  v3:=Try.zeroValue3,
  t4:=Try.underlying4,
  a4:=Try.isAgg4,
  z4:=Try.sizeOf4,
  v4:=Try.zeroValue4,
  t5:=Try.underlying5,
  a5:=Try.isAgg5,
  z5:=Try.sizeOf5,
  v5:=Try.zeroValue5,
  t9:=Try.underlying9,
  a9:=Try.isAgg9,
  z9:=Try.sizeOf9,
  v9:=Try.zeroValue9,
  t22:=Try.underlying195,
  a22:=Try.isAgg195,
  z22:=Try.sizeOf195,
  v22:=Try.zeroValue195,
  a24:=Try.isAgg204,
  z24:=Try.sizeOf204,
  t25:=Try.underlying372,
  a25:=Try.isAgg372,
  z25:=Try.sizeOf372,
  v25:=Try.zeroValue372,
  t39:=Try.underlying297,
  a39:=Try.isAgg297,
  z39:=Try.sizeOf297,
  v39:=Try.zeroValue297,
  t45:=Try.underlying358,
  a45:=Try.isAgg358,
  z45:=Try.sizeOf358,
  v45:=Try.zeroValue358,
  t46:=Try.underlying359,
  a46:=Try.isAgg359,
  z46:=Try.sizeOf359,
  v46:=Try.zeroValue359,
  t50:=Try.underlying268,
  a50:=Try.isAgg268,
  z50:=Try.sizeOf268,
  v50:=Try.zeroValue268,
  t53:=Try.underlying365,
  a53:=Try.isAgg365,
  z53:=Try.sizeOf365,
  v53:=Try.zeroValue365,
  t55:=Try.underlying367,
  a55:=Try.isAgg367,
  z55:=Try.sizeOf367,
  v55:=Try.zeroValue367,
  t66:=Try.underlying395,
  a66:=Try.isAgg395,
  z66:=Try.sizeOf395,
  v66:=Try.zeroValue395,
  t70:=Try.underlying399,
  a70:=Try.isAgg399,
  z70:=Try.sizeOf399,
  v70:=Try.zeroValue399,
  t76:=Try.underlying421,
  a76:=Try.isAgg421,
  z76:=Try.sizeOf421,
  v76:=Try.zeroValue421,
  t77:=Try.underlying422,
  a77:=Try.isAgg422,
  z77:=Try.sizeOf422,
  v77:=Try.zeroValue422 }
def b1L:p7:=c0O D3 265 G5 (fun _=>True)
theorem a49:b1L.Valid Try.prog 267 :=
  b3r b9H rfl rfl rfl (b93 a6h _ _ rfl (fun _ _ _ _=>trivial)) c4f
def Z7 (y:Int):Bool:=!R7 y 0 16777215
def b54:p7:={ ps:=[.v y8],rs:=[.bool],pre:=fun _=>True,fn:=fun x=>(Z7 x.1,()),out:=fun _=>() }
noncomputable def b6Z:Env:={ P:=Try.prog,tt:=tt,A3:=[(203,b1Q)],res:=[Go.ResultVar.tmp 2],rs:=[Ty.bool],ps:=[PK.v (Ty.int IntKind.i64)],x7:=[],nt:=6 }
theorem b2P:u5 b6Z:=w7 p9 ⟨a38,trivial⟩
theorem b2q:y9 b6Z Try.f205:=⟨rfl,rfl⟩
theorem c2a (x0:Int):exec b6Z 1000 [.code (b8 Try.prog 205)] (s6 b54.ps ((x0,()))) =
  .d8 (True) (.ret ((!R7 x0 (0:Int) (16777215:Int),()))):=by kernel_rfl
theorem b3I:b54.Valid Try.prog 205:=by
  refine p7.o8 b2P rfl rfl Try.func205 (c:=b8 Try.prog 205) rfl rfl b2q rfl ?_
  rintro ⟨(x:Int),⟨⟩⟩ - -
  refine j8 (n:=1000) b2P b2q ?_
  refine g9 (c2a x) ?_
  exact ⟨trivial,fun _=>rfl⟩
def b0H (v:List Int):Prop:=v.length≤10∧∀ y∈v,0≤y∧y≤16777215
def M0 (v:List Int) (d8 s:Int):Bool:=decide (d8≤a2c v s v.length)
def b53:p7:={ ps:=[.v D3,.rd (.b7 false y8),.rd y8],rs:=[.bool],pre:=fun x=>b0H x.2.1,fn:=fun x=>(M0 x.2.1 x.2.2.1 x.1,()),out:=fun _=>() }
noncomputable def b0B:Env:={ P:=Try.prog,tt:=tt,A3:=[],res:=[Go.ResultVar.tmp 4],rs:=[Ty.bool],ps:=[PK.v (Ty.int IntKind.u16),PK.rd (Ty.b7 false (Ty.int IntKind.i64)),PK.rd (Ty.int IntKind.i64)],x7:=[(3,[(0,none),(2,none),(5,none),(8,none),(9,none),(10,none)])],nt:=28 }
theorem a6V:u5 b0B:=w7 p9 trivial
theorem a6P:y9 b0B Try.f206:=⟨rfl,rfl⟩
theorem c1Z (x0:Int) (x1:List Int) (x2:Int):exec b0B 1000 [.code (b8 Try.prog 206)] (s6 b53.ps ((x0,x1,x2,()))) =
  .cut (e8 (b8 Try.prog 206) 3).1 (e8 (b8 Try.prog 206) 3).2 (St.mk [(0,AV.val (Ty.int IntKind.u16) x0),(2,AV.C5 (Ty.int IntKind.i64) x2),(5,AV.val (Ty.int IntKind.i64) (0:Int)),(8,AV.val (Ty.b7 false (Ty.int IntKind.i64)) x1),(9,AV.val (Ty.int IntKind.i64) (↑(List.length x1):Int)),(10,AV.val (Ty.int IntKind.i64) (0:Int))] []):=by kernel_rfl
def b2O (v0:Int) (v2:Int) (v5:Int) (v8:List Int) (v9:Int) (v10:Int):St:=St.mk [(0,AV.val (Ty.int IntKind.u16) v0),(2,AV.C5 (Ty.int IntKind.i64) v2),(5,AV.val (Ty.int IntKind.i64) v5),(8,AV.val (Ty.b7 false (Ty.int IntKind.i64)) v8),(9,AV.val (Ty.int IntKind.i64) v9),(10,AV.val (Ty.int IntKind.i64) v10)] []
theorem c0n (v0:Int) (v2:Int) (v5:Int) (v8:List Int) (v9:Int) (v10:Int):exec b0B 1000 (.code (e8 (b8 Try.prog 206) 3).1::.inLoop (e8 (b8 Try.prog 206) 3).1::(e8 (b8 Try.prog 206) 3).2) (b2O v0 v2 v5 v8 v9 v10) =
  cond (decide (v10<v9)) (.d8 ((0:Int)≤v10∧v10<(↑(List.length v8):Int)) (.d8 ((0:Int)≤v10) (.d8 (u7 IntKind.i64 (List.getD v8 (Int.toNat v10) (0:Int)*IntKind.wrap IntKind.i64 (Q7 IntKind.u16 (v0 / (2:Int)^min (Int.toNat v10) (IntKind.bits IntKind.u16)) (1:Int)))) (.d8 (u7 IntKind.i64 (v5+List.getD v8 (Int.toNat v10) (0:Int)*IntKind.wrap IntKind.i64 (Q7 IntKind.u16 (v0 / (2:Int)^min (Int.toNat v10) (IntKind.bits IntKind.u16)) (1:Int)))) (.d8 (u7 IntKind.i64 (v10+(1:Int))) (.cut (e8 (b8 Try.prog 206) 3).1 (e8 (b8 Try.prog 206) 3).2 (St.mk [(0,AV.val (Ty.int IntKind.u16) v0),(2,AV.C5 (Ty.int IntKind.i64) v2),(5,AV.val (Ty.int IntKind.i64) (v5+List.getD v8 (Int.toNat v10) (0:Int)*IntKind.wrap IntKind.i64 (Q7 IntKind.u16 (v0 / (2:Int)^min (Int.toNat v10) (IntKind.bits IntKind.u16)) (1:Int)))),(8,AV.val (Ty.b7 false (Ty.int IntKind.i64)) v8),(9,AV.val (Ty.int IntKind.i64) v9),(10,AV.val (Ty.int IntKind.i64) (v10+(1:Int)))] []))))))) (.ret ((decide (v2≤v5),()))):=by kernel_rfl
theorem b4H (i:Nat):(1:Nat).testBit i=decide (i=0):=by
  cases i with
  | zero=>decide
  | succ i=>simp [Nat.testBit_succ]
theorem c3q {s:Int} (h:N3 s) (k:Nat):IntKind.wrap .i64 (Q7 .u16 (s / 2^min k (IntKind.bits .u16)) 1)=if hasB s k=true then 1 else 0:=by
  have hs:=h.1
  have e16:min k (IntKind.bits .u16)=min k 16:=rfl
  rw [e16]
  have hd:s / 2^min k 16=((s.toNat / 2^min k 16:Nat):Int):=by
    have:s=((s.toNat:Nat):Int):=by omega
    conv=>lhs; rw [this]
    push_cast; rfl
  have hle:s.toNat / 2^min k 16≤s.toNat:=Nat.div_le_self _ _
  have hin:N3 ((s.toNat / 2^min k 16:Nat):Int):=⟨Int.natCast_nonneg _,by have:=h.2; exact Int.lt_of_le_of_lt (Int.ofNat_le.2 hle) (by omega)⟩
  have h1:N3 1:=⟨by omega,by omega⟩
  have hb:∀ i,hasB (a5f ((s.toNat / 2^min k 16:Nat):Int) 1) i=(s.toNat.testBit (i+min k 16) && decide (i=0)):=by
    intro i
    rw [b4R,U7 hin,U7 h1,Int.toNat_natCast,Nat.testBit_div_two_pow]
    congr 1
    exact b4H i
  have hk:s.toNat.testBit (min k 16)=hasB s k:=by
    rw [U7 h]
    by_cases hk:k<16
    · rw [Nat.min_eq_left (by omega)]
    · rw [Nat.min_eq_right (by omega),Nat.testBit_lt_two_pow (show s.toNat<2^16 by have:=h.2; omega),Nat.testBit_lt_two_pow (Nat.lt_of_lt_of_le (show s.toNat<2^16 by have:=h.2; omega) (Nat.pow_le_pow_right (by omega) (by omega)))]
  rw [hd,show Q7 .u16 ((s.toNat / 2^min k 16:Nat):Int) 1=a5f ((s.toNat / 2^min k 16:Nat):Int) 1 from rfl]
  by_cases e:hasB s k=true
  · rw [if_pos e,a8J (b:=1) (a8O _ _) h1 (fun i=>?_)]
    · rfl
    · rw [hb]
      by_cases hi:i=0
      · subst hi; rw [Nat.zero_add,hk,e]; decide
      · rw [decide_eq_false hi,Bool.and_false,U7 h1]
        show false=(1:Nat).testBit i
        rw [b4H,decide_eq_false hi]
  · rw [if_neg e,a8J (b:=0) (a8O _ _) ⟨by omega,by omega⟩ (fun i=>?_)]
    · rfl
    · rw [hb,b9O]
      by_cases hi:i=0
      · subst hi; rw [Nat.zero_add,hk]; simpa using e
      · rw [decide_eq_false hi,Bool.and_false]
theorem b3H:b53.Valid Try.prog 206:=by
  refine p7.o8 a6V rfl rfl Try.func206 (c:=b8 Try.prog 206) rfl rfl a6P rfl ?_
  rintro ⟨(s:Int),(v:List Int),(d8:Int),⟨⟩⟩ ⟨(h10:v.length≤10),(hv:∀ y∈v,0≤y∧y≤16777215)⟩ ⟨hs,-⟩
  have hs:N3 s:=a5J.1 hs
  refine j8 (n:=1000) a6V a6P ?_
  refine g9 (c1Z s v d8) ?_
  refine Reach.K9 a6V a6P (fun i:Nat=>b2O s d8 (a2c v s i) v (v.length:Int) (i:Int)) (fun i=>i≤v.length) (fun i=>v.length - i) 1000 (fun _=>⟨u3 rfl,u3 rfl⟩) ?_ 0 (Nat.zero_le _)
  rintro i k1 - ih
  have k1:i≤v.length:=k1
  refine g9 (c0n ..) ?_
  simp only [o5,Tree.holds,true_and,true_implies,decide_eq_true_eq,decide_eq_false_iff_not,Bool.not_eq_true',Bool.not_eq_false',Int.toNat_natCast,q8,List.length_set,List.length_cons,List.length_nil]
  rw [c3q hs]
  refine ⟨fun c=>?_,fun c=>?_⟩
  · have hi:i<v.length:=by omega
    have hb:=hv _ (M8 (d:=0) hi)
    have h1:=a5Y (fun x hx=>(hv x hx).1) (a:=s) i k1
    have h2:=b4n hv (a:=s) i k1
    have next:=ih (i+1) hi (by omega)
    rw [a2c] at next
    by_cases e:hasB s i=true
    · rw [if_pos e] at next ⊢
      rw [Int.mul_one]
      exact ⟨by omega,fun _=>⟨by omega,fun _=>⟨by omega,fun _=>⟨by omega,fun _=>⟨by omega,fun _=>next⟩⟩⟩⟩⟩
    · rw [if_neg e] at next ⊢
      rw [Int.mul_zero]
      exact ⟨by omega,fun _=>⟨by omega,fun _=>⟨by omega,fun _=>⟨by omega,fun _=>⟨by omega,fun _=>next⟩⟩⟩⟩⟩
  · obtain rfl:i=v.length:=by omega
    rfl
def T4 (s t:Int):Bool:=decide (Q7 .u16 s t=0)
def P7 (l:List Int) (s:Int):Bool:=a7u s l
def b6i:p7:={ ps:=[.v D3,.rd D3],rs:=[.bool],pre:=fun _=>True,fn:=fun x=>(T4 x.2.1 x.1,()),out:=fun _=>() }
noncomputable def b7a:Env:={ P:=Try.prog,tt:=tt,A3:=[],res:=[Go.ResultVar.tmp 3],rs:=[Ty.bool],ps:=[PK.v (Ty.int IntKind.u16),PK.rd (Ty.int IntKind.u16)],x7:=[],nt:=8 }
theorem b22:u5 b7a:=w7 p9 trivial
theorem b2y:y9 b7a Try.f269:=⟨rfl,rfl⟩
theorem c2l (x0:Int) (x1:Int):exec b7a 1000 [.code (b8 Try.prog 269)] (s6 b6i.ps ((x0,x1,()))) =
  .ret ((decide (Q7 IntKind.u16 x1 x0=(0:Int)),())):=by kernel_rfl
theorem b3U:b6i.Valid Try.prog 269:=by
  refine p7.o8 b22 rfl rfl Try.func269 (c:=b8 Try.prog 269) rfl rfl b2y rfl ?_
  rintro ⟨(t:Int),(s:Int),⟨⟩⟩ - -
  refine j8 (n:=1000) b22 b2y ?_
  refine g9 (c2l t s) ?_
  rfl
def b6l:p7:={ ps:=[.v (.b7 false D3),.s8 269 [D3]],rs:=[y8],pre:=fun x=>True,fn:=fun x=>(idxOf (T4 x.2.1.1) x.1,()),out:=fun _=>() }
noncomputable def b0E:Env:={ P:=Try.prog,tt:=tt,A3:=[(269,b6i)],res:=[Go.ResultVar.tmp 4],rs:=[Ty.int IntKind.i64],ps:=[PK.v (Ty.b7 false (Ty.int IntKind.u16)),PK.s8 269 [Ty.int IntKind.u16]],x7:=[(2,[(0,none),(1,none),(7,none),(8,none)])],nt:=19 }
theorem a6Y:u5 b0E:=w7 p9 ⟨b3U,trivial⟩
theorem a6S:y9 b0E Try.f313:=⟨rfl,rfl⟩
theorem c2o (x0:List Int) (x1c0:Int):exec b0E 1000 [.code (b8 Try.prog 313)] (s6 b6l.ps ((x0,(x1c0,()),()))) =
  .cut (e8 (b8 Try.prog 313) 2).1 (e8 (b8 Try.prog 313) 2).2 (St.mk [(0,AV.val (Ty.b7 false (Ty.int IntKind.u16)) x0),(1,AV.s8 269 (AV.cons (AV.C5 (Ty.int IntKind.u16) x1c0) AV.nil)),(7,AV.val (Ty.int IntKind.i64) (↑(List.length x0):Int)),(8,AV.val (Ty.int IntKind.i64) (0:Int))] []):=by kernel_rfl
def b25 (v0:List Int) (v1a:Int) (v7:Int) (v8:Int):St:=St.mk [(0,AV.val (Ty.b7 false (Ty.int IntKind.u16)) v0),(1,AV.s8 269 (AV.cons (AV.C5 (Ty.int IntKind.u16) v1a) AV.nil)),(7,AV.val (Ty.int IntKind.i64) v7),(8,AV.val (Ty.int IntKind.i64) v8)] []
theorem c0A (v0:List Int) (v1a:Int) (v7:Int) (v8:Int):exec b0E 1000 (.code (e8 (b8 Try.prog 313) 2).1::.inLoop (e8 (b8 Try.prog 313) 2).1::(e8 (b8 Try.prog 313) 2).2) (b25 v0 v1a v7 v8) =
  cond (decide (v8<v7)) (.d8 ((0:Int)≤v8∧v8<(↑(List.length v0):Int)) (.d8 (True) (cond (T4 v1a (List.getD v0 (Int.toNat v8) (0:Int))) (.ret ((v8,()))) (.d8 (u7 IntKind.i64 (v8+(1:Int))) (.cut (e8 (b8 Try.prog 313) 2).1 (e8 (b8 Try.prog 313) 2).2 (St.mk [(0,AV.val (Ty.b7 false (Ty.int IntKind.u16)) v0),(1,AV.s8 269 (AV.cons (AV.C5 (Ty.int IntKind.u16) v1a) AV.nil)),(7,AV.val (Ty.int IntKind.i64) v7),(8,AV.val (Ty.int IntKind.i64) (v8+(1:Int)))] [])))))) (.ret (((-1:Int),()))):=by kernel_rfl
theorem b3Y:b6l.Valid Try.prog 313:=by
  refine p7.o8 a6Y rfl rfl Try.func313 (c:=b8 Try.prog 313) rfl rfl a6S rfl ?_
  rintro ⟨(l:List (Int)),⟨(s:Int),⟨⟩⟩,⟨⟩⟩ - ⟨⟨hl,-⟩,-⟩
  have hl:l.length≤9223372036854775807:=hl
  refine j8 (n:=1000) a6Y a6S ?_
  refine g9 (c2o l s) ?_
  refine Reach.K9 a6Y a6S (fun i:Nat=>b25 l s (l.length:Int) (i:Int)) (fun i=>i≤l.length∧idxOf (T4 s) l=Q5 (T4 s) (l.drop i) i)
    (fun i=>l.length - i) 1000 (fun _=>⟨u3 rfl,u3 rfl⟩) ?_ 0 ⟨by omega,rfl⟩
  rintro i ⟨k1,k2⟩ - ih
  refine g9 (c0A ..) ?_
  simp only [o5,Tree.holds,true_and,true_implies,decide_eq_true_eq,decide_eq_false_iff_not,Bool.not_eq_true',Bool.not_eq_false',Int.toNat_natCast,q8,List.length_set,List.length_cons,List.length_nil]
  refine ⟨fun h=>?_,fun h=>?_⟩
  · rw [S9 (show i<l.length by omega) 0,Q5] at k2
    refine ⟨by omega,fun _=>⟨fun c=>?_,fun c=>⟨by omega,fun _=>ih (i+1) ⟨by omega,?_⟩ (by omega)⟩⟩⟩
    · show (((i:Int),()):Int×Unit)=(idxOf (T4 s) l,())
      rw [k2,if_pos (show (T4 s) (l.getD i 0)=true from c)]
    · rw [k2,if_neg (show ¬ (T4 s) (l.getD i 0)=true from fun h9=>Bool.noConfusion (Eq.trans (Eq.symm h9) c))]
  · rw [List.drop_eq_nil_of_le (by omega)] at k2
    show (((-1:Int),()):Int×Unit)=(idxOf (T4 s) l,())
    rw [k2]; rfl
def b6v:p7:={ ps:=[.v (.b7 false D3),.s8 269 [D3]],rs:=[.bool],pre:=fun x=>True,fn:=fun x=>(List.any (α:=Int) x.1 (T4 x.2.1.1),()),out:=fun _=>() }
noncomputable def b7k:Env:={ P:=Try.prog,tt:=tt,A3:=[(313,b6l)],res:=[Go.ResultVar.tmp 4],rs:=[Ty.bool],ps:=[PK.v (Ty.b7 false (Ty.int IntKind.u16)),PK.s8 269 [Ty.int IntKind.u16]],x7:=[],nt:=9 }
theorem b3f:u5 b7k:=w7 p9 ⟨b3Y,trivial⟩
theorem b2E:y9 b7k Try.f268:=⟨rfl,rfl⟩
theorem c2z (x0:List Int) (x1c0:Int):exec b7k 1000 [.code (b8 Try.prog 268)] (s6 b6v.ps ((x0,(x1c0,()),()))) =
  .d8 (True) (.ret ((decide ((0:Int)≤idxOf (T4 x1c0) x0),()))):=by kernel_rfl
theorem b35:b6v.Valid Try.prog 268:=by
  refine p7.o8 b3f rfl rfl Try.func268 (c:=b8 Try.prog 268) rfl rfl b2E rfl ?_
  rintro ⟨(l:List (Int)),⟨(s:Int),⟨⟩⟩,⟨⟩⟩ - -
  refine j8 (n:=1000) b3f b2E ?_
  refine g9 (c2z l s) ?_
  refine ⟨trivial,fun _=>?_⟩
  show ((decide (0≤idxOf (T4 s) l),()):Bool×Unit)=(l.any (T4 s),())
  rw [a5L]
def b1O:p7:={ ps:=[.v D3,.v (.b7 false D3)],rs:=[.bool],pre:=fun _=>True,fn:=fun x=>(a7u x.1 x.2.1,()),out:=fun _=>() }
noncomputable def b21:Env:={ P:=Try.prog,tt:=tt,A3:=[(268,b6v)],res:=[Go.ResultVar.tmp 4],rs:=[Ty.bool],ps:=[PK.v (Ty.int IntKind.u16),PK.v (Ty.b7 false (Ty.int IntKind.u16))],x7:=[],nt:=9 }
theorem a9V:u5 b21:=w7 p9 ⟨b35,trivial⟩
theorem a9L:y9 b21 Try.f202:=⟨rfl,rfl⟩
theorem c0u (x0:Int) (x1:List Int):exec b21 1000 [.code (b8 Try.prog 202)] (s6 b1O.ps ((x0,x1,()))) =
  .d8 (True) (.ret ((!List.any x1 (T4 x0),()))):=by kernel_rfl
theorem b1N:b1O.Valid Try.prog 202:=by
  refine p7.o8 a9V rfl rfl Try.func202 (c:=b8 Try.prog 202) rfl rfl a9L rfl ?_
  rintro ⟨(s:Int),(l:List Int),⟨⟩⟩ - -
  refine j8 (n:=1000) a9V a9L ?_
  refine g9 (c0u s l) ?_
  exact ⟨trivial,fun _=>rfl⟩







def b6s:p7:={ ps:=[.v D3,.rd (.b7 false D3)],rs:=[.bool],pre:=fun _=>True,fn:=fun x=>(P7 x.2.1 x.1,()),out:=fun _=>() }
noncomputable def b7h:Env:={ P:=Try.prog,tt:=tt,A3:=[(202,b1O)],res:=[Go.ResultVar.tmp 3],rs:=[Ty.bool],ps:=[PK.v (Ty.int IntKind.u16),PK.rd (Ty.b7 false (Ty.int IntKind.u16))],x7:=[],nt:=7 }
theorem b3b:u5 b7h:=w7 p9 ⟨b1N,trivial⟩
theorem b2B:y9 b7h Try.f201:=⟨rfl,rfl⟩
theorem c2w (x0:Int) (x1:List Int):exec b7h 1000 [.code (b8 Try.prog 201)] (s6 b6s.ps ((x0,x1,()))) =
  .d8 (True) (.ret ((a7u x0 x1,()))):=by kernel_rfl
theorem b32:b6s.Valid Try.prog 201:=by
  refine p7.o8 b3b rfl rfl Try.func201 (c:=b8 Try.prog 201) rfl rfl b2B rfl ?_
  rintro ⟨(s:Int),(l:List Int),⟨⟩⟩ - -
  refine j8 (n:=1000) b3b b2B ?_
  refine g9 (c2w s l) ?_
  exact ⟨trivial,fun _=>rfl⟩









def a11 (p:Int→Bool) (i:Nat):List Int:=((List.range i).map (fun i:Nat=>(i:Int))).filter p
theorem a7O {p:Int→Bool} {i:Nat}:a11 p (i+1)=if p (i:Int)=true then a11 p i++[(i:Int)] else a11 p i:=by
  rw [a11,List.range_succ,List.map_append,List.filter_append]
  split
  · rename_i h
    simp only [List.map_cons,List.map_nil,List.filter_cons_of_pos h,List.filter_nil]; rfl
  · rename_i h
    simp only [List.map_cons,List.map_nil,List.filter_cons_of_neg h,List.filter_nil,List.append_nil]; rfl
theorem a9C {p:Int→Bool} (i:Nat):(a11 p i).length≤i:=by
  have:=List.length_filter_le p ((List.range i).map (fun i:Nat=>(i:Int)))
  rw [List.length_map,List.length_range] at this
  exact this
theorem a8j {n:Nat} (h:n≤10):2^n≤1024:=Nat.pow_le_pow_right (n:=2) (by omega) h
theorem b4q {n:Nat} (h:n≤10):IntKind.wrap .u16 (1*2^min (Int.toNat (n:Int)) (IntKind.bits .u16))=((2^n:Nat):Int):=by
  have hp:=a8j h
  have hm:min (Int.toNat (n:Int)) (IntKind.bits .u16)=n:=by rw [Int.toNat_natCast]; show min n 16=n; omega
  have e:((2^n:Nat):Int)=2^n:=by push_cast; rfl
  rw [hm,Int.one_mul,← e]
  exact a67 (by omega)
def b6h:p7:={ ps:=[.v y8,.s8 201 [.b7 false D3]],rs:=[.b7 true D3],pre:=fun x=>LE.le (α:=Int) 1 x.1∧LE.le (α:=Int) x.1 10∧True,fn:=fun x=>(a0I (Int.toNat x.1) (P7 x.2.1.1),()),out:=fun _=>() }
noncomputable def a78:Env:={ P:=Try.prog,tt:=tt,A3:=[(201,b6s),(267,b1L),(266,a1D)],res:=[Go.ResultVar.tmp 4],rs:=[Ty.b7 true (Ty.int IntKind.u16)],ps:=[PK.v (Ty.int IntKind.i64),PK.s8 201 [Ty.b7 false (Ty.int IntKind.u16)]],x7:=[(3,[(1,none),(5,some (Ty.b7 true (Ty.int IntKind.u16))),(11,none),(12,none)]),(11,[(7,some (Ty.b7 true (Ty.int IntKind.u16))),(25,some (Ty.b7 true (Ty.int IntKind.u16))),(26,none),(27,none)])],nt:=41 }
theorem a4q:u5 a78:=w7 p9 ⟨b32,a49,a0T,trivial⟩
theorem a4m:y9 a78 Try.f200:=⟨rfl,rfl⟩
theorem c2k (x0:Int) (x1c0:List Int):exec a78 1000 [.code (b8 Try.prog 200)] (s6 b6h.ps ((x0,(x1c0,()),()))) =
  .d8 ((0:Int)≤x0) (.cut (e8 (b8 Try.prog 200) 3).1 (e8 (b8 Try.prog 200) 3).2 (St.mk [(1,AV.s8 201 (AV.cons (AV.C5 (Ty.b7 false (Ty.int IntKind.u16)) x1c0) AV.nil)),(5,AV.at_ 1000005 []),(11,AV.val (Ty.int IntKind.u16) (IntKind.wrap IntKind.u16 ((1:Int)*(2:Int)^min (Int.toNat x0) (IntKind.bits IntKind.u16)))),(12,AV.val (Ty.int IntKind.u16) (0:Int))] [(1000005,i6.own (Ty.b7 true (Ty.int IntKind.u16)) [])])):=by kernel_rfl
def b20 (v1a:List Int) (v11:Int) (v12:Int) (o1000005:List Int):St:=St.mk [(1,AV.s8 201 (AV.cons (AV.C5 (Ty.b7 false (Ty.int IntKind.u16)) v1a) AV.nil)),(5,AV.at_ 1000005 []),(11,AV.val (Ty.int IntKind.u16) v11),(12,AV.val (Ty.int IntKind.u16) v12)] [(1000005,i6.own (Ty.b7 true (Ty.int IntKind.u16)) o1000005)]
theorem c0t (v1a:List Int) (v11:Int) (v12:Int) (o1000005:List Int):exec a78 1000 (.code (e8 (b8 Try.prog 200) 3).1::.inLoop (e8 (b8 Try.prog 200) 3).1::(e8 (b8 Try.prog 200) 3).2) (b20 v1a v11 v12 o1000005) =
  cond (decide (v12<v11)) (.d8 (True) (cond (P7 v1a v12) (.d8 (List.length o1000005+List.length (List.set [(0:Int)] (Int.toNat (↑0:Int)) v12)≤140737488355328∧(List.length o1000005+List.length (List.set [(0:Int)] (Int.toNat (↑0:Int)) v12))*Ty.wb (Ty.int IntKind.u16)≤140737488355328) (.cut (e8 (b8 Try.prog 200) 3).1 (e8 (b8 Try.prog 200) 3).2 (St.mk [(1,AV.s8 201 (AV.cons (AV.C5 (Ty.b7 false (Ty.int IntKind.u16)) v1a) AV.nil)),(5,AV.at_ 1000005 []),(11,AV.val (Ty.int IntKind.u16) v11),(12,AV.val (Ty.int IntKind.u16) (IntKind.wrap IntKind.u16 (v12+(1:Int))))] [(1000005,i6.own (Ty.b7 true (Ty.int IntKind.u16)) (o1000005++List.set [(0:Int)] (Int.toNat (↑0:Int)) v12))]))) (.cut (e8 (b8 Try.prog 200) 3).1 (e8 (b8 Try.prog 200) 3).2 (St.mk [(1,AV.s8 201 (AV.cons (AV.C5 (Ty.b7 false (Ty.int IntKind.u16)) v1a) AV.nil)),(5,AV.at_ 1000005 []),(11,AV.val (Ty.int IntKind.u16) v11),(12,AV.val (Ty.int IntKind.u16) (IntKind.wrap IntKind.u16 (v12+(1:Int))))] [(1000005,i6.own (Ty.b7 true (Ty.int IntKind.u16)) o1000005)])))) (.d8 (List.length o1000005≤1048576∧(∀ (a:Ty.den D3),a∈o1000005→True)∧∀ (a:Ty.den D3),a∈o1000005→∀ (b:Ty.den D3),b∈o1000005→G1 G5 a b=false→G1 G5 b a=false→a=b) (.cut (e8 (b8 Try.prog 200) 11).1 (e8 (b8 Try.prog 200) 11).2 (St.mk [(7,AV.at_ 1000007 []),(25,AV.at_ 1000025 []),(26,AV.val (Ty.int IntKind.i64) (↑(List.length (E4 (G1 G5) o1000005)):Int)),(27,AV.val (Ty.int IntKind.i64) (0:Int))] [(1000007,i6.own (Ty.b7 true (Ty.int IntKind.u16)) []),(1000025,i6.own (Ty.b7 true (Ty.int IntKind.u16)) (E4 (G1 G5) o1000005))]))):=by kernel_rfl
def a9U (v26:Int) (v27:Int) (o1000007:List Int) (o1000025:List Int):St:=St.mk [(7,AV.at_ 1000007 []),(25,AV.at_ 1000025 []),(26,AV.val (Ty.int IntKind.i64) v26),(27,AV.val (Ty.int IntKind.i64) v27)] [(1000007,i6.own (Ty.b7 true (Ty.int IntKind.u16)) o1000007),(1000025,i6.own (Ty.b7 true (Ty.int IntKind.u16)) o1000025)]
theorem b86 (v26:Int) (v27:Int) (o1000007:List Int) (o1000025:List Int):exec a78 1000 (.code (e8 (b8 Try.prog 200) 11).1::.inLoop (e8 (b8 Try.prog 200) 11).1::(e8 (b8 Try.prog 200) 11).2) (a9U v26 v27 o1000007 o1000025) =
  cond (decide (v27<v26)) (.d8 ((0:Int)≤v27∧v27<(↑(List.length o1000025):Int)) (.d8 (True) (cond (!a0P o1000007 (List.getD o1000025 (Int.toNat v27) (0:Int))) (.d8 (List.length o1000007+List.length (List.set [(0:Int)] (Int.toNat (↑0:Int)) (List.getD o1000025 (Int.toNat v27) (0:Int)))≤140737488355328∧(List.length o1000007+List.length (List.set [(0:Int)] (Int.toNat (↑0:Int)) (List.getD o1000025 (Int.toNat v27) (0:Int))))*Ty.wb (Ty.int IntKind.u16)≤140737488355328) (.d8 (u7 IntKind.i64 (v27+(1:Int))) (.cut (e8 (b8 Try.prog 200) 11).1 (e8 (b8 Try.prog 200) 11).2 (St.mk [(7,AV.at_ 1000007 []),(25,AV.at_ 1000025 []),(26,AV.val (Ty.int IntKind.i64) v26),(27,AV.val (Ty.int IntKind.i64) (v27+(1:Int)))] [(1000007,i6.own (Ty.b7 true (Ty.int IntKind.u16)) (o1000007++List.set [(0:Int)] (Int.toNat (↑0:Int)) (List.getD o1000025 (Int.toNat v27) (0:Int)))),(1000025,i6.own (Ty.b7 true (Ty.int IntKind.u16)) o1000025)])))) (.d8 (u7 IntKind.i64 (v27+(1:Int))) (.cut (e8 (b8 Try.prog 200) 11).1 (e8 (b8 Try.prog 200) 11).2 (St.mk [(7,AV.at_ 1000007 []),(25,AV.at_ 1000025 []),(26,AV.val (Ty.int IntKind.i64) v26),(27,AV.val (Ty.int IntKind.i64) (v27+(1:Int)))] [(1000007,i6.own (Ty.b7 true (Ty.int IntKind.u16)) o1000007),(1000025,i6.own (Ty.b7 true (Ty.int IntKind.u16)) o1000025)])))))) (.ret ((o1000007,()))):=by kernel_rfl
theorem b3T:b6h.Valid Try.prog 200:=by
  refine p7.o8 a4q rfl rfl Try.func200 (c:=b8 Try.prog 200) rfl rfl a4m rfl ?_
  rintro ⟨(n0:Int),⟨(l:List Int),⟨⟩⟩,⟨⟩⟩ ⟨(h1:1≤n0),(h2:n0≤10),(hc:True)⟩ -
  obtain ⟨n,rfl⟩:∃ n:Nat,n0=n:=⟨n0.toNat,by omega⟩
  have hn:n≤10:=by omega
  refine j8 (n:=1000) a4q a4m ?_
  refine g9 (c2k (n:Int) l) ?_
  refine ⟨by omega,fun _=>?_⟩
  rw [b4q hn]
  have hp:2^n≤1024:=a8j hn
  refine Reach.K9 a4q a4m (fun i:Nat=>b20 l ((2^n:Nat):Int) (i:Int) (a11 (P7 l) i)) (fun i=>i≤2^n) (fun i=>2^n - i) 1000 (fun _=>⟨u3 rfl,u3 rfl⟩) ?_ 0 (Nat.zero_le _)
  rintro i k1 - ih
  have k1:i≤2^n:=k1
  refine g9 (c0t ..) ?_
  have hw:IntKind.wrap .u16 ((i:Int)+1)=((i+1:Nat):Int):=by rw [show (i:Int)+1=((i+1:Nat):Int) by omega]; exact a67 (by omega)
  have hl:=a9C (p:=P7 l) i
  simp only [o5,Tree.holds,true_and,true_implies,decide_eq_true_eq,decide_eq_false_iff_not,Bool.not_eq_true',Bool.not_eq_false',Int.toNat_natCast,q8,List.length_set,List.length_cons,List.length_nil,a69]
  rw [hw]
  refine ⟨fun c=>?_,fun c=>⟨⟨by omega,fun _ _=>trivial,fun a _ b _=>c2X⟩,fun _=>?_⟩⟩
  · have next:=ih (i+1) (by show i+1≤2^n; omega) (by omega)
    rw [a7O] at next
    refine ⟨fun d=>?_,fun d=>?_⟩
    · have d:(P7 l) (i:Int)=true:=d
      rw [if_pos d] at next
      have e1:([0]:List Int).set (Int.toNat 0) (i:Int)=[(i:Int)]:=rfl
      rw [e1]
      exact ⟨by omega,fun _=>next⟩
    · have d:(P7 l) (i:Int)=false:=d
      rw [if_neg (by rw [d]; simp)] at next
      exact next
  · obtain rfl:i=2^n:=by omega
    have hall:a11 (P7 l) (2^n)=a1k n (P7 l):=rfl
    rw [hall] at hl ⊢
    have hsl:(E4 (G1 G5) (a1k n (P7 l))).length≤1024:=by rw [(T6 _ _).length_eq]; omega
    show _
    have hfn:a0I (Int.toNat (n:Int)) (P7 l)=N9 (E4 (G1 G5) (a1k n (P7 l))) []:=rfl
    generalize hL:E4 (G1 G5) (a1k n (P7 l))=L at *
    refine Reach.K9 a4q a4m (fun s:Nat×List Int=>a9U (L.length:Int) (s.1:Int) s.2 L) (fun s=>s.1≤L.length∧s.2.length≤s.1∧N9 L []=N9 (L.drop s.1) s.2) (fun s=>L.length - s.1) 1000 (fun _=>⟨u3 rfl,u3 rfl⟩) ?_ (0,[]) ⟨Nat.zero_le _,Nat.le_refl _,rfl⟩
    rintro ⟨j,out⟩ ⟨(k2:j≤L.length),(k3:out.length≤j),(k4:N9 L []=N9 (L.drop j) out)⟩ - ih2
    refine g9 (b86 ..) ?_
    simp only [o5,Tree.holds,true_and,true_implies,decide_eq_true_eq,decide_eq_false_iff_not,Bool.not_eq_true',Bool.not_eq_false',Int.toNat_natCast,q8,List.length_set,List.length_cons,List.length_nil,a69]
    refine ⟨fun c2=>⟨by omega,fun _=>?_⟩,fun c2=>?_⟩
    · have hj:j<L.length:=by omega
      rw [S9 hj 0,N9] at k4
      refine ⟨fun d=>?_,fun d=>⟨by omega,fun _=>?_⟩⟩
      · rw [if_neg (by rw [d]; simp)] at k4
        have e1:([0]:List Int).set (Int.toNat 0) (L.getD j 0)=[L.getD j 0]:=rfl
        rw [e1]
        exact ⟨by omega,fun _=>⟨by omega,fun _=>ih2 (j+1,out++[L.getD j 0]) ⟨hj,by simp only [List.length_append,List.length_singleton]; omega,k4⟩ (by show L.length - (j+1)<L.length - j; omega)⟩⟩
      · rw [if_pos d] at k4
        exact ih2 (j+1,out) ⟨hj,by show out.length≤j+1; omega,k4⟩ (by show L.length - (j+1)<L.length - j; omega)
    · rw [List.drop_eq_nil_of_le (by omega),N9] at k4
      show ((out,()):List Int×Unit)=(a0I (Int.toNat (n:Int)) (P7 l),())
      rw [hfn,k4]

def b6g:p7:={ ps:=[.v y8,.s8 206 [.b7 false y8,y8]],rs:=[.b7 true D3],pre:=fun x=>LE.le (α:=Int) 1 x.1∧LE.le (α:=Int) x.1 10∧b0H x.2.1.1,fn:=fun x=>(a0I (Int.toNat x.1) (M0 x.2.1.1 x.2.1.2.1),()),out:=fun _=>() }
noncomputable def a75:Env:={ P:=Try.prog,tt:=tt,A3:=[(206,b53),(267,b1L),(266,a1D)],res:=[Go.ResultVar.tmp 4],rs:=[Ty.b7 true (Ty.int IntKind.u16)],ps:=[PK.v (Ty.int IntKind.i64),PK.s8 206 [Ty.b7 false (Ty.int IntKind.i64),Ty.int IntKind.i64]],x7:=[(3,[(1,none),(5,some (Ty.b7 true (Ty.int IntKind.u16))),(11,none),(12,none)]),(11,[(7,some (Ty.b7 true (Ty.int IntKind.u16))),(25,some (Ty.b7 true (Ty.int IntKind.u16))),(26,none),(27,none)])],nt:=41 }
theorem a4p:u5 a75:=w7 p9 ⟨b3H,a49,a0T,trivial⟩
theorem a4l:y9 a75 Try.f200:=⟨rfl,rfl⟩
theorem c2j (x0:Int) (x1c0:List Int) (x1c1:Int):exec a75 1000 [.code (b8 Try.prog 200)] (s6 b6g.ps ((x0,(x1c0,x1c1,()),()))) =
  .d8 ((0:Int)≤x0) (.cut (e8 (b8 Try.prog 200) 3).1 (e8 (b8 Try.prog 200) 3).2 (St.mk [(1,AV.s8 206 (AV.cons (AV.C5 (Ty.b7 false (Ty.int IntKind.i64)) x1c0) (AV.cons (AV.C5 (Ty.int IntKind.i64) x1c1) AV.nil))),(5,AV.at_ 1000005 []),(11,AV.val (Ty.int IntKind.u16) (IntKind.wrap IntKind.u16 ((1:Int)*(2:Int)^min (Int.toNat x0) (IntKind.bits IntKind.u16)))),(12,AV.val (Ty.int IntKind.u16) (0:Int))] [(1000005,i6.own (Ty.b7 true (Ty.int IntKind.u16)) [])])):=by kernel_rfl
def b2Z (v1a:List Int) (v1ba:Int) (v11:Int) (v12:Int) (o1000005:List Int):St:=St.mk [(1,AV.s8 206 (AV.cons (AV.C5 (Ty.b7 false (Ty.int IntKind.i64)) v1a) (AV.cons (AV.C5 (Ty.int IntKind.i64) v1ba) AV.nil))),(5,AV.at_ 1000005 []),(11,AV.val (Ty.int IntKind.u16) v11),(12,AV.val (Ty.int IntKind.u16) v12)] [(1000005,i6.own (Ty.b7 true (Ty.int IntKind.u16)) o1000005)]
theorem c0s (v1a:List Int) (v1ba:Int) (v11:Int) (v12:Int) (o1000005:List Int):exec a75 1000 (.code (e8 (b8 Try.prog 200) 3).1::.inLoop (e8 (b8 Try.prog 200) 3).1::(e8 (b8 Try.prog 200) 3).2) (b2Z v1a v1ba v11 v12 o1000005) =
  cond (decide (v12<v11)) (.d8 (b0H v1a) (cond (M0 v1a v1ba v12) (.d8 (List.length o1000005+List.length (List.set [(0:Int)] (Int.toNat (↑0:Int)) v12)≤140737488355328∧(List.length o1000005+List.length (List.set [(0:Int)] (Int.toNat (↑0:Int)) v12))*Ty.wb (Ty.int IntKind.u16)≤140737488355328) (.cut (e8 (b8 Try.prog 200) 3).1 (e8 (b8 Try.prog 200) 3).2 (St.mk [(1,AV.s8 206 (AV.cons (AV.C5 (Ty.b7 false (Ty.int IntKind.i64)) v1a) (AV.cons (AV.C5 (Ty.int IntKind.i64) v1ba) AV.nil))),(5,AV.at_ 1000005 []),(11,AV.val (Ty.int IntKind.u16) v11),(12,AV.val (Ty.int IntKind.u16) (IntKind.wrap IntKind.u16 (v12+(1:Int))))] [(1000005,i6.own (Ty.b7 true (Ty.int IntKind.u16)) (o1000005++List.set [(0:Int)] (Int.toNat (↑0:Int)) v12))]))) (.cut (e8 (b8 Try.prog 200) 3).1 (e8 (b8 Try.prog 200) 3).2 (St.mk [(1,AV.s8 206 (AV.cons (AV.C5 (Ty.b7 false (Ty.int IntKind.i64)) v1a) (AV.cons (AV.C5 (Ty.int IntKind.i64) v1ba) AV.nil))),(5,AV.at_ 1000005 []),(11,AV.val (Ty.int IntKind.u16) v11),(12,AV.val (Ty.int IntKind.u16) (IntKind.wrap IntKind.u16 (v12+(1:Int))))] [(1000005,i6.own (Ty.b7 true (Ty.int IntKind.u16)) o1000005)])))) (.d8 (List.length o1000005≤1048576∧(∀ (a:Ty.den D3),a∈o1000005→True)∧∀ (a:Ty.den D3),a∈o1000005→∀ (b:Ty.den D3),b∈o1000005→G1 G5 a b=false→G1 G5 b a=false→a=b) (.cut (e8 (b8 Try.prog 200) 11).1 (e8 (b8 Try.prog 200) 11).2 (St.mk [(7,AV.at_ 1000007 []),(25,AV.at_ 1000025 []),(26,AV.val (Ty.int IntKind.i64) (↑(List.length (E4 (G1 G5) o1000005)):Int)),(27,AV.val (Ty.int IntKind.i64) (0:Int))] [(1000007,i6.own (Ty.b7 true (Ty.int IntKind.u16)) []),(1000025,i6.own (Ty.b7 true (Ty.int IntKind.u16)) (E4 (G1 G5) o1000005))]))):=by kernel_rfl
def a9T (v26:Int) (v27:Int) (o1000007:List Int) (o1000025:List Int):St:=St.mk [(7,AV.at_ 1000007 []),(25,AV.at_ 1000025 []),(26,AV.val (Ty.int IntKind.i64) v26),(27,AV.val (Ty.int IntKind.i64) v27)] [(1000007,i6.own (Ty.b7 true (Ty.int IntKind.u16)) o1000007),(1000025,i6.own (Ty.b7 true (Ty.int IntKind.u16)) o1000025)]
theorem b85 (v26:Int) (v27:Int) (o1000007:List Int) (o1000025:List Int):exec a75 1000 (.code (e8 (b8 Try.prog 200) 11).1::.inLoop (e8 (b8 Try.prog 200) 11).1::(e8 (b8 Try.prog 200) 11).2) (a9T v26 v27 o1000007 o1000025) =
  cond (decide (v27<v26)) (.d8 ((0:Int)≤v27∧v27<(↑(List.length o1000025):Int)) (.d8 (True) (cond (!a0P o1000007 (List.getD o1000025 (Int.toNat v27) (0:Int))) (.d8 (List.length o1000007+List.length (List.set [(0:Int)] (Int.toNat (↑0:Int)) (List.getD o1000025 (Int.toNat v27) (0:Int)))≤140737488355328∧(List.length o1000007+List.length (List.set [(0:Int)] (Int.toNat (↑0:Int)) (List.getD o1000025 (Int.toNat v27) (0:Int))))*Ty.wb (Ty.int IntKind.u16)≤140737488355328) (.d8 (u7 IntKind.i64 (v27+(1:Int))) (.cut (e8 (b8 Try.prog 200) 11).1 (e8 (b8 Try.prog 200) 11).2 (St.mk [(7,AV.at_ 1000007 []),(25,AV.at_ 1000025 []),(26,AV.val (Ty.int IntKind.i64) v26),(27,AV.val (Ty.int IntKind.i64) (v27+(1:Int)))] [(1000007,i6.own (Ty.b7 true (Ty.int IntKind.u16)) (o1000007++List.set [(0:Int)] (Int.toNat (↑0:Int)) (List.getD o1000025 (Int.toNat v27) (0:Int)))),(1000025,i6.own (Ty.b7 true (Ty.int IntKind.u16)) o1000025)])))) (.d8 (u7 IntKind.i64 (v27+(1:Int))) (.cut (e8 (b8 Try.prog 200) 11).1 (e8 (b8 Try.prog 200) 11).2 (St.mk [(7,AV.at_ 1000007 []),(25,AV.at_ 1000025 []),(26,AV.val (Ty.int IntKind.i64) v26),(27,AV.val (Ty.int IntKind.i64) (v27+(1:Int)))] [(1000007,i6.own (Ty.b7 true (Ty.int IntKind.u16)) o1000007),(1000025,i6.own (Ty.b7 true (Ty.int IntKind.u16)) o1000025)])))))) (.ret ((o1000007,()))):=by kernel_rfl
theorem b3S:b6g.Valid Try.prog 200:=by
  refine p7.o8 a4p rfl rfl Try.func200 (c:=b8 Try.prog 200) rfl rfl a4l rfl ?_
  rintro ⟨(n0:Int),⟨(v:List Int),(d8:Int),⟨⟩⟩,⟨⟩⟩ ⟨(h1:1≤n0),(h2:n0≤10),(hc:b0H v)⟩ -
  obtain ⟨n,rfl⟩:∃ n:Nat,n0=n:=⟨n0.toNat,by omega⟩
  have hn:n≤10:=by omega
  refine j8 (n:=1000) a4p a4l ?_
  refine g9 (c2j (n:Int) v d8) ?_
  refine ⟨by omega,fun _=>?_⟩
  rw [b4q hn]
  have hp:2^n≤1024:=a8j hn
  refine Reach.K9 a4p a4l (fun i:Nat=>b2Z v d8 ((2^n:Nat):Int) (i:Int) (a11 (M0 v d8) i)) (fun i=>i≤2^n) (fun i=>2^n - i) 1000 (fun _=>⟨u3 rfl,u3 rfl⟩) ?_ 0 (Nat.zero_le _)
  rintro i k1 - ih
  have k1:i≤2^n:=k1
  refine g9 (c0s ..) ?_
  have hw:IntKind.wrap .u16 ((i:Int)+1)=((i+1:Nat):Int):=by rw [show (i:Int)+1=((i+1:Nat):Int) by omega]; exact a67 (by omega)
  have hl:=a9C (p:=M0 v d8) i
  simp only [o5,Tree.holds,true_and,true_implies,decide_eq_true_eq,decide_eq_false_iff_not,Bool.not_eq_true',Bool.not_eq_false',Int.toNat_natCast,q8,List.length_set,List.length_cons,List.length_nil,a69]
  rw [hw]
  refine ⟨fun c=>⟨hc,fun _=>?_⟩,fun c=>⟨⟨by omega,fun _ _=>trivial,fun a _ b _=>c2X⟩,fun _=>?_⟩⟩
  · have next:=ih (i+1) (by show i+1≤2^n; omega) (by omega)
    rw [a7O] at next
    refine ⟨fun d=>?_,fun d=>?_⟩
    · have d:(M0 v d8) (i:Int)=true:=d
      rw [if_pos d] at next
      have e1:([0]:List Int).set (Int.toNat 0) (i:Int)=[(i:Int)]:=rfl
      rw [e1]
      exact ⟨by omega,fun _=>next⟩
    · have d:(M0 v d8) (i:Int)=false:=d
      rw [if_neg (by rw [d]; simp)] at next
      exact next
  · obtain rfl:i=2^n:=by omega
    have hall:a11 (M0 v d8) (2^n)=a1k n (M0 v d8):=rfl
    rw [hall] at hl ⊢
    have hsl:(E4 (G1 G5) (a1k n (M0 v d8))).length≤1024:=by rw [(T6 _ _).length_eq]; omega
    show _
    have hfn:a0I (Int.toNat (n:Int)) (M0 v d8)=N9 (E4 (G1 G5) (a1k n (M0 v d8))) []:=rfl
    generalize hL:E4 (G1 G5) (a1k n (M0 v d8))=L at *
    refine Reach.K9 a4p a4l (fun s:Nat×List Int=>a9T (L.length:Int) (s.1:Int) s.2 L) (fun s=>s.1≤L.length∧s.2.length≤s.1∧N9 L []=N9 (L.drop s.1) s.2) (fun s=>L.length - s.1) 1000 (fun _=>⟨u3 rfl,u3 rfl⟩) ?_ (0,[]) ⟨Nat.zero_le _,Nat.le_refl _,rfl⟩
    rintro ⟨j,out⟩ ⟨(k2:j≤L.length),(k3:out.length≤j),(k4:N9 L []=N9 (L.drop j) out)⟩ - ih2
    refine g9 (b85 ..) ?_
    simp only [o5,Tree.holds,true_and,true_implies,decide_eq_true_eq,decide_eq_false_iff_not,Bool.not_eq_true',Bool.not_eq_false',Int.toNat_natCast,q8,List.length_set,List.length_cons,List.length_nil,a69]
    refine ⟨fun c2=>⟨by omega,fun _=>?_⟩,fun c2=>?_⟩
    · have hj:j<L.length:=by omega
      rw [S9 hj 0,N9] at k4
      refine ⟨fun d=>?_,fun d=>⟨by omega,fun _=>?_⟩⟩
      · rw [if_neg (by rw [d]; simp)] at k4
        have e1:([0]:List Int).set (Int.toNat 0) (L.getD j 0)=[L.getD j 0]:=rfl
        rw [e1]
        exact ⟨by omega,fun _=>⟨by omega,fun _=>ih2 (j+1,out++[L.getD j 0]) ⟨hj,by simp only [List.length_append,List.length_singleton]; omega,k4⟩ (by show L.length - (j+1)<L.length - j; omega)⟩⟩
      · rw [if_pos d] at k4
        exact ih2 (j+1,out) ⟨hj,by show out.length≤j+1; omega,k4⟩ (by show L.length - (j+1)<L.length - j; omega)
    · rw [List.drop_eq_nil_of_le (by omega),N9] at k4
      show ((out,()):List Int×Unit)=(a0I (Int.toNat (n:Int)) (M0 v d8),())
      rw [hfn,k4]
end Go.Proofs.Ytekbamiaenbhjaa
