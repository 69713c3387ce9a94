/- synod.Chosen. No condition but those named. -/
import Derived.Test.YtekbamiaenbhjaaSynQ
import Derived.Test.YtekbamiaenbhjaaSortS
namespace Go.Proofs.Ytekbamiaenbhjaa
open Go.Ex Go.Sort
set_option maxRecDepth 100000
def b1f:Go.Shelf.Ren:=⟨fun|6=>214|8=>180|9=>276|19=>254|20=>255|21=>316|22=>317|23=>318|24=>319|25=>320|26=>321|27=>322|28=>323|29=>324|31=>294|32=>295|36=>343|37=>344|38=>345|39=>346|41=>353|n=>n,fun|0=>0|3=>3|4=>4|5=>5|9=>9|26=>96|27=>96|29=>9|32=>297|35=>358|36=>359|41=>268|44=>365|46=>367|53=>395|57=>399|63=>421|64=>422|n=>n,fun|n=>n⟩
theorem b9I:Go.Proofs.SlLaysM.n6 Try.prog b1f:={
  mixed:=by kernel_rfl,
  f6:=⟨Try.f214.name,by decide,Try.func214.trans (congrArg some (by kernel_rfl))⟩,
  f8:=Try.func180.trans (congrArg some (by kernel_rfl)),
  f9:=⟨Try.f276.name,by decide,Try.func276.trans (congrArg some (by kernel_rfl))⟩,
  f19:=Try.func254.trans (congrArg some (by kernel_rfl)),
  f20:=Try.func255.trans (congrArg some (by kernel_rfl)),
  f21:=⟨Try.f316.name,by decide,Try.func316.trans (congrArg some (by kernel_rfl))⟩,
  f22:=⟨Try.f317.name,by decide,Try.func317.trans (congrArg some (by kernel_rfl))⟩,
  f23:=⟨Try.f318.name,by decide,Try.func318.trans (congrArg some (by kernel_rfl))⟩,
  f24:=⟨Try.f319.name,by decide,Try.func319.trans (congrArg some (by kernel_rfl))⟩,
  f25:=⟨Try.f320.name,by decide,Try.func320.trans (congrArg some (by kernel_rfl))⟩,
  f26:=⟨Try.f321.name,by decide,Try.func321.trans (congrArg some (by kernel_rfl))⟩,
  f27:=⟨Try.f322.name,by decide,Try.func322.trans (congrArg some (by kernel_rfl))⟩,
  f28:=⟨Try.f323.name,by decide,Try.func323.trans (congrArg some (by kernel_rfl))⟩,
  f29:=⟨Try.f324.name,by decide,Try.func324.trans (congrArg some (by kernel_rfl))⟩,
  f31:=Try.func294.trans (congrArg some (by kernel_rfl)),
  f32:=Try.func295.trans (congrArg some (by kernel_rfl)),
  f36:=⟨Try.f343.name,by decide,Try.func343.trans (congrArg some (by kernel_rfl))⟩,
  f37:=⟨Try.f344.name,by decide,Try.func344.trans (congrArg some (by kernel_rfl))⟩,
  f38:=⟨Try.f345.name,by decide,Try.func345.trans (congrArg some (by kernel_rfl))⟩,
  f39:=⟨Try.f346.name,by decide,Try.func346.trans (congrArg some (by kernel_rfl))⟩,
  f41:=⟨Try.f353.name,by decide,Try.func353.trans (congrArg some (by kernel_rfl))⟩,
  t0:=Try.underlying0,
  a0:=Try.isAgg0,
  z0:=Try.sizeOf0,
  v0:=Try.zeroValue0,
  t3:=Try.underlying3,
  a3:=Try.isAgg3,
  z3:=Try.sizeOf3,
  v3:=Try.zeroValue3,
  t4:=Try.underlying4,
  a4:=Try.isAgg4,
  z4:=Try.sizeOf4,
  v4:=Try.zeroValue4,
  t5:=Try.underlying5,
  a5:=Try.isAgg5,
  z5:=Try.sizeOf5,
  v5:=Try.zeroValue5,
  t9:=Try.underlying9,
  a9:=Try.isAgg9,
  z9:=Try.sizeOf9,
  v9:=Try.zeroValue9,
  t26:=Try.underlying96,
  a26:=Try.isAgg96,
  z26:=Try.sizeOf96,
  v26:=Try.zeroValue96,
  t27:=Try.underlying96,
  a27:=Try.isAgg96,
  z27:=Try.sizeOf96,
  v27:=Try.zeroValue96,
  t29:=Try.underlying9,
  a29:=Try.isAgg9,
  z29:=Try.sizeOf9,
  v29:=Try.zeroValue9,
  t32:=Try.underlying297,
  a32:=Try.isAgg297,
  z32:=Try.sizeOf297,
  v32:=Try.zeroValue297,
  t35:=Try.underlying358,
  a35:=Try.isAgg358,
  z35:=Try.sizeOf358,
  v35:=Try.zeroValue358,
  t36:=Try.underlying359,
  a36:=Try.isAgg359,
  z36:=Try.sizeOf359,
  v36:=Try.zeroValue359,
  t41:=Try.underlying268,
  a41:=Try.isAgg268,
  z41:=Try.sizeOf268,
  v41:=Try.zeroValue268,
  t44:=Try.underlying365,
  a44:=Try.isAgg365,
  z44:=Try.sizeOf365,
  v44:=Try.zeroValue365,
  t46:=Try.underlying367,
  a46:=Try.isAgg367,
  z46:=Try.sizeOf367,
  v46:=Try.zeroValue367,
  t53:=Try.underlying395,
  a53:=Try.isAgg395,
  z53:=Try.sizeOf395,
  v53:=Try.zeroValue395,
  t57:=Try.underlying399,
  a57:=Try.isAgg399,
  z57:=Try.sizeOf399,
  v57:=Try.zeroValue399,
  t63:=Try.underlying421,
  a63:=Try.isAgg421,
  z63:=Try.sizeOf421,
  v63:=Try.zeroValue421,
  t64:=Try.underlying422,
  a64:=Try.isAgg422,
  z64:=Try.sizeOf422,
  v64:=Try.zeroValue422 }
def b8z:p7:=b7K
theorem b1M:b8z.Valid Try.prog 214:=b3q b9I
def a1f:Nat→List (List UInt8)→Nat→Nat→List (List UInt8)×Nat
  | 0,l,k,_=>(l,k)
  | f+1,l,k,j=>if j<l.length then (if l.getD j []=l.getD (j - 1) [] then a1f f l k (j+1) else a1f f (l.set k (l.getD j [])) (k+1) (j+1)) else (l,k)
def a2X:Nat→List (List UInt8)→Nat→List (List UInt8)
  | 0,l,_=>l
  | f+1,l,k=>if k<l.length then (if l.getD k []=l.getD (k - 1) [] then (a1f l.length l k (k+1)).1.take (a1f l.length l k (k+1)).2 else a2X f l (k+1)) else l
def a0R (l:List (List UInt8)):List (List UInt8):=a2X l.length l 1
def b12:p7:={ ps:=[.own (.b7 true .str)],rs:=[.b7 true .str],pre:=fun _=>True,fn:=fun x=>(a0R x.1,()),out:=fun _=>() }
abbrev b5A (n:Nat):List (List UInt8):=List.replicate n []
noncomputable def a5s:Env:={ P:=Try.prog,tt:=tt,A3:=[],res:=[Go.ResultVar.tmp 2],rs:=[Ty.b7 true Ty.str],ps:=[PK.own (Ty.b7 true Ty.str)],x7:=[(4,[(0,some (Ty.b7 true Ty.str)),(3,none)]),(9,[(0,some (Ty.b7 true Ty.str)),(3,none),(4,none),(5,none)])],nt:=61 }
theorem a2N:u5 a5s:=w7 p9 trivial
theorem a2M:y9 a5s Try.f215:=⟨rfl,rfl⟩
theorem c0G (x0:List (List UInt8)):exec a5s 1000 [.code (b8 Try.prog 215)] (s6 b12.ps ((x0,()))) =
  cond (decide ((↑(List.length x0):Int)<(2:Int))) (.ret ((x0,()))) (.cut (e8 (b8 Try.prog 215) 4).1 (e8 (b8 Try.prog 215) 4).2 (St.mk [(0,AV.at_ 1000000 []),(3,AV.val (Ty.int IntKind.i64) (1:Int))] [(1000000,i6.own (Ty.b7 true Ty.str) x0)])):=by kernel_rfl
def a91 (v3:Int) (o1000000:List (List UInt8)):St:=St.mk [(0,AV.at_ 1000000 []),(3,AV.val (Ty.int IntKind.i64) v3)] [(1000000,i6.own (Ty.b7 true Ty.str) o1000000)]
theorem b9a (v3:Int) (o1000000:List (List UInt8)):exec a5s 1000 (.code (e8 (b8 Try.prog 215) 4).1::.inLoop (e8 (b8 Try.prog 215) 4).1::(e8 (b8 Try.prog 215) 4).2) (a91 v3 o1000000) =
  cond (decide (v3<(↑(List.length o1000000):Int))) (.d8 ((0:Int)≤v3∧v3<(↑(List.length o1000000):Int)) (.d8 (u7 IntKind.i64 (v3 - (1:Int))) (.d8 ((0:Int)≤v3 - (1:Int)∧v3 - (1:Int)<(↑(List.length o1000000):Int)) (cond (decide (List.getD o1000000 (Int.toNat v3) []=List.getD o1000000 (Int.toNat (v3 - (1:Int))) [])) (.d8 ((0:Int)≤v3∧v3≤(↑(List.length o1000000):Int)∧(↑(List.length o1000000):Int)≤(↑(List.length o1000000):Int)) (.cut (e8 (b8 Try.prog 215) 9).1 (e8 (b8 Try.prog 215) 9).2 (St.mk [(0,AV.at_ 1000000 []),(3,AV.val (Ty.int IntKind.i64) v3),(4,AV.sub 1000000 [] v3 (↑(List.length o1000000):Int)),(5,AV.val (Ty.int IntKind.i64) (1:Int))] [(1000000,i6.own (Ty.b7 true Ty.str) o1000000)]))) (.d8 (u7 IntKind.i64 (v3+(1:Int))) (.cut (e8 (b8 Try.prog 215) 4).1 (e8 (b8 Try.prog 215) 4).2 (St.mk [(0,AV.at_ 1000000 []),(3,AV.val (Ty.int IntKind.i64) (v3+(1:Int)))] [(1000000,i6.own (Ty.b7 true Ty.str) o1000000)]))))))) (.ret ((o1000000,()))):=by kernel_rfl
def a90 (v3:Int) (v4lo:Int) (v4hi:Int) (v5:Int) (o1000000:List (List UInt8)):St:=St.mk [(0,AV.at_ 1000000 []),(3,AV.val (Ty.int IntKind.i64) v3),(4,AV.sub 1000000 [] v4lo v4hi),(5,AV.val (Ty.int IntKind.i64) v5)] [(1000000,i6.own (Ty.b7 true Ty.str) o1000000)]
theorem b89 (v3:Int) (v4lo:Int) (v4hi:Int) (v5:Int) (o1000000:List (List UInt8)):exec a5s 1000 (.code (e8 (b8 Try.prog 215) 9).1::.inLoop (e8 (b8 Try.prog 215) 9).1::(e8 (b8 Try.prog 215) 9).2) (a90 v3 v4lo v4hi v5 o1000000) =
  cond (decide (v5<v4hi - v4lo)) (.d8 ((0:Int)≤v5∧v5<v4hi - v4lo) (.d8 (u7 IntKind.i64 (v5 - (1:Int))) (.d8 ((0:Int)≤v5 - (1:Int)∧v5 - (1:Int)<v4hi - v4lo) (cond (decide (List.getD o1000000 (Int.toNat (v4lo+v5)) []≠List.getD o1000000 (Int.toNat (v4lo+(v5 - (1:Int)))) [])) (.d8 ((0:Int)≤v5∧v5<v4hi - v4lo) (.d8 ((0:Int)≤v3∧v3<(↑(List.length o1000000):Int)) (.d8 (u7 IntKind.i64 (v3+(1:Int))) (.d8 (u7 IntKind.i64 (v5+(1:Int))) (.cut (e8 (b8 Try.prog 215) 9).1 (e8 (b8 Try.prog 215) 9).2 (St.mk [(0,AV.at_ 1000000 []),(3,AV.val (Ty.int IntKind.i64) (v3+(1:Int))),(4,AV.sub 1000000 [] v4lo v4hi),(5,AV.val (Ty.int IntKind.i64) (v5+(1:Int)))] [(1000000,i6.own (Ty.b7 true Ty.str) (List.set o1000000 (Int.toNat v3) (List.getD o1000000 (Int.toNat (v4lo+v5)) [])))])))))) (.d8 (u7 IntKind.i64 (v5+(1:Int))) (.cut (e8 (b8 Try.prog 215) 9).1 (e8 (b8 Try.prog 215) 9).2 (St.mk [(0,AV.at_ 1000000 []),(3,AV.val (Ty.int IntKind.i64) v3),(4,AV.sub 1000000 [] v4lo v4hi),(5,AV.val (Ty.int IntKind.i64) (v5+(1:Int)))] [(1000000,i6.own (Ty.b7 true Ty.str) o1000000)]))))))) (.d8 ((0:Int)≤v3∧v3≤(↑(List.length o1000000):Int)∧(↑(List.length o1000000):Int)≤(↑(List.length o1000000):Int)) (.d8 ((0:Int)≤(0:Int)∧(0:Int)≤v3∧v3≤(↑(List.length (List.take (Int.toNat v3) o1000000++b5A (Int.toNat ((↑(List.length o1000000):Int) - v3))++List.drop (Int.toNat v3+List.length (b5A (Int.toNat ((↑(List.length o1000000):Int) - v3)))) o1000000)):Int)) (.ret ((y6 (0:Int) v3 (List.take (Int.toNat v3) o1000000++b5A (Int.toNat ((↑(List.length o1000000):Int) - v3))++List.drop (Int.toNat v3+List.length (b5A (Int.toNat ((↑(List.length o1000000):Int) - v3)))) o1000000),()))))):=by kernel_rfl
theorem b8u {f:Nat} {l:List (List UInt8)} {k:Nat} (h:¬ k<l.length):a2X f l k=l:=by
  cases f with
  | zero=>rfl
  | succ f=>rw [a2X,if_neg h]
theorem b8C {f:Nat} {l:List (List UInt8)} {k j:Nat} (h:¬ j<l.length):a1f f l k j=(l,k):=by
  cases f with
  | zero=>rfl
  | succ f=>rw [a1f,if_neg h]
theorem b11:b12.Valid Try.prog 215:=by
  refine p7.o8 a2N rfl rfl Try.func215 (c:=b8 Try.prog 215) rfl rfl a2M rfl ?_
  rintro ⟨(l:List (List UInt8)),⟨⟩⟩ - ⟨⟨hl,-⟩,-⟩
  have hl:l.length≤9223372036854775807:=hl
  refine j8 (n:=1000) a2N a2M ?_
  refine g9 (c0G l) ?_
  simp only [o5,Tree.holds,true_and,true_implies,decide_eq_true_eq,decide_eq_false_iff_not,Bool.not_eq_true',Bool.not_eq_false',Int.toNat_natCast,q8,List.length_set,List.length_cons,List.length_nil]
  refine ⟨fun c=>?_,fun c=>?_⟩
  · show ((l,()):List (List UInt8)×Unit)=(a0R l,())
    rw [a0R,b8u (by omega)]
  have h2:2≤l.length:=by omega
  refine Reach.K9 a2N a2M (fun i:Nat=>a91 ((i+1:Nat):Int) l) (fun i=>i+1≤l.length∧a2X (l.length - i) l (i+1)=a0R l) (fun i=>l.length - i) 1000 (fun _=>⟨u3 rfl,u3 rfl⟩) ?_ 0 ⟨by omega,rfl⟩
  rintro i ⟨(k1:i+1≤l.length),(k2:a2X (l.length - i) l (i+1)=a0R l)⟩ - ih
  refine g9 (b9a ..) ?_
  simp only [o5,Tree.holds,true_and,true_implies,decide_eq_true_eq,decide_eq_false_iff_not,Bool.not_eq_true',Bool.not_eq_false',Int.toNat_natCast,q8,List.length_set,List.length_cons,List.length_nil]
  have ef:l.length - i=(l.length - (i+1))+1:=by omega
  rw [ef,a2X] at k2
  have e1:Int.toNat ((i+1:Nat):Int)=i+1:=Int.toNat_natCast _
  have e2:Int.toNat (((i+1:Nat):Int) - 1)=i+1 - 1:=by omega
  refine ⟨fun d=>⟨by omega,fun _=>⟨by omega,fun _=>⟨by omega,fun _=>⟨fun e=>⟨by omega,fun _=>?_⟩,fun e=>⟨by omega,fun _=>?_⟩⟩⟩⟩⟩,fun d=>?_⟩
  · have hi:i+1<l.length:=by omega
    rw [if_pos hi,if_pos (by simpa only [e1,e2] using e)] at k2
    refine Reach.K9 a2N a2M (fun x:(List (List UInt8)×Nat)×Nat=>a90 (x.1.2:Int) ((i+1:Nat):Int) (l.length:Int) (x.2:Int) x.1.1) (fun x=>x.1.1.length=l.length∧i+1≤x.1.2∧x.1.2<i+1+x.2∧i+1+x.2≤l.length∧∃ f,l.length≤f+(i+1+x.2)∧a1f f x.1.1 x.1.2 (i+1+x.2)=a1f l.length l (i+1) (i+1+1)) (fun x=>l.length - x.2) 1000 (fun _=>⟨u3 rfl,u3 rfl⟩) ?_ ((l,i+1),1) ⟨rfl,Nat.le_refl _,Nat.lt_succ_self _,hi,l.length,by omega,rfl⟩
    rintro ⟨⟨m,k⟩,t⟩ ⟨(m1:m.length=l.length),(m2:i+1≤k),(m3:k<i+1+t),(m4:i+1+t≤l.length),f,(m5:l.length≤f+(i+1+t)),(m6:a1f f m k (i+1+t)=_)⟩ - ih2
    refine g9 (b89 ..) ?_
    simp only [o5,Tree.holds,true_and,true_implies,decide_eq_true_eq,decide_eq_false_iff_not,Bool.not_eq_true',Bool.not_eq_false',Int.toNat_natCast,q8,List.length_set,List.length_cons,List.length_nil]
    have g1:Int.toNat (((i+1:Nat):Int)+(t:Int))=i+1+t:=by omega
    have g2:Int.toNat (((i+1:Nat):Int)+((t:Int) - 1))=i+1+t - 1:=by omega
    have g3:Int.toNat (k:Int)=k:=Int.toNat_natCast k
    have g4:(t:Int)+1=((t+1:Nat):Int):=by omega
    have g5:(k:Int)+1=((k+1:Nat):Int):=by omega
    refine ⟨fun c=>⟨by omega,fun _=>⟨by omega,fun _=>⟨by omega,fun _=>⟨fun e=>?_,fun e=>?_⟩⟩⟩⟩,fun c=>?_⟩
    · have hj:i+1+t<m.length:=by omega
      obtain ⟨f,rfl⟩:∃ f',f=f'+1:=⟨f - 1,by omega⟩
      rw [a1f,if_pos hj] at m6
      refine ⟨by omega,fun _=>⟨by omega,fun _=>⟨by omega,fun _=>⟨by omega,fun _=>?_⟩⟩⟩⟩
      rw [if_neg (by simpa only [g1,g2] using e)] at m6
      rw [g1,g4,g5]
      exact ih2 ((m.set k (m.getD (i+1+t) []),k+1),t+1) ⟨by show (m.set k _).length=l.length; rw [List.length_set,m1],by show i+1≤k+1; omega,by show k+1<i+1+(t+1); omega,by show i+1+(t+1)≤l.length; omega,f,by show l.length≤f+(i+1+(t+1)); omega,m6⟩ (by show l.length - (t+1)<l.length - t; omega)
    · have hj:i+1+t<m.length:=by omega
      obtain ⟨f,rfl⟩:∃ f',f=f'+1:=⟨f - 1,by omega⟩
      rw [a1f,if_pos hj] at m6
      refine ⟨by omega,fun _=>?_⟩
      rw [if_pos (by simpa only [g1,g2,Decidable.not_not] using e)] at m6
      rw [g4]
      exact ih2 ((m,k),t+1) ⟨m1,m2,by show k<i+1+(t+1); omega,by show i+1+(t+1)≤l.length; omega,f,by show l.length≤f+(i+1+(t+1)); omega,m6⟩ (by show l.length - (t+1)<l.length - t; omega)
    · rw [b8C (by omega)] at m6
      rw [← m6] at k2
      refine ⟨by omega,fun _=>⟨⟨by omega,by omega,?_⟩,fun _=>?_⟩⟩
      · simp only [List.length_append,List.length_take,List.length_drop,List.length_replicate]; omega
      · show ((y6 0 (k:Int) _,()):List (List UInt8)×Unit)=(a0R l,())
        rw [← k2]
        refine congrArg (fun x=>(x,())) ?_
        simp only [y6,Int.toNat_zero,List.drop_zero,Int.sub_zero,g3]
        rw [List.append_assoc,List.take_append_of_le_length (by rw [List.length_take]; omega),List.take_take,Nat.min_self]
  · exact ih (i+1) ⟨by omega,by
      by_cases hi:i+1<l.length
      · rw [if_pos hi,if_neg (by simpa only [e1,e2] using e)] at k2
        exact k2
      · omega⟩ (by omega)
  · rw [if_neg (by omega)] at k2
    show ((l,()):List (List UInt8)×Unit)=(a0R l,())
    rw [← k2]
def X0 (s:G6):List (List UInt8):=(s.2.1.filter (fun r=>maj r.2.2.2.1 s.1.length)).map (fun r=>r.2.2.2.2.2.1)
def Z5 (s:G6):List (List UInt8)×Int×Unit:=if M6 s≠0 then ([],M6 s,()) else (a0R (N6 (X0 s)),0,())
def a8F:p7:={ ps:=[.v U3],rs:=[.b7 true .str,y8],pre:=fun _=>True,fn:=fun x=>Z5 x.1,out:=fun _=>() }
theorem a51 {V:List r8} {R:List j9} (h:M6 (V,R,())=0):R.length≤30:=(a7i h).2
noncomputable def a2a:Env:={ P:=Try.prog,tt:=tt,A3:=[(207,a5T),(213,b1P),(214,b8z),(215,b12)],res:=[Go.ResultVar.tmp 2,Go.ResultVar.tmp 3],rs:=[Ty.b7 true Ty.str,Ty.int IntKind.i64],ps:=[PK.v (Ty.pair (Ty.b7 false (Ty.pair (Ty.int IntKind.i64) (Ty.pair (Ty.int IntKind.i64) (Ty.pair Ty.str Ty.unit)))) (Ty.pair (Ty.b7 false (Ty.pair (Ty.int IntKind.i64) (Ty.pair (Ty.int IntKind.i64) (Ty.pair (Ty.int IntKind.u8) (Ty.pair (Ty.int IntKind.u8) (Ty.pair Ty.bool (Ty.pair Ty.str Ty.unit))))))) Ty.unit))],x7:=[(6,[(1,none),(5,some (Ty.b7 true Ty.str)),(14,none),(15,none),(16,none)])],nt:=36 }
theorem a4r:u5 a2a:=w7 p9 ⟨a4x,a37,b1M,b11,trivial⟩
theorem a4n:y9 a2a Try.f112:=⟨rfl,rfl⟩
theorem b9b (x0_1:List (Int×Int×List UInt8×Unit)) (x0_2_1:List (Int×Int×Int×Int×Bool×List UInt8×Unit)):exec a2a 1000 [.code (b8 Try.prog 112)] (s6 a8F.ps (((x0_1,x0_2_1,()),()))) =
  .d8 (True) (cond (decide (M6 (x0_1,x0_2_1,())≠(0:Int))) (.ret (([],M6 (x0_1,x0_2_1,()),()))) (.cut (e8 (b8 Try.prog 112) 6).1 (e8 (b8 Try.prog 112) 6).2 (St.mk [(1,AV.ptr 1 []),(5,AV.at_ 1000005 []),(14,AV.val (Ty.b7 false (Ty.pair (Ty.int IntKind.i64) (Ty.pair (Ty.int IntKind.i64) (Ty.pair (Ty.int IntKind.u8) (Ty.pair (Ty.int IntKind.u8) (Ty.pair Ty.bool (Ty.pair Ty.str Ty.unit))))))) x0_2_1),(15,AV.val (Ty.int IntKind.i64) (↑(List.length x0_2_1):Int)),(16,AV.val (Ty.int IntKind.i64) (0:Int))] [(1,i6.var (Ty.pair (Ty.b7 false (Ty.pair (Ty.int IntKind.i64) (Ty.pair (Ty.int IntKind.i64) (Ty.pair Ty.str Ty.unit)))) (Ty.pair (Ty.b7 false (Ty.pair (Ty.int IntKind.i64) (Ty.pair (Ty.int IntKind.i64) (Ty.pair (Ty.int IntKind.u8) (Ty.pair (Ty.int IntKind.u8) (Ty.pair Ty.bool (Ty.pair Ty.str Ty.unit))))))) Ty.unit)) (x0_1,x0_2_1,())),(1000005,i6.own (Ty.b7 true Ty.str) [])]))):=by kernel_rfl
def a15 (v14:List (Int×Int×Int×Int×Bool×List UInt8×Unit)) (v15:Int) (v16:Int) (o1_1:List (Int×Int×List UInt8×Unit)) (o1_2_1:List (Int×Int×Int×Int×Bool×List UInt8×Unit)) (o1000005:List (List UInt8)):St:=St.mk [(1,AV.ptr 1 []),(5,AV.at_ 1000005 []),(14,AV.val (Ty.b7 false (Ty.pair (Ty.int IntKind.i64) (Ty.pair (Ty.int IntKind.i64) (Ty.pair (Ty.int IntKind.u8) (Ty.pair (Ty.int IntKind.u8) (Ty.pair Ty.bool (Ty.pair Ty.str Ty.unit))))))) v14),(15,AV.val (Ty.int IntKind.i64) v15),(16,AV.val (Ty.int IntKind.i64) v16)] [(1,i6.var (Ty.pair (Ty.b7 false (Ty.pair (Ty.int IntKind.i64) (Ty.pair (Ty.int IntKind.i64) (Ty.pair Ty.str Ty.unit)))) (Ty.pair (Ty.b7 false (Ty.pair (Ty.int IntKind.i64) (Ty.pair (Ty.int IntKind.i64) (Ty.pair (Ty.int IntKind.u8) (Ty.pair (Ty.int IntKind.u8) (Ty.pair Ty.bool (Ty.pair Ty.str Ty.unit))))))) Ty.unit)) (o1_1,o1_2_1,())),(1000005,i6.own (Ty.b7 true Ty.str) o1000005)]
theorem b7o (v14:List (Int×Int×Int×Int×Bool×List UInt8×Unit)) (v15:Int) (v16:Int) (o1_1:List (Int×Int×List UInt8×Unit)) (o1_2_1:List (Int×Int×Int×Int×Bool×List UInt8×Unit)) (o1000005:List (List UInt8)):exec a2a 1000 (.code (e8 (b8 Try.prog 112) 6).1::.inLoop (e8 (b8 Try.prog 112) 6).1::(e8 (b8 Try.prog 112) 6).2) (a15 v14 v15 v16 o1_1 o1_2_1 o1000005) =
  cond (decide (v16<v15)) (.d8 ((0:Int)≤v16∧v16<(↑(List.length v14):Int)) (.d8 (True) (cond (maj (Prod.fst (Prod.snd (Prod.snd (Prod.snd (List.getD v14 (Int.toNat v16) ((0:Int),(0:Int),(0:Int),(0:Int),false,[],())))))) (↑(List.length o1_1):Int)) (.d8 (List.length o1000005+List.length (List.set [[]] (Int.toNat (↑0:Int)) (Prod.fst (Prod.snd (Prod.snd (Prod.snd (Prod.snd (Prod.snd (List.getD v14 (Int.toNat v16) ((0:Int),(0:Int),(0:Int),(0:Int),false,[],())))))))))≤140737488355328∧(List.length o1000005+List.length (List.set [[]] (Int.toNat (↑0:Int)) (Prod.fst (Prod.snd (Prod.snd (Prod.snd (Prod.snd (Prod.snd (List.getD v14 (Int.toNat v16) ((0:Int),(0:Int),(0:Int),(0:Int),false,[],()))))))))))*Ty.wb Ty.str≤140737488355328) (.d8 (u7 IntKind.i64 (v16+(1:Int))) (.cut (e8 (b8 Try.prog 112) 6).1 (e8 (b8 Try.prog 112) 6).2 (St.mk [(1,AV.ptr 1 []),(5,AV.at_ 1000005 []),(14,AV.val (Ty.b7 false (Ty.pair (Ty.int IntKind.i64) (Ty.pair (Ty.int IntKind.i64) (Ty.pair (Ty.int IntKind.u8) (Ty.pair (Ty.int IntKind.u8) (Ty.pair Ty.bool (Ty.pair Ty.str Ty.unit))))))) v14),(15,AV.val (Ty.int IntKind.i64) v15),(16,AV.val (Ty.int IntKind.i64) (v16+(1:Int)))] [(1,i6.var (Ty.pair (Ty.b7 false (Ty.pair (Ty.int IntKind.i64) (Ty.pair (Ty.int IntKind.i64) (Ty.pair Ty.str Ty.unit)))) (Ty.pair (Ty.b7 false (Ty.pair (Ty.int IntKind.i64) (Ty.pair (Ty.int IntKind.i64) (Ty.pair (Ty.int IntKind.u8) (Ty.pair (Ty.int IntKind.u8) (Ty.pair Ty.bool (Ty.pair Ty.str Ty.unit))))))) Ty.unit)) (o1_1,o1_2_1,())),(1000005,i6.own (Ty.b7 true Ty.str) (o1000005++List.set [[]] (Int.toNat (↑0:Int)) (Prod.fst (Prod.snd (Prod.snd (Prod.snd (Prod.snd (Prod.snd (List.getD v14 (Int.toNat v16) ((0:Int),(0:Int),(0:Int),(0:Int),false,[],()))))))))))])))) (.d8 (u7 IntKind.i64 (v16+(1:Int))) (.cut (e8 (b8 Try.prog 112) 6).1 (e8 (b8 Try.prog 112) 6).2 (St.mk [(1,AV.ptr 1 []),(5,AV.at_ 1000005 []),(14,AV.val (Ty.b7 false (Ty.pair (Ty.int IntKind.i64) (Ty.pair (Ty.int IntKind.i64) (Ty.pair (Ty.int IntKind.u8) (Ty.pair (Ty.int IntKind.u8) (Ty.pair Ty.bool (Ty.pair Ty.str Ty.unit))))))) v14),(15,AV.val (Ty.int IntKind.i64) v15),(16,AV.val (Ty.int IntKind.i64) (v16+(1:Int)))] [(1,i6.var (Ty.pair (Ty.b7 false (Ty.pair (Ty.int IntKind.i64) (Ty.pair (Ty.int IntKind.i64) (Ty.pair Ty.str Ty.unit)))) (Ty.pair (Ty.b7 false (Ty.pair (Ty.int IntKind.i64) (Ty.pair (Ty.int IntKind.i64) (Ty.pair (Ty.int IntKind.u8) (Ty.pair (Ty.int IntKind.u8) (Ty.pair Ty.bool (Ty.pair Ty.str Ty.unit))))))) Ty.unit)) (o1_1,o1_2_1,())),(1000005,i6.own (Ty.b7 true Ty.str) o1000005)])))))) (.d8 (List.length o1000005≤1048576) (.d8 (True) (.ret ((a0R (N6 o1000005),(0:Int),()))))):=by kernel_rfl
def a1M (n:Int) (R:List j9) (i:Nat):List (List UInt8):=((R.take i).filter (fun r=>maj r.2.2.2.1 n)).map (fun r=>r.2.2.2.2.2.1)
theorem b8D {n:Int} {R:List j9} {i:Nat} (hi:i<R.length):a1M n R (i+1)=if maj (R.getD i G0).2.2.2.1 n=true then a1M n R i++[(R.getD i G0).2.2.2.2.2.1] else a1M n R i:=by
  have tk:R.take (i+1)=R.take i++[R.getD i G0]:=by
    rw [List.take_add_one,List.getElem?_eq_getElem hi,List.getD_eq_getElem?_getD,List.getElem?_eq_getElem hi]; rfl
  rw [a1M,tk,List.filter_append,List.map_append]
  split
  · rename_i h
    rw [List.filter_cons_of_pos (by exact h)]; rfl
  · rename_i h
    rw [List.filter_cons_of_neg (by exact h)]; simp [a1M]
theorem b94 {n:Int} {R:List j9} (i:Nat):(a1M n R i).length≤R.length:=by
  rw [a1M,List.length_map]
  exact Nat.le_trans (List.length_filter_le ..) (by rw [List.length_take]; omega)
theorem b0m:a8F.Valid Try.prog 112:=by
  refine p7.o8 a4r rfl rfl Try.func112 (c:=b8 Try.prog 112) rfl rfl a4n rfl ?_
  rintro ⟨⟨(V:List r8),(R:List j9),⟨⟩⟩,⟨⟩⟩ - -
  refine j8 (n:=1000) a4r a4n ?_
  refine g9 (b9b V R) ?_
  simp only [o5,Tree.holds,true_and,true_implies,decide_eq_true_eq,decide_eq_false_iff_not,Bool.not_eq_true',Bool.not_eq_false',Int.toNat_natCast,q8,List.length_set,List.length_cons,List.length_nil]
  refine ⟨fun a=>?_,fun a=>?_⟩
  · show (([],M6 (V,R,()),()):List (List UInt8)×Int×Unit)=Z5 (V,R,())
    rw [Z5,if_pos a]
  have a:=Decidable.not_not.1 a
  have hR:=a51 a
  have hfin:Z5 (V,R,())=(a0R (N6 (X0 (V,R,()))),0,()):=if_neg (by rw [a]; simp)
  have hall:a1M (V.length:Int) R R.length=X0 (V,R,()):=by rw [a1M,List.take_length]; rfl
  have hw:Ty.wb .str=16:=rfl
  suffices hs:Go.Ex.Reach a2a Try.f112 (a0R (N6 (X0 (V,R,()))),0,()) () (.code (e8 (b8 Try.prog 112) 6).1::.inLoop (e8 (b8 Try.prog 112) 6).1::(e8 (b8 Try.prog 112) 6).2) (a15 R (R.length:Int) ((0:Nat):Int) V R (a1M (V.length:Int) R 0)) by
    show Go.Ex.Reach a2a Try.f112 (Z5 (V,R,())) () (.code (e8 (b8 Try.prog 112) 6).1::.inLoop (e8 (b8 Try.prog 112) 6).1::(e8 (b8 Try.prog 112) 6).2) (a15 R (R.length:Int) ((0:Nat):Int) V R (a1M (V.length:Int) R 0))
    rw [hfin]; exact hs
  refine Reach.K9 a4r a4n (fun i:Nat=>a15 R (R.length:Int) (i:Int) V R (a1M (V.length:Int) R i)) (fun i=>i≤R.length) (fun i=>R.length - i) 1000 (fun _=>⟨u3 rfl,u3 rfl⟩) ?_ 0 (Nat.zero_le _)
  rintro i (k1:i≤R.length) - ih
  refine g9 (b7o ..) ?_
  have hl:=b94 (n:=(V.length:Int)) (R:=R) i
  simp only [o5,Tree.holds,true_and,true_implies,decide_eq_true_eq,decide_eq_false_iff_not,Bool.not_eq_true',Bool.not_eq_false',Int.toNat_natCast,q8,List.length_set,List.length_cons,List.length_nil,hw]
  refine ⟨fun c=>⟨by omega,fun _=>?_⟩,fun c=>?_⟩
  · have hi:i<R.length:=by omega
    have next:=ih (i+1) hi (by omega)
    rw [b8D hi] at next
    have e1:List.getD R i (0,0,0,0,false,[],())=R.getD i G0:=rfl
    simp only [e1]
    generalize R.getD i G0=r at *
    refine ⟨fun d=>⟨by omega,fun _=>⟨by omega,fun _=>?_⟩⟩,fun d=>⟨by omega,fun _=>?_⟩⟩
    · rw [if_pos d] at next
      exact next
    · rw [if_neg (by rw [d]; simp)] at next
      exact next
  · obtain rfl:i=R.length:=by omega
    rw [hall]
    rw [hall] at hl
    exact ⟨by omega,fun _=>rfl⟩
end Go.Proofs.Ytekbamiaenbhjaa
