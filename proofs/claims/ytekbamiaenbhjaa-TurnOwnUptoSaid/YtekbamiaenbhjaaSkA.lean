/- Skeen's numbers: the small functions' contracts. No condition but those named. -/
import Derived.Test.YtekbamiaenbhjaaCmpI
import Derived.Test.YtekbamiaenbhjaaSortC
import Derived.Shelf.SlGeneric
namespace Go.Proofs.Ytekbamiaenbhjaa
open Go.Ex Go.Sort
set_option maxRecDepth 100000
abbrev Num:Ty:=.pair s6 (.pair s6 .unit)
abbrev I4:Ty:=.pair s6 (.pair Num (.pair .bool .unit))
abbrev a2a:Ty:=.pair s6 (.pair s6 (.pair (.d0 false I4) .unit))
abbrev b7v:Ty:=.pair s6 (.pair s6 (.pair (.d0 true I4) .unit))
abbrev M3:Type:=Int×Int×Unit
abbrev w7:Type:=Int×M3×Bool×Unit
def K9 (a b:M3):Int:=if W9 a.1 b.1≠0 then W9 a.1 b.1 else W9 a.2.1 b.2.1
def a7r:w6:={ ps:=[.v Num,.v Num],rs:=[s6],pre:=fun _=>True,fn:=fun x=>(K9 x.1 x.2.1,()),out:=fun _=>() }
noncomputable def b5X:Env:={ P:=Try.prog,tt:=tt,C7:=[(132,b5r),(131,b8n)],res:=[Go.ResultVar.tmp 4],rs:=[Ty.int IntKind.i64],ps:=[PK.v t7,PK.v t7],C5:=[],nt:=17 }
theorem b2a:B0 b5X:=B9 t8 ⟨b3j,b46,trivial⟩
theorem b1L:D0 b5X Try.f192:=⟨rfl,rfl⟩
theorem c0s (x0_1:Int) (x0_2_1:Int) (x1_1:Int) (x1_2_1:Int):exec b5X 1000 [.code (d9 Try.prog 192)] (y8 a7r.ps (((x0_1,x0_2_1,()),(x1_1,x1_2_1,()),()))) =
  .f9 (True) (.f9 (True) (.f9 (True) (.ret ((orF (List.set (List.set [(0:Int),(0:Int)] (Int.toNat (↑0:Int)) (W9 x0_1 x1_1)) (Int.toNat (↑1:Int)) (W9 x0_2_1 x1_2_1)),()))))):=by kernel_rfl
theorem a24:a7r.Valid Try.prog 192:=by
  refine w6.t6 b2a rfl rfl Try.func192 (c:=d9 Try.prog 192) rfl rfl b1L rfl ?_
  rintro ⟨⟨(a1:Int),(a2:Int),⟨⟩⟩,⟨(b1:Int),(b2:Int),⟨⟩⟩,⟨⟩⟩ - -
  refine l8 (n:=1000) b2a b1L ?_
  refine j9 (c0s a1 a2 b1 b2) ?_
  refine ⟨trivial,fun _=>⟨trivial,fun _=>⟨trivial,fun _=>?_⟩⟩⟩
  show ((orF [W9 a1 b1,W9 a2 b2],()):Int×Unit)=(K9 (a1,a2,()) (b1,b2,()),())
  rw [orF,orF,orF,K9]
  congr 1
  show _=if W9 a1 b1≠0 then W9 a1 b1 else W9 a2 b2
  by_cases h1:W9 a1 b1≠0
  · rw [if_pos h1,if_pos h1]
  · rw [if_neg h1,if_neg h1]
    by_cases h2:W9 a2 b2≠0
    · rw [if_pos h2]
    · rw [if_neg h2]; exact (Decidable.not_not.1 h2).symm
def b1i:w6:={ ps:=[.v s6,.v s6,.v s6],rs:=[.bool],pre:=fun _=>True,fn:=fun x=>(K4 x.1 x.2.1 x.2.2.1,()),out:=fun _=>() }
noncomputable def b8J:Env:={ P:=Try.prog,tt:=tt,C7:=[],res:=[Go.ResultVar.tmp 6],rs:=[Ty.bool],ps:=[PK.v (Ty.int IntKind.i64),PK.v (Ty.int IntKind.i64),PK.v (Ty.int IntKind.i64)],C5:=[],nt:=15 }
theorem b4h:B0 b8J:=B9 t8 trivial
theorem b4b:D0 b8J Try.f189:=⟨rfl,rfl⟩
theorem c1r (x0:Int) (x1:Int) (x2:Int):exec b8J 1000 [.code (d9 Try.prog 189)] (y8 b1i.ps ((x0,x1,x2,()))) =
  cond (decide (x1≤x0)) (.ret ((decide (x0≤x2),()))) (.ret ((false,()))):=by kernel_rfl
theorem a34:b1i.Valid Try.prog 189:=by
  refine w6.t6 b4h rfl rfl Try.func189 (c:=d9 Try.prog 189) rfl rfl b4b rfl ?_
  rintro ⟨(a:Int),(b:Int),(c:Int),⟨⟩⟩ - -
  refine l8 (n:=1000) b4h b4b ?_
  refine j9 (c1r a b c) ?_
  simp only [s4,Tree.holds,true_and,true_implies,decide_eq_true_eq,decide_eq_false_iff_not,Bool.not_eq_true',Bool.not_eq_false',Int.toNat_natCast,x5,List.length_set,List.length_cons,List.length_nil]
  repeat' first|exact trivial|(refine And.intro ?_ ?_)|(intro _)
  all_goals (show ((_,()):Bool×Unit)=(K4 a b c,()); simp [K4, *])
def C2 (id:Int) (w:w7):Bool:=decide (w.1=id)
def b45:w6:={ ps:=[.v I4,.rd I4],rs:=[.bool],pre:=fun _=>True,fn:=fun x=>(C2 x.2.1.1 x.1,()),out:=fun _=>() }
noncomputable def b5Q:Env:={ P:=Try.prog,tt:=tt,C7:=[],res:=[Go.ResultVar.tmp 3],rs:=[Ty.bool],ps:=[PK.v (Ty.pair (Ty.int IntKind.i64) (Ty.pair t7 (Ty.pair Ty.bool Ty.unit))),PK.rd (Ty.pair (Ty.int IntKind.i64) (Ty.pair t7 (Ty.pair Ty.bool Ty.unit)))],C5:=[],nt:=9 }
theorem b1X:B0 b5Q:=B9 t8 trivial
theorem b1I:D0 b5Q Try.f299:=⟨rfl,rfl⟩
theorem c0o (x0_1:Int) (x0_2_1_1:Int) (x0_2_1_2_1:Int) (x0_2_2_1:Bool) (x1_1:Int) (x1_2_1_1:Int) (x1_2_1_2_1:Int) (x1_2_2_1:Bool):exec b5Q 1000 [.code (d9 Try.prog 299)] (y8 b45.ps (((x0_1,(x0_2_1_1,x0_2_1_2_1,()),x0_2_2_1,()),(x1_1,(x1_2_1_1,x1_2_1_2_1,()),x1_2_2_1,()),()))) =
  .ret ((decide (x0_1=x1_1),())):=by kernel_rfl
theorem b2X:b45.Valid Try.prog 299:=by
  refine w6.t6 b1X rfl rfl Try.func299 (c:=d9 Try.prog 299) rfl rfl b1I rfl ?_
  rintro ⟨⟨(i:Int),⟨(n1:Int),(n2:Int),⟨⟩⟩,(f:Bool),⟨⟩⟩,⟨(j:Int),⟨(m1:Int),(m2:Int),⟨⟩⟩,(g:Bool),⟨⟩⟩,⟨⟩⟩ - -
  refine l8 (n:=1000) b1X b1I ?_
  refine j9 (c0o i n1 n2 f j m1 m2 g) ?_
  rfl
def b48:w6:={ ps:=[.v I4,.rd s6],rs:=[.bool],pre:=fun _=>True,fn:=fun x=>(C2 x.2.1 x.1,()),out:=fun _=>() }
noncomputable def b5W:Env:={ P:=Try.prog,tt:=tt,C7:=[],res:=[Go.ResultVar.tmp 3],rs:=[Ty.bool],ps:=[PK.v (Ty.pair (Ty.int IntKind.i64) (Ty.pair t7 (Ty.pair Ty.bool Ty.unit))),PK.rd (Ty.int IntKind.i64)],C5:=[],nt:=8 }
theorem b19:B0 b5W:=B9 t8 trivial
theorem b1K:D0 b5W Try.f188:=⟨rfl,rfl⟩
theorem c0r (x0_1:Int) (x0_2_1_1:Int) (x0_2_1_2_1:Int) (x0_2_2_1:Bool) (x1:Int):exec b5W 1000 [.code (d9 Try.prog 188)] (y8 b48.ps (((x0_1,(x0_2_1_1,x0_2_1_2_1,()),x0_2_2_1,()),x1,()))) =
  .ret ((decide (x0_1=x1),())):=by kernel_rfl
theorem b20:b48.Valid Try.prog 188:=by
  refine w6.t6 b19 rfl rfl Try.func188 (c:=d9 Try.prog 188) rfl rfl b1K rfl ?_
  rintro ⟨⟨(i:Int),⟨(n1:Int),(n2:Int),⟨⟩⟩,(f:Bool),⟨⟩⟩,(j:Int),⟨⟩⟩ - -
  refine l8 (n:=1000) b19 b1K ?_
  refine j9 (c0r i n1 n2 f j) ?_
  rfl
def l5 (id:Int) (w:w7):Bool:=decide (w.1=id) && !w.2.2.1
def b5k:w6:={ ps:=[.v I4,.rd s6],rs:=[.bool],pre:=fun _=>True,fn:=fun x=>(l5 x.2.1 x.1,()),out:=fun _=>() }
noncomputable def b52:Env:={ P:=Try.prog,tt:=tt,C7:=[],res:=[Go.ResultVar.tmp 3],rs:=[Ty.bool],ps:=[PK.v (Ty.pair (Ty.int IntKind.i64) (Ty.pair t7 (Ty.pair Ty.bool Ty.unit))),PK.rd (Ty.int IntKind.i64)],C5:=[],nt:=13 }
theorem b2m:B0 b52:=B9 t8 trivial
theorem b1Q:D0 b52 Try.f191:=⟨rfl,rfl⟩
theorem c0D (x0_1:Int) (x0_2_1_1:Int) (x0_2_1_2_1:Int) (x0_2_2_1:Bool) (x1:Int):exec b52 1000 [.code (d9 Try.prog 191)] (y8 b5k.ps (((x0_1,(x0_2_1_1,x0_2_1_2_1,()),x0_2_2_1,()),x1,()))) =
  cond (decide (x0_1=x1)) (.ret ((!x0_2_2_1,()))) (.ret ((false,()))):=by kernel_rfl
theorem b3c:b5k.Valid Try.prog 191:=by
  refine w6.t6 b2m rfl rfl Try.func191 (c:=d9 Try.prog 191) rfl rfl b1Q rfl ?_
  rintro ⟨⟨(i:Int),⟨(n1:Int),(n2:Int),⟨⟩⟩,(f:Bool),⟨⟩⟩,(j:Int),⟨⟩⟩ - -
  refine l8 (n:=1000) b2m b1Q ?_
  refine j9 (c0D i n1 n2 f j) ?_
  simp only [s4,Tree.holds,true_and,true_implies,decide_eq_true_eq,decide_eq_false_iff_not,Bool.not_eq_true',Bool.not_eq_false',Int.toNat_natCast,x5,List.length_set,List.length_cons,List.length_nil]
  refine ⟨fun h=>?_,fun h=>?_⟩
  · show ((!f,()):Bool×Unit)=((decide (i=j) && !f),())
    rw [decide_eq_true h]; rfl
  · show ((false,()):Bool×Unit)=((decide (i=j) && !f),())
    rw [decide_eq_false h]; rfl
def taken (id:Int) (n:M3) (w:w7):Bool:=!decide (w.1=id) && decide (w.2.1=n)
def b5j:w6:={ ps:=[.v I4,.rd s6,.rd Num],rs:=[.bool],pre:=fun _=>True,fn:=fun x=>(taken x.2.1 x.2.2.1 x.1,()),out:=fun _=>() }
noncomputable def b51:Env:={ P:=Try.prog,tt:=tt,C7:=[],res:=[Go.ResultVar.tmp 4],rs:=[Ty.bool],ps:=[PK.v (Ty.pair (Ty.int IntKind.i64) (Ty.pair t7 (Ty.pair Ty.bool Ty.unit))),PK.rd (Ty.int IntKind.i64),PK.rd t7],C5:=[],nt:=15 }
theorem b2l:B0 b51:=B9 t8 trivial
theorem b1P:D0 b51 Try.f193:=⟨rfl,rfl⟩
theorem c0C (x0_1:Int) (x0_2_1_1:Int) (x0_2_1_2_1:Int) (x0_2_2_1:Bool) (x1:Int) (x2_1:Int) (x2_2_1:Int):exec b51 1000 [.code (d9 Try.prog 193)] (y8 b5j.ps (((x0_1,(x0_2_1_1,x0_2_1_2_1,()),x0_2_2_1,()),x1,(x2_1,x2_2_1,()),()))) =
  cond (decide (x0_1≠x1)) (.ret ((G3 t7 (x0_2_1_1,x0_2_1_2_1,()) (x2_1,x2_2_1,()),()))) (.ret ((false,()))):=by kernel_rfl
theorem c1a {a b:M3}:G3 (Ty.pair (Ty.int IntKind.i64) (Ty.pair (Ty.int IntKind.i64) Ty.unit)) a b=decide (a=b):=by
  obtain ⟨a1,a2,⟨⟩⟩:=a
  obtain ⟨b1,b2,⟨⟩⟩:=b
  show (decide (a1=b1) && (decide (a2=b2) && decide ((():Unit)=())))=_
  by_cases h1:a1=b1
  · by_cases h2:a2=b2
    · subst h1 h2; simp
    · rw [decide_eq_true h1,decide_eq_false h2,decide_eq_false (fun h=>h2 (congrArg (fun q:M3=>q.2.1) h))]; rfl
  · rw [decide_eq_false h1,decide_eq_false (fun h=>h1 (congrArg (fun q:M3=>q.1) h))]; rfl
theorem b3b:b5j.Valid Try.prog 193:=by
  refine w6.t6 b2l rfl rfl Try.func193 (c:=d9 Try.prog 193) rfl rfl b1P rfl ?_
  rintro ⟨⟨(i:Int),⟨(n1:Int),(n2:Int),⟨⟩⟩,(f:Bool),⟨⟩⟩,(j:Int),⟨(m1:Int),(m2:Int),⟨⟩⟩,⟨⟩⟩ - -
  refine l8 (n:=1000) b2l b1P ?_
  refine j9 (c0C i n1 n2 f j m1 m2) ?_
  have e:taken j (m1,m2,()) (i,(n1,n2,()),f,())=(!decide (i=j) && decide ((n1,n2,())=((m1,m2,()):M3))):=rfl
  simp only [s4,Tree.holds,true_and,true_implies,decide_eq_true_eq,decide_eq_false_iff_not,Bool.not_eq_true',Bool.not_eq_false',Int.toNat_natCast,x5,List.length_set,List.length_cons,List.length_nil,c1a]
  refine ⟨fun h=>?_,fun h=>?_⟩
  · show ((decide ((n1,n2,())=((m1,m2,()):M3)),()):Bool×Unit)=(taken j (m1,m2,()) (i,(n1,n2,()),f,()),())
    rw [e,decide_eq_false h]; rfl
  · show ((false,()):Bool×Unit)=(taken j (m1,m2,()) (i,(n1,n2,()),f,()),())
    have h:i=j:=Decidable.not_not.1 h
    rw [e,decide_eq_true h]; rfl
def a0z (a b:w7):Int:=K9 a.2.1 b.2.1
def b9s:w6:={ ps:=[.v I4,.v I4],rs:=[s6],pre:=fun _=>True,fn:=fun x=>(a0z x.1 x.2.1,()),out:=fun _=>() }
noncomputable def b50:Env:={ P:=Try.prog,tt:=tt,C7:=[(192,a7r)],res:=[Go.ResultVar.tmp 4],rs:=[Ty.int IntKind.i64],ps:=[PK.v (Ty.pair (Ty.int IntKind.i64) (Ty.pair t7 (Ty.pair Ty.bool Ty.unit))),PK.v (Ty.pair (Ty.int IntKind.i64) (Ty.pair t7 (Ty.pair Ty.bool Ty.unit)))],C5:=[],nt:=10 }
theorem b2k:B0 b50:=B9 t8 ⟨a24,trivial⟩
theorem b1O:D0 b50 Try.f195:=⟨rfl,rfl⟩
theorem c0B (x0_1:Int) (x0_2_1_1:Int) (x0_2_1_2_1:Int) (x0_2_2_1:Bool) (x1_1:Int) (x1_2_1_1:Int) (x1_2_1_2_1:Int) (x1_2_2_1:Bool):exec b50 1000 [.code (d9 Try.prog 195)] (y8 b9s.ps (((x0_1,(x0_2_1_1,x0_2_1_2_1,()),x0_2_2_1,()),(x1_1,(x1_2_1_1,x1_2_1_2_1,()),x1_2_2_1,()),()))) =
  .f9 (True) (.ret ((K9 (x0_2_1_1,x0_2_1_2_1,()) (x1_2_1_1,x1_2_1_2_1,()),()))):=by kernel_rfl
theorem b3a:b9s.Valid Try.prog 195:=by
  refine w6.t6 b2k rfl rfl Try.func195 (c:=d9 Try.prog 195) rfl rfl b1O rfl ?_
  rintro ⟨⟨(i:Int),⟨(n1:Int),(n2:Int),⟨⟩⟩,(f:Bool),⟨⟩⟩,⟨(j:Int),⟨(m1:Int),(m2:Int),⟨⟩⟩,(g:Bool),⟨⟩⟩,⟨⟩⟩ - -
  refine l8 (n:=1000) b2k b1O ?_
  refine j9 (c0B i n1 n2 f j m1 m2 g) ?_
  exact ⟨trivial,fun _=>rfl⟩
theorem a5C {a b:Int}:W9 a b<0↔a<b:=by unfold W9; split; omega; split<;>omega
theorem a8l {a b:Int}:W9 a b=0↔a=b:=by unfold W9; split; omega; split<;>omega
theorem a1n {a b:M3}:K9 a b<0↔a.1<b.1∨(a.1=b.1∧a.2.1<b.2.1):=by
  unfold K9
  have h1:=@a5C a.1 b.1
  have h2:=@a8l a.1 b.1
  have h3:=@a5C a.2.1 b.2.1
  split<;>omega
theorem b9Z {a b:M3}:K9 a b≤0↔a.1<b.1∨(a.1=b.1∧a.2.1≤b.2.1):=by
  unfold K9
  have h1:=@a5C a.1 b.1
  have h2:=@a8l a.1 b.1
  have h3:=@a5C a.2.1 b.2.1
  have h4:=@a8l a.2.1 b.2.1
  split<;>omega
theorem c1Q:SWO (S6 a0z) :=
  ⟨fun x=>by rw [S6,decide_eq_false_iff_not,a0z,a1n]; omega,fun x y z=>by simp only [S6,a0z,decide_eq_true_eq,a1n]; omega,fun x y z=>by simp only [S6,a0z,decide_eq_false_iff_not,a1n]; omega⟩
def b0K:Go.Shelf.Ren:=⟨fun|6=>194|14=>261|15=>180|20=>300|21=>301|22=>302|23=>303|24=>304|25=>305|26=>306|27=>307|28=>254|29=>255|46=>331|47=>294|48=>295|49=>332|50=>333|57=>349|n=>n,fun|0=>0|3=>3|4=>4|5=>5|9=>9|22=>159|24=>171|25=>308|39=>297|45=>358|46=>359|50=>268|53=>365|55=>367|66=>395|70=>399|76=>421|77=>422|n=>n,fun|n=>n⟩
theorem b8a:Go.Proofs.SlLaysF0.n6 Try.prog b0K:={
  mixed:=by kernel_rfl,
  f6:=⟨Try.f194.name,by decide,Try.func194.trans (congrArg some (by kernel_rfl))⟩,
  f14:=⟨Try.f261.name,by decide,Try.func261.trans (congrArg some (by kernel_rfl))⟩,
  f15:=Try.func180.trans (congrArg some (by kernel_rfl)),
  f20:=⟨Try.f300.name,by decide,Try.func300.trans (congrArg some (by kernel_rfl))⟩,
  f21:=⟨Try.f301.name,by decide,Try.func301.trans (congrArg some (by kernel_rfl))⟩,
  f22:=⟨Try.f302.name,by decide,Try.func302.trans (congrArg some (by kernel_rfl))⟩,
  f23:=⟨Try.f303.name,by decide,Try.func303.trans (congrArg some (by kernel_rfl))⟩,
  f24:=⟨Try.f304.name,by decide,Try.func304.trans (congrArg some (by kernel_rfl))⟩,
  f25:=⟨Try.f305.name,by decide,Try.func305.trans (congrArg some (by kernel_rfl))⟩,
  f26:=⟨Try.f306.name,by decide,Try.func306.trans (congrArg some (by kernel_rfl))⟩,
  f27:=⟨Try.f307.name,by decide,Try.func307.trans (congrArg some (by kernel_rfl))⟩,
  f28:=Try.func254.trans (congrArg some (by kernel_rfl)),
  f29:=Try.func255.trans (congrArg some (by kernel_rfl)),
  f46:=⟨Try.f331.name,by decide,Try.func331.trans (congrArg some (by kernel_rfl))⟩,
  f47:=Try.func294.trans (congrArg some (by kernel_rfl)),
  f48:=Try.func295.trans (congrArg some (by kernel_rfl)),
  f49:=⟨Try.f332.name,by decide,Try.func332.trans (congrArg some (by kernel_rfl))⟩,
  f50:=⟨Try.f333.name,by decide,Try.func333.trans (congrArg some (by kernel_rfl))⟩,
  f57:=⟨Try.f349.name,by decide,Try.func349.trans (congrArg some (by kernel_rfl))⟩,
  t0:=Try.underlying0,
  a0:=Try.isAgg0,
  z0:=Try.sizeOf0,
  v0:=Try.zeroValue0,
  t3:=Try.underlying3,
  a3:=Try.isAgg3,
  z3:=Try.sizeOf3,
  v3:=Try.zeroValue3,
  t4:=Try.underlying4,
  a4:=Try.isAgg4,
  z4:=Try.sizeOf4,
  v4:=Try.zeroValue4,
  t5:=Try.underlying5,
  a5:=Try.isAgg5,
  z5:=Try.sizeOf5,
  v5:=Try.zeroValue5,
  t9:=Try.underlying9,
  a9:=Try.isAgg9,
  z9:=Try.sizeOf9,
  v9:=Try.zeroValue9,
  t22:=Try.underlying159,
  a22:=Try.isAgg159,
  z22:=Try.sizeOf159,
  v22:=Try.zeroValue159,
  t25:=Try.underlying308,
  a25:=Try.isAgg308,
  z25:=Try.sizeOf308,
  v25:=Try.zeroValue308,
  t39:=Try.underlying297,
  a39:=Try.isAgg297,
  z39:=Try.sizeOf297,
  v39:=Try.zeroValue297,
  t45:=Try.underlying358,
  a45:=Try.isAgg358,
  z45:=Try.sizeOf358,
  v45:=Try.zeroValue358,
  t46:=Try.underlying359,
  a46:=Try.isAgg359,
  z46:=Try.sizeOf359,
  v46:=Try.zeroValue359,
  t50:=Try.underlying268,
  a50:=Try.isAgg268,
  z50:=Try.sizeOf268,
  v50:=Try.zeroValue268,
  t53:=Try.underlying365,
  a53:=Try.isAgg365,
  z53:=Try.sizeOf365,
  v53:=Try.zeroValue365,
  t55:=Try.underlying367,
  a55:=Try.isAgg367,
  z55:=Try.sizeOf367,
  v55:=Try.zeroValue367,
  t66:=Try.underlying395,
  a66:=Try.isAgg395,
  z66:=Try.sizeOf395,
  v66:=Try.zeroValue395,
  t70:=Try.underlying399,
  a70:=Try.isAgg399,
  z70:=Try.sizeOf399,
  v70:=Try.zeroValue399,
  t76:=Try.underlying421,
  a76:=Try.isAgg421,
  z76:=Try.sizeOf421,
  v76:=Try.zeroValue421,
  t77:=Try.underlying422,
  a77:=Try.isAgg422,
  z77:=Try.sizeOf422,
  v77:=Try.zeroValue422 }
def b7e:w6:=b88 I4 195 a0z (fun _=>True)
theorem b1f:b7e.Valid Try.prog 194 :=
  b2H (n:=100) b8a (by kernel_rfl) rfl rfl (b8p b3a _ _ rfl (fun _ _ _ _=>trivial)) c1Q
def b5b:w6:={ ps:=[.v (.d0 false I4),.s8 299 [I4]],rs:=[s6],pre:=fun x=>True,fn:=fun x=>(idxOf (C2 x.2.1.1.1) x.1,()),out:=fun _=>() }
noncomputable def a94:Env:={ P:=Try.prog,tt:=tt,C7:=[(299,b45)],res:=[Go.ResultVar.tmp 4],rs:=[Ty.int IntKind.i64],ps:=[PK.v (Ty.d0 false (Ty.pair (Ty.int IntKind.i64) (Ty.pair t7 (Ty.pair Ty.bool Ty.unit)))),PK.s8 299 [Ty.pair (Ty.int IntKind.i64) (Ty.pair t7 (Ty.pair Ty.bool Ty.unit))]],C5:=[(2,[(0,none),(1,none),(7,none),(8,none)])],nt:=19 }
theorem a6E:B0 a94:=B9 t8 ⟨b2X,trivial⟩
theorem a6u:D0 a94 Try.f190:=⟨rfl,rfl⟩
theorem c0u (x0:List (Int×(Int×Int×Unit)×Bool×Unit)) (x1c0_1:Int) (x1c0_2_1_1:Int) (x1c0_2_1_2_1:Int) (x1c0_2_2_1:Bool):exec a94 1000 [.code (d9 Try.prog 190)] (y8 b5b.ps ((x0,((x1c0_1,(x1c0_2_1_1,x1c0_2_1_2_1,()),x1c0_2_2_1,()),()),()))) =
  .cut (i5 (d9 Try.prog 190) 2).1 (i5 (d9 Try.prog 190) 2).2 (St.mk [(0,AV.val (Ty.d0 false (Ty.pair (Ty.int IntKind.i64) (Ty.pair t7 (Ty.pair Ty.bool Ty.unit)))) x0),(1,AV.s8 299 (AV.cons (AV.D9 (Ty.pair (Ty.int IntKind.i64) (Ty.pair t7 (Ty.pair Ty.bool Ty.unit))) (x1c0_1,(x1c0_2_1_1,x1c0_2_1_2_1,()),x1c0_2_2_1,())) AV.nil)),(7,AV.val (Ty.int IntKind.i64) (↑(List.length x0):Int)),(8,AV.val (Ty.int IntKind.i64) (0:Int))] []):=by kernel_rfl
def b2d (v0:List (Int×(Int×Int×Unit)×Bool×Unit)) (v1a_1:Int) (v1a_2_1_1:Int) (v1a_2_1_2_1:Int) (v1a_2_2_1:Bool) (v7:Int) (v8:Int):St:=St.mk [(0,AV.val (Ty.d0 false (Ty.pair (Ty.int IntKind.i64) (Ty.pair t7 (Ty.pair Ty.bool Ty.unit)))) v0),(1,AV.s8 299 (AV.cons (AV.D9 (Ty.pair (Ty.int IntKind.i64) (Ty.pair t7 (Ty.pair Ty.bool Ty.unit))) (v1a_1,(v1a_2_1_1,v1a_2_1_2_1,()),v1a_2_2_1,())) AV.nil)),(7,AV.val (Ty.int IntKind.i64) v7),(8,AV.val (Ty.int IntKind.i64) v8)] []
theorem b8M (v0:List (Int×(Int×Int×Unit)×Bool×Unit)) (v1a_1:Int) (v1a_2_1_1:Int) (v1a_2_1_2_1:Int) (v1a_2_2_1:Bool) (v7:Int) (v8:Int):exec a94 1000 (.code (i5 (d9 Try.prog 190) 2).1::.inLoop (i5 (d9 Try.prog 190) 2).1::(i5 (d9 Try.prog 190) 2).2) (b2d v0 v1a_1 v1a_2_1_1 v1a_2_1_2_1 v1a_2_2_1 v7 v8) =
  cond (decide (v8<v7)) (.f9 ((0:Int)≤v8∧v8<(↑(List.length v0):Int)) (.f9 (True) (cond (C2 v1a_1 (List.getD v0 (Int.toNat v8) ((0:Int),((0:Int),(0:Int),()),false,()))) (.ret ((v8,()))) (.f9 (C3 IntKind.i64 (v8+(1:Int))) (.cut (i5 (d9 Try.prog 190) 2).1 (i5 (d9 Try.prog 190) 2).2 (St.mk [(0,AV.val (Ty.d0 false (Ty.pair (Ty.int IntKind.i64) (Ty.pair t7 (Ty.pair Ty.bool Ty.unit)))) v0),(1,AV.s8 299 (AV.cons (AV.D9 (Ty.pair (Ty.int IntKind.i64) (Ty.pair t7 (Ty.pair Ty.bool Ty.unit))) (v1a_1,(v1a_2_1_1,v1a_2_1_2_1,()),v1a_2_2_1,())) AV.nil)),(7,AV.val (Ty.int IntKind.i64) v7),(8,AV.val (Ty.int IntKind.i64) (v8+(1:Int)))] [])))))) (.ret (((-1:Int),()))):=by kernel_rfl
theorem b23:b5b.Valid Try.prog 190:=by
  refine w6.t6 a6E rfl rfl Try.func190 (c:=d9 Try.prog 190) rfl rfl a6u rfl ?_
  rintro ⟨(l:List (w7)),⟨⟨(j:Int),⟨(m1:Int),(m2:Int),⟨⟩⟩,(g9:Bool),⟨⟩⟩,⟨⟩⟩,⟨⟩⟩ - ⟨⟨hl,-⟩,-⟩
  have hl:l.length≤9223372036854775807:=hl
  refine l8 (n:=1000) a6E a6u ?_
  refine j9 (c0u l j m1 m2 g9) ?_
  refine Reach.N1 a6E a6u (fun i:Nat=>b2d l j m1 m2 g9 (l.length:Int) (i:Int)) (fun i=>i≤l.length∧idxOf (C2 j) l=I0 (C2 j) (l.drop i) i)
    (fun i=>l.length - i) 1000 (fun _=>⟨x4 rfl,x4 rfl⟩) ?_ 0 ⟨by omega,rfl⟩
  rintro i ⟨k1,k2⟩ - ih
  refine j9 (b8M ..) ?_
  simp only [s4,Tree.holds,true_and,true_implies,decide_eq_true_eq,decide_eq_false_iff_not,Bool.not_eq_true',Bool.not_eq_false',Int.toNat_natCast,x5,List.length_set,List.length_cons,List.length_nil]
  refine ⟨fun h=>?_,fun h=>?_⟩
  · rw [P0 (show i<l.length by omega) ((0,(0,0,()),false,())),I0] at k2
    refine ⟨by omega,fun _=>⟨fun c=>?_,fun c=>⟨by omega,fun _=>ih (i+1) ⟨by omega,?_⟩ (by omega)⟩⟩⟩
    · show (((i:Int),()):Int×Unit)=(idxOf (C2 j) l,())
      rw [k2,if_pos (show (C2 j) (l.getD i ((0,(0,0,()),false,())))=true from c)]
    · rw [k2,if_neg (show ¬ (C2 j) (l.getD i ((0,(0,0,()),false,())))=true from fun h9=>Bool.noConfusion (Eq.trans (Eq.symm h9) c))]
  · rw [List.drop_eq_nil_of_le (by omega)] at k2
    show (((-1:Int),()):Int×Unit)=(idxOf (C2 j) l,())
    rw [k2]; rfl
def b5o:w6:={ ps:=[.v (.d0 false I4),.s8 299 [I4]],rs:=[.bool],pre:=fun x=>True,fn:=fun x=>(List.any (α:=w7) x.1 (C2 x.2.1.1.1),()),out:=fun _=>() }
noncomputable def b54:Env:={ P:=Try.prog,tt:=tt,C7:=[(190,b5b)],res:=[Go.ResultVar.tmp 4],rs:=[Ty.bool],ps:=[PK.v (Ty.d0 false (Ty.pair (Ty.int IntKind.i64) (Ty.pair t7 (Ty.pair Ty.bool Ty.unit)))),PK.s8 299 [Ty.pair (Ty.int IntKind.i64) (Ty.pair t7 (Ty.pair Ty.bool Ty.unit))]],C5:=[],nt:=9 }
theorem b2t:B0 b54:=B9 t8 ⟨b23,trivial⟩
theorem b1R:D0 b54 Try.f187:=⟨rfl,rfl⟩
theorem c0I (x0:List (Int×(Int×Int×Unit)×Bool×Unit)) (x1c0_1:Int) (x1c0_2_1_1:Int) (x1c0_2_1_2_1:Int) (x1c0_2_2_1:Bool):exec b54 1000 [.code (d9 Try.prog 187)] (y8 b5o.ps ((x0,((x1c0_1,(x1c0_2_1_1,x1c0_2_1_2_1,()),x1c0_2_2_1,()),()),()))) =
  .f9 (True) (.ret ((decide ((0:Int)≤idxOf (C2 x1c0_1) x0),()))):=by kernel_rfl
theorem b3g:b5o.Valid Try.prog 187:=by
  refine w6.t6 b2t rfl rfl Try.func187 (c:=d9 Try.prog 187) rfl rfl b1R rfl ?_
  rintro ⟨(l:List (w7)),⟨⟨(j:Int),⟨(m1:Int),(m2:Int),⟨⟩⟩,(g9:Bool),⟨⟩⟩,⟨⟩⟩,⟨⟩⟩ - -
  refine l8 (n:=1000) b2t b1R ?_
  refine j9 (c0I l j m1 m2 g9) ?_
  refine ⟨trivial,fun _=>?_⟩
  show ((decide (0≤idxOf (C2 j) l),()):Bool×Unit)=(l.any (C2 j),())
  rw [a3o]
def b5d:w6:={ ps:=[.v (.d0 false I4),.s8 188 [s6]],rs:=[s6],pre:=fun x=>True,fn:=fun x=>(idxOf (C2 x.2.1.1) x.1,()),out:=fun _=>() }
noncomputable def a96:Env:={ P:=Try.prog,tt:=tt,C7:=[(188,b48)],res:=[Go.ResultVar.tmp 4],rs:=[Ty.int IntKind.i64],ps:=[PK.v (Ty.d0 false (Ty.pair (Ty.int IntKind.i64) (Ty.pair t7 (Ty.pair Ty.bool Ty.unit)))),PK.s8 188 [Ty.int IntKind.i64]],C5:=[(2,[(0,none),(1,none),(7,none),(8,none)])],nt:=19 }
theorem a6G:B0 a96:=B9 t8 ⟨b20,trivial⟩
theorem a6w:D0 a96 Try.f190:=⟨rfl,rfl⟩
theorem c0w (x0:List (Int×(Int×Int×Unit)×Bool×Unit)) (x1c0:Int):exec a96 1000 [.code (d9 Try.prog 190)] (y8 b5d.ps ((x0,(x1c0,()),()))) =
  .cut (i5 (d9 Try.prog 190) 2).1 (i5 (d9 Try.prog 190) 2).2 (St.mk [(0,AV.val (Ty.d0 false (Ty.pair (Ty.int IntKind.i64) (Ty.pair t7 (Ty.pair Ty.bool Ty.unit)))) x0),(1,AV.s8 188 (AV.cons (AV.D9 (Ty.int IntKind.i64) x1c0) AV.nil)),(7,AV.val (Ty.int IntKind.i64) (↑(List.length x0):Int)),(8,AV.val (Ty.int IntKind.i64) (0:Int))] []):=by kernel_rfl
def b2f (v0:List (Int×(Int×Int×Unit)×Bool×Unit)) (v1a:Int) (v7:Int) (v8:Int):St:=St.mk [(0,AV.val (Ty.d0 false (Ty.pair (Ty.int IntKind.i64) (Ty.pair t7 (Ty.pair Ty.bool Ty.unit)))) v0),(1,AV.s8 188 (AV.cons (AV.D9 (Ty.int IntKind.i64) v1a) AV.nil)),(7,AV.val (Ty.int IntKind.i64) v7),(8,AV.val (Ty.int IntKind.i64) v8)] []
theorem b8O (v0:List (Int×(Int×Int×Unit)×Bool×Unit)) (v1a:Int) (v7:Int) (v8:Int):exec a96 1000 (.code (i5 (d9 Try.prog 190) 2).1::.inLoop (i5 (d9 Try.prog 190) 2).1::(i5 (d9 Try.prog 190) 2).2) (b2f v0 v1a v7 v8) =
  cond (decide (v8<v7)) (.f9 ((0:Int)≤v8∧v8<(↑(List.length v0):Int)) (.f9 (True) (cond (C2 v1a (List.getD v0 (Int.toNat v8) ((0:Int),((0:Int),(0:Int),()),false,()))) (.ret ((v8,()))) (.f9 (C3 IntKind.i64 (v8+(1:Int))) (.cut (i5 (d9 Try.prog 190) 2).1 (i5 (d9 Try.prog 190) 2).2 (St.mk [(0,AV.val (Ty.d0 false (Ty.pair (Ty.int IntKind.i64) (Ty.pair t7 (Ty.pair Ty.bool Ty.unit)))) v0),(1,AV.s8 188 (AV.cons (AV.D9 (Ty.int IntKind.i64) v1a) AV.nil)),(7,AV.val (Ty.int IntKind.i64) v7),(8,AV.val (Ty.int IntKind.i64) (v8+(1:Int)))] [])))))) (.ret (((-1:Int),()))):=by kernel_rfl
theorem b25:b5d.Valid Try.prog 190:=by
  refine w6.t6 a6G rfl rfl Try.func190 (c:=d9 Try.prog 190) rfl rfl a6w rfl ?_
  rintro ⟨(l:List (w7)),⟨(j:Int),⟨⟩⟩,⟨⟩⟩ - ⟨⟨hl,-⟩,-⟩
  have hl:l.length≤9223372036854775807:=hl
  refine l8 (n:=1000) a6G a6w ?_
  refine j9 (c0w l j) ?_
  refine Reach.N1 a6G a6w (fun i:Nat=>b2f l j (l.length:Int) (i:Int)) (fun i=>i≤l.length∧idxOf (C2 j) l=I0 (C2 j) (l.drop i) i)
    (fun i=>l.length - i) 1000 (fun _=>⟨x4 rfl,x4 rfl⟩) ?_ 0 ⟨by omega,rfl⟩
  rintro i ⟨k1,k2⟩ - ih
  refine j9 (b8O ..) ?_
  simp only [s4,Tree.holds,true_and,true_implies,decide_eq_true_eq,decide_eq_false_iff_not,Bool.not_eq_true',Bool.not_eq_false',Int.toNat_natCast,x5,List.length_set,List.length_cons,List.length_nil]
  refine ⟨fun h=>?_,fun h=>?_⟩
  · rw [P0 (show i<l.length by omega) ((0,(0,0,()),false,())),I0] at k2
    refine ⟨by omega,fun _=>⟨fun c=>?_,fun c=>⟨by omega,fun _=>ih (i+1) ⟨by omega,?_⟩ (by omega)⟩⟩⟩
    · show (((i:Int),()):Int×Unit)=(idxOf (C2 j) l,())
      rw [k2,if_pos (show (C2 j) (l.getD i ((0,(0,0,()),false,())))=true from c)]
    · rw [k2,if_neg (show ¬ (C2 j) (l.getD i ((0,(0,0,()),false,())))=true from fun h9=>Bool.noConfusion (Eq.trans (Eq.symm h9) c))]
  · rw [List.drop_eq_nil_of_le (by omega)] at k2
    show (((-1:Int),()):Int×Unit)=(idxOf (C2 j) l,())
    rw [k2]; rfl
def b5q:w6:={ ps:=[.v (.d0 false I4),.s8 188 [s6]],rs:=[.bool],pre:=fun x=>True,fn:=fun x=>(List.any (α:=w7) x.1 (C2 x.2.1.1),()),out:=fun _=>() }
noncomputable def b56:Env:={ P:=Try.prog,tt:=tt,C7:=[(190,b5d)],res:=[Go.ResultVar.tmp 4],rs:=[Ty.bool],ps:=[PK.v (Ty.d0 false (Ty.pair (Ty.int IntKind.i64) (Ty.pair t7 (Ty.pair Ty.bool Ty.unit)))),PK.s8 188 [Ty.int IntKind.i64]],C5:=[],nt:=9 }
theorem b2v:B0 b56:=B9 t8 ⟨b25,trivial⟩
theorem b1T:D0 b56 Try.f187:=⟨rfl,rfl⟩
theorem c0K (x0:List (Int×(Int×Int×Unit)×Bool×Unit)) (x1c0:Int):exec b56 1000 [.code (d9 Try.prog 187)] (y8 b5q.ps ((x0,(x1c0,()),()))) =
  .f9 (True) (.ret ((decide ((0:Int)≤idxOf (C2 x1c0) x0),()))):=by kernel_rfl
theorem b3i:b5q.Valid Try.prog 187:=by
  refine w6.t6 b2v rfl rfl Try.func187 (c:=d9 Try.prog 187) rfl rfl b1T rfl ?_
  rintro ⟨(l:List (w7)),⟨(j:Int),⟨⟩⟩,⟨⟩⟩ - -
  refine l8 (n:=1000) b2v b1T ?_
  refine j9 (c0K l j) ?_
  refine ⟨trivial,fun _=>?_⟩
  show ((decide (0≤idxOf (C2 j) l),()):Bool×Unit)=(l.any (C2 j),())
  rw [a3o]
def b5g:w6:={ ps:=[.v (.d0 false I4),.s8 191 [s6]],rs:=[s6],pre:=fun x=>True,fn:=fun x=>(idxOf (l5 x.2.1.1) x.1,()),out:=fun _=>() }
noncomputable def a99:Env:={ P:=Try.prog,tt:=tt,C7:=[(191,b5k)],res:=[Go.ResultVar.tmp 4],rs:=[Ty.int IntKind.i64],ps:=[PK.v (Ty.d0 false (Ty.pair (Ty.int IntKind.i64) (Ty.pair t7 (Ty.pair Ty.bool Ty.unit)))),PK.s8 191 [Ty.int IntKind.i64]],C5:=[(2,[(0,none),(1,none),(7,none),(8,none)])],nt:=19 }
theorem a6J:B0 a99:=B9 t8 ⟨b3c,trivial⟩
theorem a6z:D0 a99 Try.f190:=⟨rfl,rfl⟩
theorem c0z (x0:List (Int×(Int×Int×Unit)×Bool×Unit)) (x1c0:Int):exec a99 1000 [.code (d9 Try.prog 190)] (y8 b5g.ps ((x0,(x1c0,()),()))) =
  .cut (i5 (d9 Try.prog 190) 2).1 (i5 (d9 Try.prog 190) 2).2 (St.mk [(0,AV.val (Ty.d0 false (Ty.pair (Ty.int IntKind.i64) (Ty.pair t7 (Ty.pair Ty.bool Ty.unit)))) x0),(1,AV.s8 191 (AV.cons (AV.D9 (Ty.int IntKind.i64) x1c0) AV.nil)),(7,AV.val (Ty.int IntKind.i64) (↑(List.length x0):Int)),(8,AV.val (Ty.int IntKind.i64) (0:Int))] []):=by kernel_rfl
def b2i (v0:List (Int×(Int×Int×Unit)×Bool×Unit)) (v1a:Int) (v7:Int) (v8:Int):St:=St.mk [(0,AV.val (Ty.d0 false (Ty.pair (Ty.int IntKind.i64) (Ty.pair t7 (Ty.pair Ty.bool Ty.unit)))) v0),(1,AV.s8 191 (AV.cons (AV.D9 (Ty.int IntKind.i64) v1a) AV.nil)),(7,AV.val (Ty.int IntKind.i64) v7),(8,AV.val (Ty.int IntKind.i64) v8)] []
theorem b8R (v0:List (Int×(Int×Int×Unit)×Bool×Unit)) (v1a:Int) (v7:Int) (v8:Int):exec a99 1000 (.code (i5 (d9 Try.prog 190) 2).1::.inLoop (i5 (d9 Try.prog 190) 2).1::(i5 (d9 Try.prog 190) 2).2) (b2i v0 v1a v7 v8) =
  cond (decide (v8<v7)) (.f9 ((0:Int)≤v8∧v8<(↑(List.length v0):Int)) (.f9 (True) (cond (l5 v1a (List.getD v0 (Int.toNat v8) ((0:Int),((0:Int),(0:Int),()),false,()))) (.ret ((v8,()))) (.f9 (C3 IntKind.i64 (v8+(1:Int))) (.cut (i5 (d9 Try.prog 190) 2).1 (i5 (d9 Try.prog 190) 2).2 (St.mk [(0,AV.val (Ty.d0 false (Ty.pair (Ty.int IntKind.i64) (Ty.pair t7 (Ty.pair Ty.bool Ty.unit)))) v0),(1,AV.s8 191 (AV.cons (AV.D9 (Ty.int IntKind.i64) v1a) AV.nil)),(7,AV.val (Ty.int IntKind.i64) v7),(8,AV.val (Ty.int IntKind.i64) (v8+(1:Int)))] [])))))) (.ret (((-1:Int),()))):=by kernel_rfl
theorem b28:b5g.Valid Try.prog 190:=by
  refine w6.t6 a6J rfl rfl Try.func190 (c:=d9 Try.prog 190) rfl rfl a6z rfl ?_
  rintro ⟨(l:List (w7)),⟨(j:Int),⟨⟩⟩,⟨⟩⟩ - ⟨⟨hl,-⟩,-⟩
  have hl:l.length≤9223372036854775807:=hl
  refine l8 (n:=1000) a6J a6z ?_
  refine j9 (c0z l j) ?_
  refine Reach.N1 a6J a6z (fun i:Nat=>b2i l j (l.length:Int) (i:Int)) (fun i=>i≤l.length∧idxOf (l5 j) l=I0 (l5 j) (l.drop i) i)
    (fun i=>l.length - i) 1000 (fun _=>⟨x4 rfl,x4 rfl⟩) ?_ 0 ⟨by omega,rfl⟩
  rintro i ⟨k1,k2⟩ - ih
  refine j9 (b8R ..) ?_
  simp only [s4,Tree.holds,true_and,true_implies,decide_eq_true_eq,decide_eq_false_iff_not,Bool.not_eq_true',Bool.not_eq_false',Int.toNat_natCast,x5,List.length_set,List.length_cons,List.length_nil]
  refine ⟨fun h=>?_,fun h=>?_⟩
  · rw [P0 (show i<l.length by omega) ((0,(0,0,()),false,())),I0] at k2
    refine ⟨by omega,fun _=>⟨fun c=>?_,fun c=>⟨by omega,fun _=>ih (i+1) ⟨by omega,?_⟩ (by omega)⟩⟩⟩
    · show (((i:Int),()):Int×Unit)=(idxOf (l5 j) l,())
      rw [k2,if_pos (show (l5 j) (l.getD i ((0,(0,0,()),false,())))=true from c)]
    · rw [k2,if_neg (show ¬ (l5 j) (l.getD i ((0,(0,0,()),false,())))=true from fun h9=>Bool.noConfusion (Eq.trans (Eq.symm h9) c))]
  · rw [List.drop_eq_nil_of_le (by omega)] at k2
    show (((-1:Int),()):Int×Unit)=(idxOf (l5 j) l,())
    rw [k2]; rfl
def b5c:w6:={ ps:=[.v (.d0 false I4),.s8 193 [s6,Num]],rs:=[s6],pre:=fun x=>True,fn:=fun x=>(idxOf (taken x.2.1.1 x.2.1.2.1) x.1,()),out:=fun _=>() }
noncomputable def a95:Env:={ P:=Try.prog,tt:=tt,C7:=[(193,b5j)],res:=[Go.ResultVar.tmp 4],rs:=[Ty.int IntKind.i64],ps:=[PK.v (Ty.d0 false (Ty.pair (Ty.int IntKind.i64) (Ty.pair t7 (Ty.pair Ty.bool Ty.unit)))),PK.s8 193 [Ty.int IntKind.i64,Ty.pair (Ty.int IntKind.i64) (Ty.pair (Ty.int IntKind.i64) Ty.unit)]],C5:=[(2,[(0,none),(1,none),(7,none),(8,none)])],nt:=19 }
theorem a6F:B0 a95:=B9 t8 ⟨b3b,trivial⟩
theorem a6v:D0 a95 Try.f190:=⟨rfl,rfl⟩
theorem c0v (x0:List (Int×(Int×Int×Unit)×Bool×Unit)) (x1c0:Int) (x1c1_1:Int) (x1c1_2_1:Int):exec a95 1000 [.code (d9 Try.prog 190)] (y8 b5c.ps ((x0,(x1c0,(x1c1_1,x1c1_2_1,()),()),()))) =
  .cut (i5 (d9 Try.prog 190) 2).1 (i5 (d9 Try.prog 190) 2).2 (St.mk [(0,AV.val (Ty.d0 false (Ty.pair (Ty.int IntKind.i64) (Ty.pair t7 (Ty.pair Ty.bool Ty.unit)))) x0),(1,AV.s8 193 (AV.cons (AV.D9 (Ty.int IntKind.i64) x1c0) (AV.cons (AV.D9 t7 (x1c1_1,x1c1_2_1,())) AV.nil))),(7,AV.val (Ty.int IntKind.i64) (↑(List.length x0):Int)),(8,AV.val (Ty.int IntKind.i64) (0:Int))] []):=by kernel_rfl
def b2e (v0:List (Int×(Int×Int×Unit)×Bool×Unit)) (v1a:Int) (v1ba_1:Int) (v1ba_2_1:Int) (v7:Int) (v8:Int):St:=St.mk [(0,AV.val (Ty.d0 false (Ty.pair (Ty.int IntKind.i64) (Ty.pair t7 (Ty.pair Ty.bool Ty.unit)))) v0),(1,AV.s8 193 (AV.cons (AV.D9 (Ty.int IntKind.i64) v1a) (AV.cons (AV.D9 t7 (v1ba_1,v1ba_2_1,())) AV.nil))),(7,AV.val (Ty.int IntKind.i64) v7),(8,AV.val (Ty.int IntKind.i64) v8)] []
theorem b8N (v0:List (Int×(Int×Int×Unit)×Bool×Unit)) (v1a:Int) (v1ba_1:Int) (v1ba_2_1:Int) (v7:Int) (v8:Int):exec a95 1000 (.code (i5 (d9 Try.prog 190) 2).1::.inLoop (i5 (d9 Try.prog 190) 2).1::(i5 (d9 Try.prog 190) 2).2) (b2e v0 v1a v1ba_1 v1ba_2_1 v7 v8) =
  cond (decide (v8<v7)) (.f9 ((0:Int)≤v8∧v8<(↑(List.length v0):Int)) (.f9 (True) (cond (taken v1a (v1ba_1,v1ba_2_1,()) (List.getD v0 (Int.toNat v8) ((0:Int),((0:Int),(0:Int),()),false,()))) (.ret ((v8,()))) (.f9 (C3 IntKind.i64 (v8+(1:Int))) (.cut (i5 (d9 Try.prog 190) 2).1 (i5 (d9 Try.prog 190) 2).2 (St.mk [(0,AV.val (Ty.d0 false (Ty.pair (Ty.int IntKind.i64) (Ty.pair t7 (Ty.pair Ty.bool Ty.unit)))) v0),(1,AV.s8 193 (AV.cons (AV.D9 (Ty.int IntKind.i64) v1a) (AV.cons (AV.D9 t7 (v1ba_1,v1ba_2_1,())) AV.nil))),(7,AV.val (Ty.int IntKind.i64) v7),(8,AV.val (Ty.int IntKind.i64) (v8+(1:Int)))] [])))))) (.ret (((-1:Int),()))):=by kernel_rfl
theorem b24:b5c.Valid Try.prog 190:=by
  refine w6.t6 a6F rfl rfl Try.func190 (c:=d9 Try.prog 190) rfl rfl a6v rfl ?_
  rintro ⟨(l:List (w7)),⟨(j:Int),⟨(m1:Int),(m2:Int),⟨⟩⟩,⟨⟩⟩,⟨⟩⟩ - ⟨⟨hl,-⟩,-⟩
  have hl:l.length≤9223372036854775807:=hl
  refine l8 (n:=1000) a6F a6v ?_
  refine j9 (c0v l j m1 m2) ?_
  refine Reach.N1 a6F a6v (fun i:Nat=>b2e l j m1 m2 (l.length:Int) (i:Int)) (fun i=>i≤l.length∧idxOf (taken j (m1,m2,())) l=I0 (taken j (m1,m2,())) (l.drop i) i)
    (fun i=>l.length - i) 1000 (fun _=>⟨x4 rfl,x4 rfl⟩) ?_ 0 ⟨by omega,rfl⟩
  rintro i ⟨k1,k2⟩ - ih
  refine j9 (b8N ..) ?_
  simp only [s4,Tree.holds,true_and,true_implies,decide_eq_true_eq,decide_eq_false_iff_not,Bool.not_eq_true',Bool.not_eq_false',Int.toNat_natCast,x5,List.length_set,List.length_cons,List.length_nil]
  refine ⟨fun h=>?_,fun h=>?_⟩
  · rw [P0 (show i<l.length by omega) ((0,(0,0,()),false,())),I0] at k2
    refine ⟨by omega,fun _=>⟨fun c=>?_,fun c=>⟨by omega,fun _=>ih (i+1) ⟨by omega,?_⟩ (by omega)⟩⟩⟩
    · show (((i:Int),()):Int×Unit)=(idxOf (taken j (m1,m2,())) l,())
      rw [k2,if_pos (show (taken j (m1,m2,())) (l.getD i ((0,(0,0,()),false,())))=true from c)]
    · rw [k2,if_neg (show ¬ (taken j (m1,m2,())) (l.getD i ((0,(0,0,()),false,())))=true from fun h9=>Bool.noConfusion (Eq.trans (Eq.symm h9) c))]
  · rw [List.drop_eq_nil_of_le (by omega)] at k2
    show (((-1:Int),()):Int×Unit)=(idxOf (taken j (m1,m2,())) l,())
    rw [k2]; rfl
def b5p:w6:={ ps:=[.v (.d0 false I4),.s8 193 [s6,Num]],rs:=[.bool],pre:=fun x=>True,fn:=fun x=>(List.any (α:=w7) x.1 (taken x.2.1.1 x.2.1.2.1),()),out:=fun _=>() }
noncomputable def b55:Env:={ P:=Try.prog,tt:=tt,C7:=[(190,b5c)],res:=[Go.ResultVar.tmp 4],rs:=[Ty.bool],ps:=[PK.v (Ty.d0 false (Ty.pair (Ty.int IntKind.i64) (Ty.pair t7 (Ty.pair Ty.bool Ty.unit)))),PK.s8 193 [Ty.int IntKind.i64,Ty.pair (Ty.int IntKind.i64) (Ty.pair (Ty.int IntKind.i64) Ty.unit)]],C5:=[],nt:=9 }
theorem b2u:B0 b55:=B9 t8 ⟨b24,trivial⟩
theorem b1S:D0 b55 Try.f187:=⟨rfl,rfl⟩
theorem c0J (x0:List (Int×(Int×Int×Unit)×Bool×Unit)) (x1c0:Int) (x1c1_1:Int) (x1c1_2_1:Int):exec b55 1000 [.code (d9 Try.prog 187)] (y8 b5p.ps ((x0,(x1c0,(x1c1_1,x1c1_2_1,()),()),()))) =
  .f9 (True) (.ret ((decide ((0:Int)≤idxOf (taken x1c0 (x1c1_1,x1c1_2_1,())) x0),()))):=by kernel_rfl
theorem b3h:b5p.Valid Try.prog 187:=by
  refine w6.t6 b2u rfl rfl Try.func187 (c:=d9 Try.prog 187) rfl rfl b1S rfl ?_
  rintro ⟨(l:List (w7)),⟨(j:Int),⟨(m1:Int),(m2:Int),⟨⟩⟩,⟨⟩⟩,⟨⟩⟩ - -
  refine l8 (n:=1000) b2u b1S ?_
  refine j9 (c0J l j m1 m2) ?_
  refine ⟨trivial,fun _=>?_⟩
  show ((decide (0≤idxOf (taken j (m1,m2,())) l),()):Bool×Unit)=(l.any (taken j (m1,m2,())),())
  rw [a3o]
theorem c1A:Ty.wb I4=32:=rfl
def b1m:w6:={ ps:=[.v (.d0 false I4)],rs:=[.d0 true I4],pre:=fun x=>List.length (α:=w7) x.1≤1048576,fn:=fun x=>x,out:=fun _=>() }
noncomputable def b8Z:Env:={ P:=Try.prog,tt:=tt,C7:=[],res:=[Go.ResultVar.tmp 2],rs:=[Ty.d0 true (Ty.pair (Ty.int IntKind.i64) (Ty.pair t7 (Ty.pair Ty.bool Ty.unit)))],ps:=[PK.v (Ty.d0 false (Ty.pair (Ty.int IntKind.i64) (Ty.pair t7 (Ty.pair Ty.bool Ty.unit))))],C5:=[],nt:=8 }
theorem b4k:B0 b8Z:=B9 t8 trivial
theorem b4d:D0 b8Z Try.f91:=⟨rfl,rfl⟩
theorem c1w (x0:List (Int×(Int×Int×Unit)×Bool×Unit)):exec b8Z 1000 [.code (d9 Try.prog 91)] (y8 b1m.ps ((x0,()))) =
  .both (x0=[]) (.ret (([],()))) (.f9 ((0:Nat)+List.length x0≤140737488355328∧((0:Nat)+List.length x0)*Ty.wb (Ty.pair (Ty.int IntKind.i64) (Ty.pair t7 (Ty.pair Ty.bool Ty.unit)))≤140737488355328) (.ret (([]++x0,())))):=by kernel_rfl
theorem a35:b1m.Valid Try.prog 91:=by
  refine w6.t6 b4k rfl rfl Try.func91 (c:=d9 Try.prog 91) rfl rfl b4d rfl ?_
  rintro ⟨(l:List (w7)),⟨⟩⟩ hp -
  have hp:l.length≤1048576:=hp
  refine l8 (n:=1000) b4k b4d ?_
  refine j9 (c1w l) ?_
  simp only [s4,Tree.holds,true_and,true_implies,decide_eq_true_eq,decide_eq_false_iff_not,Bool.not_eq_true',Bool.not_eq_false',Int.toNat_natCast,x5,List.length_set,List.length_cons,List.length_nil,c1A]
  refine ⟨fun h=>?_,by omega,fun _=>rfl⟩
  show (([],()):List (w7)×Unit)=(l,())
  rw [show l=[] from h]
end Go.Proofs.Ytekbamiaenbhjaa
