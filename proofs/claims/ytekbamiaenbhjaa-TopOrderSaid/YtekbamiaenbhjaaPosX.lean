/- poset.Chains. No condition. -/
import Derived.Test.YtekbamiaenbhjaaPosC
import Derived.Test.YtekbamiaenbhjaaSortE
import Derived.Test.YtekbamiaenbhjaaCmpI
import Derived.Shelf.SlGeneric
namespace Go.Proofs.Ytekbamiaenbhjaa
open Go.Ex Go.Sort
set_option maxRecDepth 100000
def before (R:Nat→Nat→Bool) (n b:Nat):List Nat:=(List.range n).filter (fun a=>R a b)
theorem b1B {R:Nat→Nat→Bool} {n a b:Nat} (ht:∀ x y z,R x y=true→R y z=true→R x z=true) (hi:∀ x,R x x=false) (ha:a<n) (h:R a b=true):(before R n a).length<(before R n b).length:=by
  have hnd:∀ c,(before R n c).Nodup:=fun c=>List.Pairwise.sublist List.filter_sublist List.nodup_range
  have h1:(a::before R n a).Nodup:=List.nodup_cons.2 ⟨fun h=>(by have:=(List.mem_filter.1 h).2; rw [hi] at this; cases this),hnd a⟩
  have:=a0x h1 (S:=before R n b) (fun x hx=>by
    rcases List.mem_cons.1 hx with rfl|hx
    · exact List.mem_filter.2 ⟨List.mem_range.2 ha,h⟩
    · obtain ⟨h2,h3⟩:=List.mem_filter.1 hx
      exact List.mem_filter.2 ⟨h2,ht _ _ _ h3 h⟩)
  rw [List.length_cons] at this
  omega
def b7T:w9:={ ps:=[.v (.d0 false .bool),.v i5],rs:=[.d0 true .bool],pre:=fun x=>List.length (α:=Bool) x.1=1∧LE.le (α:=Int) 0 x.2.1∧LE.le (α:=Int) x.2.1 40,fn:=fun x=>(List.replicate (Int.toNat x.2.1) (List.getD (α:=Bool) x.1 0 false),()),out:=fun _=>() }
noncomputable def a98:Env:={ P:=Try.prog,tt:=tt,F2:=[(227,b7Y)],res:=[Go.ResultVar.tmp 4],rs:=[Ty.d0 true Ty.bool],ps:=[PK.v (Ty.d0 false Ty.bool),PK.v i5],D8:=[(8,[(7,some (Ty.d0 true Ty.bool)),(8,none)])],nt:=48 }
theorem a8Z:B6 a98:=D0 w5 ⟨a9R,trivial⟩
theorem a8O:E3 a98 Try.f136:=⟨rfl,rfl⟩
theorem c39 (x0:List Bool) (x1:Int):exec a98 1000 [.code (d8 Try.prog 136)] (A5 b7T.ps ((x0,x1,()))) =
  cond (decide (x1<(0:Int))) (.stuck "op") (.e8 (IntKind.wrap IntKind.u64 (↑(List.length x0):Int)=(1:Int)∧(0:Int)≤IntKind.wrap IntKind.u64 x1∧IntKind.wrap IntKind.u64 x1≤(40:Int)) (cond (decide ((9223372036854775807:Int)<IntKind.wrap IntKind.u64 x1)) (.stuck "op") (.e8 ((0:Int)≤IntKind.wrap IntKind.i64 (IntKind.wrap IntKind.u64 x1)∧IntKind.wrap IntKind.i64 (IntKind.wrap IntKind.u64 x1)≤IntKind.wrap IntKind.i64 (IntKind.wrap IntKind.u64 x1)∧IntKind.wrap IntKind.i64 (IntKind.wrap IntKind.u64 x1)≤(140737488355328:Int)∧IntKind.wrap IntKind.i64 (IntKind.wrap IntKind.u64 x1)*(↑(Ty.wb Ty.bool):Int)≤(140737488355328:Int)) (.ctL (d9 (d8 Try.prog 136) 8) (St.mk [(7,AV.at_ 1000007 []),(8,vI (↑(List.length (List.take (Int.toNat ((↑(List.length (List.replicate (Int.toNat (IntKind.wrap IntKind.i64 (IntKind.wrap IntKind.u64 x1))) false)):Int) - (0:Int))) x0)):Int))] [(1000007,f7.own (Ty.d0 true Ty.bool) (List.take (Int.toNat (0:Int)) (List.replicate (Int.toNat (IntKind.wrap IntKind.i64 (IntKind.wrap IntKind.u64 x1))) false)++List.take (Int.toNat ((↑(List.length (List.replicate (Int.toNat (IntKind.wrap IntKind.i64 (IntKind.wrap IntKind.u64 x1))) false)):Int) - (0:Int))) x0++List.drop (Int.toNat (0:Int)+List.length (List.take (Int.toNat ((↑(List.length (List.replicate (Int.toNat (IntKind.wrap IntKind.i64 (IntKind.wrap IntKind.u64 x1))) false)):Int) - (0:Int))) x0)) (List.replicate (Int.toNat (IntKind.wrap IntKind.i64 (IntKind.wrap IntKind.u64 x1))) false)))]))))):=by kernel_rfl
def a8Y (v8:Int) (o1000007:List Bool):St:=St.mk [(7,AV.at_ 1000007 []),(8,vI v8)] [(1000007,f7.own (Ty.d0 true Ty.bool) o1000007)]
theorem c2o (v8:Int) (o1000007:List Bool):exec a98 1000 (.code (d9 (d8 Try.prog 136) 8).1::.inLoop (d9 (d8 Try.prog 136) 8).1::(d9 (d8 Try.prog 136) 8).2) (a8Y v8 o1000007) =
  cond (decide (v8<(↑(List.length o1000007):Int))) (.e8 ((0:Int)≤v8∧v8≤(↑(List.length o1000007):Int)∧(↑(List.length o1000007):Int)≤(↑(List.length o1000007):Int)) (.e8 ((0:Int)≤(0:Int)∧(0:Int)≤v8∧v8≤(↑(List.length o1000007):Int)) (.e8 (r9 IntKind.i64 (v8+(↑(List.length (List.take (Int.toNat ((↑(List.length o1000007):Int) - v8)) (B5 (0:Int) v8 o1000007))):Int))) (.ctL (d9 (d8 Try.prog 136) 8) (St.mk [(7,AV.at_ 1000007 []),(8,vI (v8+(↑(List.length (List.take (Int.toNat ((↑(List.length o1000007):Int) - v8)) (B5 (0:Int) v8 o1000007))):Int)))] [(1000007,f7.own (Ty.d0 true Ty.bool) (List.take (Int.toNat v8) o1000007++List.take (Int.toNat ((↑(List.length o1000007):Int) - v8)) (B5 (0:Int) v8 o1000007)++List.drop (Int.toNat v8+List.length (List.take (Int.toNat ((↑(List.length o1000007):Int) - v8)) (B5 (0:Int) v8 o1000007))) o1000007))]))))) (.ret ((o1000007,()))):=by kernel_rfl
def flB (N c:Nat) (v:Bool):List Bool:=List.replicate c v++List.replicate (N - c) false
theorem c1D {N c:Nat} {v:Bool} (hc:c≤N):List.take c (flB N c v)++List.take (N - c) (List.take c (flB N c v))++List.drop (c+(List.take (N - c) (List.take c (flB N c v))).length) (flB N c v)=flB N (c+min (N - c) c) v:=by
  have h1:List.take c (flB N c v)=List.replicate c v:=by rw [flB,List.take_append_of_le_length (by simp),List.take_of_length_le (by simp)]
  rw [h1,List.take_replicate,List.length_replicate,flB,flB,List.drop_append,List.drop_eq_nil_of_le (by simp),List.nil_append,List.length_replicate,List.drop_replicate,List.replicate_append_replicate]
  congr 2
  omega
set_option maxHeartbeats 4000000 in
theorem b5j:b7T.Valid Try.prog 136:=by
  refine w9.u7 a8Z rfl rfl Try.func136 (c:=d8 Try.prog 136) rfl rfl a8O rfl ?_
  rintro ⟨(l:List Bool),(n:Int),⟨⟩⟩ ⟨(hl:l.length=1),(h0:0≤n),(h1:n≤40)⟩ -
  obtain ⟨v,rfl⟩:∃ v,l=[v]:=by
    match l,hl with
    | [v],_=>exact ⟨v,rfl⟩
  obtain ⟨N,rfl⟩:∃ N:Nat,n=(N:Int):=⟨n.toNat,by omega⟩
  refine n7 (n:=1000) a8Z a8O ?_
  refine g9 (c39 [v] (N:Int)) ?_
  have w1:IntKind.wrap .u64 (N:Int)=N:=N9 ⟨by show (0:Int)≤_; omega,by show (N:Int)≤18446744073709551615; omega⟩
  have w2:IntKind.wrap .i64 (N:Int)=N:=N9 ⟨by show (-9223372036854775808:Int)≤_; omega,by show (N:Int)≤9223372036854775807; omega⟩
  have w3:IntKind.wrap .u64 ((([v]:List Bool).length:Nat):Int)=1:=by show IntKind.wrap .u64 (1:Int)=1; decide
  have w4:Ty.wb .bool=1:=rfl
  simp only [i9,Tree.holds,true_and,true_implies,decide_eq_true_eq,decide_eq_false_iff_not,Bool.not_eq_true',Bool.not_eq_false',Int.toNat_natCast,l7,List.length_set,List.length_cons,List.length_nil,w1,w2,w4]
  refine ⟨fun c=>by omega,fun _=>⟨⟨w3,by omega,by omega⟩,fun _=>⟨fun c=>by omega,fun _=>⟨by omega,fun _=>?_⟩⟩⟩⟩
  have loop:∀ c:Nat,(c≤N∧(N=0∨1≤c))→Go.Ex.Reach a98 Try.f136 (List.replicate N v,()) () (.code (d9 (d8 Try.prog 136) 8).1::.inLoop (d9 (d8 Try.prog 136) 8).1::(d9 (d8 Try.prog 136) 8).2) (a8Y (c:Int) (flB N c v)):=by
    refine Reach.C1 a8Z a8O (fun c:Nat=>a8Y (c:Int) (flB N c v)) (fun c=>c≤N∧(N=0∨1≤c)) (fun c=>N - c) 1000 (fun _=>⟨j7 rfl,j7 rfl⟩) ?_
    rintro c ⟨k1,k2⟩ - ih
    have hlen:(flB N c v).length=N:=by rw [flB,List.length_append,List.length_replicate,List.length_replicate]; omega
    have h1:List.take c (flB N c v)=List.replicate c v:=by rw [flB,List.take_append_of_le_length (by simp),List.take_of_length_le (by simp)]
    refine g9 (c2o ..) ?_
    have e1:B5 0 (c:Int) (flB N c v)=List.take c (flB N c v):=by rw [B5,Int.toNat_zero,List.drop_zero,show ((c:Int) - 0).toNat=c by omega]
    have e2:(((flB N c v).length:Int) - (c:Int)).toNat=N - c:=by omega
    have e3:(List.take (N - c) (List.take c (flB N c v))).length=min (N - c) c:=by rw [h1,List.length_take,List.length_replicate]
    have e4:=c1D (v:=v) k1
    rw [e3] at e4
    simp only [i9,Tree.holds,true_and,true_implies,decide_eq_true_eq,decide_eq_false_iff_not,Bool.not_eq_true',Bool.not_eq_false',Int.toNat_natCast,l7,List.length_set,List.length_cons,List.length_nil,e1,e2,e3,e4]
    rw [hlen]
    refine ⟨fun a=>⟨by omega,fun _=>⟨by omega,fun _=>⟨by omega,fun _=>ih (c+min (N - c) c) ⟨by omega,by omega⟩ (by omega)⟩⟩⟩,fun a=>?_⟩
    show ((flB N c v,()):List Bool×Unit)=(List.replicate N v,())
    rw [show c=N by omega,flB,Nat.sub_self,List.replicate_zero,List.append_nil]
  have hs:=loop (min N 1) ⟨by omega,by omega⟩
  have e5:List.take ((((List.replicate N false).length:Nat):Int) - 0).toNat [v]=List.replicate (min N 1) v:=by
    rw [List.length_replicate,show ((N:Int) - 0).toNat=N by omega]
    cases N with
    | zero=>rfl
    | succ N=>rw [show min (N+1) 1=1 by omega]; simp
  have e6:List.take 0 (List.replicate N false)++List.replicate (min N 1) v++List.drop (0+(List.replicate (min N 1) v).length) (List.replicate N false)=flB N (min N 1) v:=by
    rw [List.take_zero,List.nil_append,List.length_replicate,List.drop_replicate,Nat.zero_add]; rfl
  have hs2:=hs
  rw [← e6] at hs2
  rw [e5]
  rw [List.length_replicate] at hs2 ⊢
  exact hs2

def a2X (x y:List Int):Int:=a1T (x.getD 0 0) (y.getD 0 0)
def c4K:w9:={ ps:=[.v (.d0 false i5),.v (.d0 false i5)],rs:=[i5],pre:=fun x=>1≤List.length (α:=Int) x.1∧1≤List.length (α:=Int) x.2.1,fn:=fun x=>(a2X x.1 x.2.1,()),out:=fun _=>() }
noncomputable def c2F:Env:={ P:=Try.prog,tt:=tt,F2:=[(132,b2F)],res:=[Go.ResultVar.tmp 4],rs:=[Ty.int IntKind.i64],ps:=[PK.v (Ty.d0 false i5),PK.v (Ty.d0 false i5)],D8:=[],nt:=12 }
theorem b6K:B6 c2F:=D0 w5 ⟨a71,trivial⟩
theorem b6D:E3 c2F Try.f138:=⟨rfl,rfl⟩
theorem c42 (x0:List Int) (x1:List Int):exec c2F 1000 [.code (d8 Try.prog 138)] (A5 c4K.ps ((x0,x1,()))) =
  .e8 ((0:Int)≤(0:Int)∧(0:Int)<(↑(List.length x0):Int)) (.e8 ((0:Int)≤(0:Int)∧(0:Int)<(↑(List.length x1):Int)) (.e8 (True) (.ret ((a1T (List.getD x0 (Int.toNat (0:Int)) (0:Int)) (List.getD x1 (Int.toNat (0:Int)) (0:Int)),()))))):=by kernel_rfl
theorem b78:c4K.Valid Try.prog 138:=by
  refine w9.u7 b6K rfl rfl Try.func138 (c:=d8 Try.prog 138) rfl rfl b6D rfl ?_
  rintro ⟨(x:List Int),(y:List Int),⟨⟩⟩ ⟨(h1:1≤x.length),(h2:1≤y.length)⟩ -
  refine n7 (n:=1000) b6K b6D ?_
  refine g9 (c42 x y) ?_
  simp only [i9,Tree.holds,true_and,true_implies,decide_eq_true_eq,decide_eq_false_iff_not,Bool.not_eq_true',Bool.not_eq_false',Int.toNat_natCast,l7,List.length_set,List.length_cons,List.length_nil]
  exact ⟨by omega,fun _=>⟨by omega,fun _=>rfl⟩⟩
theorem a3m {x y:List Int}:a2X x y<0↔x.getD 0 0<y.getD 0 0:=by
  unfold a2X a1T
  split
  · omega
  · split<;>omega
theorem c4r:SWO (V3 a2X) :=
  ⟨fun x=>by rw [V3,decide_eq_false_iff_not,a3m]; omega,fun x y z=>by simp only [V3,decide_eq_true_eq,a3m]; omega,fun x y z=>by simp only [V3,decide_eq_false_iff_not,a3m]; omega⟩
def b3r:Go.Shelf.Ren:=⟨fun|6=>137|14=>228|15=>180|20=>282|21=>283|22=>284|23=>285|24=>286|25=>287|26=>288|27=>289|28=>254|29=>255|46=>326|47=>294|48=>295|49=>327|50=>328|57=>348|n=>n,fun|0=>0|3=>3|4=>4|5=>5|9=>9|22=>53|24=>24|25=>247|39=>297|45=>358|46=>359|50=>268|53=>365|55=>367|66=>395|70=>399|76=>421|77=>422|n=>n,fun|n=>n⟩
theorem c1s:Go.Proofs.SlLaysF.n6 Try.prog b3r:={
  mixed:=by kernel_rfl,
  f6:=⟨Try.f137.name,by decide,Try.func137.trans (congrArg some (by kernel_rfl))⟩,
  f14:=⟨Try.f228.name,by decide,Try.func228.trans (congrArg some (by kernel_rfl))⟩,
  f15:=Try.func180.trans (congrArg some (by kernel_rfl)),
  f20:=⟨Try.f282.name,by decide,Try.func282.trans (congrArg some (by kernel_rfl))⟩,
  f21:=⟨Try.f283.name,by decide,Try.func283.trans (congrArg some (by kernel_rfl))⟩,
  f22:=⟨Try.f284.name,by decide,Try.func284.trans (congrArg some (by kernel_rfl))⟩,
  f23:=⟨Try.f285.name,by decide,Try.func285.trans (congrArg some (by kernel_rfl))⟩,
  f24:=⟨Try.f286.name,by decide,Try.func286.trans (congrArg some (by kernel_rfl))⟩,
  f25:=⟨Try.f287.name,by decide,Try.func287.trans (congrArg some (by kernel_rfl))⟩,
  f26:=⟨Try.f288.name,by decide,Try.func288.trans (congrArg some (by kernel_rfl))⟩,
  f27:=⟨Try.f289.name,by decide,Try.func289.trans (congrArg some (by kernel_rfl))⟩,
  f28:=Try.func254.trans (congrArg some (by kernel_rfl)),
  f29:=Try.func255.trans (congrArg some (by kernel_rfl)),
  f46:=⟨Try.f326.name,by decide,Try.func326.trans (congrArg some (by kernel_rfl))⟩,
  f47:=Try.func294.trans (congrArg some (by kernel_rfl)),
  f48:=Try.func295.trans (congrArg some (by kernel_rfl)),
  f49:=⟨Try.f327.name,by decide,Try.func327.trans (congrArg some (by kernel_rfl))⟩,
  f50:=⟨Try.f328.name,by decide,Try.func328.trans (congrArg some (by kernel_rfl))⟩,
  f57:=⟨Try.f348.name,by decide,Try.func348.trans (congrArg some (by kernel_rfl))⟩,
  t0:=Try.underlying0,
  a0:=Try.isAgg0,
  z0:=Try.sizeOf0,
  v0:=Try.zeroValue0,
  t3:=Try.underlying3,
  a3:=Try.isAgg3,
  z3:=Try.sizeOf3,
  v3:=Try.zeroValue3,
  t4:=Try.underlying4,
  a4:=Try.isAgg4,
  z4:=Try.sizeOf4,
  v4:=Try.zeroValue4,
  t5:=Try.underlying5,
  a5:=Try.isAgg5,
  z5:=Try.sizeOf5,
  v5:=Try.zeroValue5,
  t9:=Try.underlying9,
  a9:=Try.isAgg9,
  z9:=Try.sizeOf9,
  v9:=Try.zeroValue9,
  t22:=Try.underlying53,
  a22:=Try.isAgg53,
  z22:=Try.sizeOf53,
  v22:=Try.zeroValue53,
  a24:=Try.isAgg24,
  z24:=Try.sizeOf24,
  t25:=Try.underlying247,
  a25:=Try.isAgg247,
  z25:=Try.sizeOf247,
  v25:=Try.zeroValue247,
  t39:=Try.underlying297,
  a39:=Try.isAgg297,
  z39:=Try.sizeOf297,
  v39:=Try.zeroValue297,
  t45:=Try.underlying358,
  a45:=Try.isAgg358,
  z45:=Try.sizeOf358,
  v45:=Try.zeroValue358,
  t46:=Try.underlying359,
  a46:=Try.isAgg359,
  z46:=Try.sizeOf359,
  v46:=Try.zeroValue359,
  t50:=Try.underlying268,
  a50:=Try.isAgg268,
  z50:=Try.sizeOf268,
  v50:=Try.zeroValue268,
  t53:=Try.underlying365,
  a53:=Try.isAgg365,
  z53:=Try.sizeOf365,
  v53:=Try.zeroValue365,
  t55:=Try.underlying367,
  a55:=Try.isAgg367,
  z55:=Try.sizeOf367,
  v55:=Try.zeroValue367,
  t66:=Try.underlying395,
  a66:=Try.isAgg395,
  z66:=Try.sizeOf395,
  v66:=Try.zeroValue395,
  t70:=Try.underlying399,
  a70:=Try.isAgg399,
  z70:=Try.sizeOf399,
  v70:=Try.zeroValue399,
  t76:=Try.underlying421,
  a76:=Try.isAgg421,
  z76:=Try.sizeOf421,
  v76:=Try.zeroValue421,
  t77:=Try.underlying422,
  a77:=Try.isAgg422,
  z77:=Try.sizeOf422,
  v77:=Try.zeroValue422 }
def b91:w9:=c2M (.d0 true i5) 138 a2X (fun x=>1≤List.length (α:=Int) x)
theorem b3O:b91.Valid Try.prog 137 :=
  b4W c1s rfl rfl (b92 b78 _ (fun x=>a2X x.1 x.2.1) _ rfl (fun x y hx hy=>⟨hx,hy⟩) (fun _ _=>rfl) rfl rfl) c4r
def L9 (n:Int) (l:List s5):List (List Int)×Int×Unit:=if J6 n l≠0 then ([],J6 n l,()) else (E8 n.toNat (U1 n n (M7 n.toNat (wk (D6 l) n.toNat))).1 n.toNat,0,())
def b0M:w9:={ ps:=[.v Pos],rs:=[.d0 true (.d0 true i5),i5],pre:=fun _=>True,fn:=fun x=>L9 x.1.1 x.1.2.1,out:=fun _=>() }
noncomputable def a1z:Env:={ P:=Try.prog,tt:=tt,F2:=[(133,a5C),(134,b8b),(96,b3V),(135,b7U),(136,b7T),(137,b91)],res:=[Go.ResultVar.tmp 2,Go.ResultVar.tmp 3],rs:=[Ty.d0 true Is,Ty.int IntKind.i64],ps:=[PK.v (Ty.pair i5 (Ty.pair (Ty.d0 false r7) Ty.unit))],D8:=[(8,[(8,some Is),(9,some (Ty.d0 true Ty.bool)),(44,some (Ty.d0 true r7)),(45,none),(46,none)]),(15,[(8,some Is),(12,some (Ty.d0 true Is)),(61,some (Ty.d0 true Ty.bool)),(62,none),(63,none)]),(19,[(8,some Is),(12,some (Ty.d0 true Is)),(13,none),(15,some Is),(61,some (Ty.d0 true Ty.bool)),(62,none),(63,none)])],nt:=88 }
theorem a13:B6 a1z:=D0 w5 ⟨a4U,b5u,b3U,a9Q,b5j,b3O,trivial⟩
theorem a10:E3 a1z Try.f29:=⟨rfl,rfl⟩
theorem c0C (x0_1:Int) (x0_2_1:List (Int×Int×Unit)):exec a1z 1000 [.code (d8 Try.prog 29)] (A5 b0M.ps (((x0_1,x0_2_1,()),()))) =
  .e8 (True) (cond (decide (Prod.fst (Prod.snd (N8 x0_1 x0_2_1))≠(0:Int))) (.ret (([],Prod.fst (Prod.snd (N8 x0_1 x0_2_1)),()))) (.e8 ((0:Int)≤x0_1∧x0_1≤(20:Int)) (.e8 (True) (.e8 (List.length (List.set [(0:Int)] (Int.toNat (↑0:Int)) (-1:Int))=1∧(0:Int)≤x0_1∧x0_1≤(40:Int)) (.e8 (List.length (List.set [false] (Int.toNat (↑0:Int)) true)=1∧(0:Int)≤x0_1∧x0_1≤(40:Int)) (.ctL (d9 (d8 Try.prog 29) 8) (St.mk [(8,AV.at_ 1000008 []),(9,AV.at_ 1000009 []),(44,AV.at_ 1000044 []),(45,vI (↑(List.length (Prod.fst (U1 x0_1 x0_1 (M7 (Int.toNat x0_1) (gB (Prod.fst (N8 x0_1 x0_2_1))))))):Int)),(46,vI (0:Int))] [(1000008,f7.own Is (List.replicate (Int.toNat x0_1) (List.getD (List.set [(0:Int)] (Int.toNat (↑0:Int)) (-1:Int)) 0 (0:Int)))),(1000009,f7.own (Ty.d0 true Ty.bool) (List.replicate (Int.toNat x0_1) (List.getD (List.set [false] (Int.toNat (↑0:Int)) true) 0 false))),(1000044,f7.own (Ty.d0 true r7) (Prod.fst (U1 x0_1 x0_1 (M7 (Int.toNat x0_1) (gB (Prod.fst (N8 x0_1 x0_2_1)))))))]))))))):=by kernel_rfl
def b0g (v45:Int) (v46:Int) (o1000008:List Int) (o1000009:List Bool) (o1000044:List (Int×Int×Unit)):St:=St.mk [(8,AV.at_ 1000008 []),(9,AV.at_ 1000009 []),(44,AV.at_ 1000044 []),(45,vI v45),(46,vI v46)] [(1000008,f7.own Is o1000008),(1000009,f7.own (Ty.d0 true Ty.bool) o1000009),(1000044,f7.own (Ty.d0 true r7) o1000044)]
theorem b8L (v45:Int) (v46:Int) (o1000008:List Int) (o1000009:List Bool) (o1000044:List (Int×Int×Unit)):exec a1z 1000 (.code (d9 (d8 Try.prog 29) 8).1::.inLoop (d9 (d8 Try.prog 29) 8).1::(d9 (d8 Try.prog 29) 8).2) (b0g v45 v46 o1000008 o1000009 o1000044) =
  cond (decide (v46<v45)) (.e8 ((0:Int)≤v46∧v46<(↑(List.length o1000044):Int)) (.e8 ((0:Int)≤Prod.fst (List.getD o1000044 (Int.toNat v46) ((0:Int),(0:Int),()))∧Prod.fst (List.getD o1000044 (Int.toNat v46) ((0:Int),(0:Int),()))<(↑(List.length o1000008):Int)) (.e8 ((0:Int)≤Prod.fst (Prod.snd (List.getD o1000044 (Int.toNat v46) ((0:Int),(0:Int),())))∧Prod.fst (Prod.snd (List.getD o1000044 (Int.toNat v46) ((0:Int),(0:Int),())))<(↑(List.length o1000009):Int)) (.e8 (r9 IntKind.i64 (v46+(1:Int))) (.ctL (d9 (d8 Try.prog 29) 8) (St.mk [(8,AV.at_ 1000008 []),(9,AV.at_ 1000009 []),(44,AV.at_ 1000044 []),(45,vI v45),(46,vI (v46+(1:Int)))] [(1000008,f7.own Is (List.set o1000008 (Int.toNat (Prod.fst (List.getD o1000044 (Int.toNat v46) ((0:Int),(0:Int),())))) (Prod.fst (Prod.snd (List.getD o1000044 (Int.toNat v46) ((0:Int),(0:Int),())))))),(1000009,f7.own (Ty.d0 true Ty.bool) (List.set o1000009 (Int.toNat (Prod.fst (Prod.snd (List.getD o1000044 (Int.toNat v46) ((0:Int),(0:Int),()))))) false)),(1000044,f7.own (Ty.d0 true r7) o1000044)])))))) (.ctL (d9 (d8 Try.prog 29) 15) (St.mk [(8,AV.at_ 1000008 []),(12,AV.at_ 1000012 []),(61,AV.at_ 1000061 []),(62,vI (↑(List.length o1000009):Int)),(63,vI (0:Int))] [(1000008,f7.own Is o1000008),(1000012,f7.own (Ty.d0 true Is) []),(1000061,f7.own (Ty.d0 true Ty.bool) o1000009)])):=by kernel_rfl
def a2z (v62:Int) (v63:Int) (o1000008:List Int) (o1000012:List (List Int)) (o1000061:List Bool):St:=St.mk [(8,AV.at_ 1000008 []),(12,AV.at_ 1000012 []),(61,AV.at_ 1000061 []),(62,vI v62),(63,vI v63)] [(1000008,f7.own Is o1000008),(1000012,f7.own (Ty.d0 true Is) o1000012),(1000061,f7.own (Ty.d0 true Ty.bool) o1000061)]
theorem b5H (v62:Int) (v63:Int) (o1000008:List Int) (o1000012:List (List Int)) (o1000061:List Bool):exec a1z 1000 (.code (d9 (d8 Try.prog 29) 15).1::.inLoop (d9 (d8 Try.prog 29) 15).1::(d9 (d8 Try.prog 29) 15).2) (a2z v62 v63 o1000008 o1000012 o1000061) =
  cond (decide (v63<v62)) (.e8 ((0:Int)≤v63∧v63<(↑(List.length o1000061):Int)) (cond (!List.getD o1000061 (Int.toNat v63) false) (.e8 (r9 IntKind.i64 (v63+(1:Int))) (.ctL (d9 (d8 Try.prog 29) 15) (St.mk [(8,AV.at_ 1000008 []),(12,AV.at_ 1000012 []),(61,AV.at_ 1000061 []),(62,vI v62),(63,vI (v63+(1:Int)))] [(1000008,f7.own Is o1000008),(1000012,f7.own (Ty.d0 true Is) o1000012),(1000061,f7.own (Ty.d0 true Ty.bool) o1000061)]))) (.ctL (d9 (d8 Try.prog 29) 19) (St.mk [(8,AV.at_ 1000008 []),(12,AV.at_ 1000012 []),(13,vI v63),(15,AV.at_ 1000015 []),(61,AV.at_ 1000061 []),(62,vI v62),(63,vI v63)] [(1000008,f7.own Is o1000008),(1000012,f7.own (Ty.d0 true Is) o1000012),(1000015,f7.own Is []),(1000061,f7.own (Ty.d0 true Ty.bool) o1000061)])))) (.e8 (List.length o1000012≤1048576∧(∀ (a:Ty.den (Ty.d0 true i5)),a∈o1000012→1≤List.length a)∧∀ (a:Ty.den (Ty.d0 true i5)),a∈o1000012→∀ (b:Ty.den (Ty.d0 true i5)),b∈o1000012→V3 a2X a b=false→V3 a2X b a=false→a=b) (.ret ((x7 (V3 a2X) o1000012,(0:Int),())))):=by kernel_rfl
def a8d (v13:Int) (v62:Int) (v63:Int) (o1000008:List Int) (o1000012:List (List Int)) (o1000015:List Int) (o1000061:List Bool):St:=St.mk [(8,AV.at_ 1000008 []),(12,AV.at_ 1000012 []),(13,vI v13),(15,AV.at_ 1000015 []),(61,AV.at_ 1000061 []),(62,vI v62),(63,vI v63)] [(1000008,f7.own Is o1000008),(1000012,f7.own (Ty.d0 true Is) o1000012),(1000015,f7.own Is o1000015),(1000061,f7.own (Ty.d0 true Ty.bool) o1000061)]
theorem b5G (v13:Int) (v62:Int) (v63:Int) (o1000008:List Int) (o1000012:List (List Int)) (o1000015:List Int) (o1000061:List Bool):exec a1z 1000 (.code (d9 (d8 Try.prog 29) 19).1::.inLoop (d9 (d8 Try.prog 29) 19).1::(d9 (d8 Try.prog 29) 19).2) (a8d v13 v62 v63 o1000008 o1000012 o1000015 o1000061) =
  cond (decide ((0:Int)≤v13)) (.e8 (List.length o1000015+List.length (List.set [(0:Int)] (Int.toNat (↑0:Int)) v13)≤140737488355328∧(List.length o1000015+List.length (List.set [(0:Int)] (Int.toNat (↑0:Int)) v13))*Ty.wb i5≤140737488355328) (.e8 ((0:Int)≤v13∧v13<(↑(List.length o1000008):Int)) (.ctL (d9 (d8 Try.prog 29) 19) (St.mk [(8,AV.at_ 1000008 []),(12,AV.at_ 1000012 []),(13,vI (List.getD o1000008 (Int.toNat v13) (0:Int))),(15,AV.at_ 1000015 []),(61,AV.at_ 1000061 []),(62,vI v62),(63,vI v63)] [(1000008,f7.own Is o1000008),(1000012,f7.own (Ty.d0 true Is) o1000012),(1000015,f7.own Is (o1000015++List.set [(0:Int)] (Int.toNat (↑0:Int)) v13)),(1000061,f7.own (Ty.d0 true Ty.bool) o1000061)])))) (.e8 (List.length o1000012+List.length (List.set [[]] (Int.toNat (↑0:Int)) o1000015)≤140737488355328∧(List.length o1000012+List.length (List.set [[]] (Int.toNat (↑0:Int)) o1000015))*Ty.wb Is≤140737488355328) (.e8 (r9 IntKind.i64 (v63+(1:Int))) (.ctL (d9 (d8 Try.prog 29) 15) (St.mk [(8,AV.at_ 1000008 []),(12,AV.at_ 1000012 []),(61,AV.at_ 1000061 []),(62,vI v62),(63,vI (v63+(1:Int)))] [(1000008,f7.own Is o1000008),(1000012,f7.own (Ty.d0 true Is) (o1000012++List.set [[]] (Int.toNat (↑0:Int)) o1000015)),(1000061,f7.own (Ty.d0 true Ty.bool) o1000061)])))):=by kernel_rfl
theorem b3c {n:Nat} (hn:n≤20) {R:Nat→Nat→Bool}:G4 (n:Int) (n:Int) (M7 n R)=0:=by
  have hl:=@b7q n R
  have:n*n≤20*20:=Nat.mul_le_mul hn hn
  rw [G4,if_neg (by rw [K0.2 ⟨by omega,by omega⟩]; decide),if_neg (by omega),if_neg]
  intro h9
  obtain ⟨q,hq,h8⟩:=List.any_eq_true.1 h9
  obtain ⟨a,b,ha,hb,_,rfl⟩:=a5k.1 hq
  rw [U6,K0.2 ⟨by show (0:Int)≤(a:Int); omega,by show (a:Int)≤(n:Int) - 1; omega⟩,K0.2 ⟨by show (0:Int)≤(b:Int); omega,by show (b:Int)≤(n:Int) - 1; omega⟩] at h8
  cases h8
theorem b9A {m n:Int} {l:List s5} (h:G4 m n l=0):(U1 m n l).2.1=0:=by
  rw [U1,if_neg (by rw [h]; simp)]
theorem a9t {n:Nat} (hn:n≤20) (R:Nat→Nat→Bool):a8L R n (U1 n n (M7 n R)).1∧∀ P,Match (M7 n R) P→P.length≤(U1 n n (M7 n R)).1.length:=by
  obtain ⟨_,_,hM,hopt⟩:=b46 (b9A (b3c hn (R:=R)))
  refine ⟨⟨fun q hq=>?_,hM.one,hM.two⟩,hopt⟩
  obtain ⟨a,b,ha,hb,hr,rfl⟩:=a5k.1 (hM.sub q hq)
  refine ⟨⟨by show (0:Int)≤(a:Int); omega,by show (a:Int)<(n:Int); omega⟩,⟨by show (0:Int)≤(b:Int); omega,by show (b:Int)<(n:Int); omega⟩,?_⟩
  show R (Int.toNat (a:Int)) (Int.toNat (b:Int))=true
  rw [Int.toNat_natCast,Int.toNat_natCast]; exact hr
theorem c47:Ty.wb (.d0 true (.int .i64))=24:=rfl
theorem c3o {α:Type} {l:List α} {i:Nat} (h:i<l.length) (d:α):l.take (i+1)=l.take i++[l.getD i d]:=by
  rw [List.take_add_one,List.getElem?_eq_getElem h,List.getD_eq_getElem?_getD,List.getElem?_eq_getElem h]; rfl
theorem b2o {n:Nat} {M:List s5}:x7 (V3 a2X) (E8 n M n)=E8 n M n:=by
  refine (Y6 c4r (List.Perm.refl _) ?_ ?_).symm
  · rw [E8,List.pairwise_map]
    refine (List.pairwise_lt_range.filter _).imp ?_
    intro a b hab
    rw [V3,decide_eq_false_iff_not,a3m,a0h,a0h]; omega
  · intro x hx y hy h1 h2
    obtain ⟨a,_,rfl⟩:=List.mem_map.1 hx
    obtain ⟨b,_,rfl⟩:=List.mem_map.1 hy
    rw [V3,decide_eq_false_iff_not,a3m,a0h,a0h] at h1 h2
    rw [show a=b by omega]
theorem b72 {n:Nat} {M:List s5}:∀ x∈E8 n M n,∀ y∈E8 n M n,V3 a2X x y=false→V3 a2X y x=false→x=y:=by
  intro x hx y hy h1 h2
  obtain ⟨a,_,rfl⟩:=List.mem_map.1 hx
  obtain ⟨b,_,rfl⟩:=List.mem_map.1 hy
  rw [V3,decide_eq_false_iff_not,a3m,a0h,a0h] at h1 h2
  rw [show a=b by omega]
theorem b73 {n:Nat} {M:List s5}:∀ x∈E8 n M n,1≤x.length:=by
  intro x hx
  obtain ⟨a,_,rfl⟩:=List.mem_map.1 hx
  exact List.length_pos_iff.2 c1P
theorem a6L {n:Nat} {M:List s5} (i:Nat):(E8 n M i).length≤i:=by
  rw [E8,List.length_map]
  exact Nat.le_trans (List.length_filter_le _ _) (by rw [List.length_range]; exact Nat.le_refl _)
theorem b2r:b0M.Valid Try.prog 29:=by
  refine w9.u7 a13 rfl rfl Try.func29 (c:=d8 Try.prog 29) rfl rfl a10 rfl ?_
  rintro ⟨⟨(n0:Int),(l:List s5),⟨⟩⟩,⟨⟩⟩ - -
  refine n7 (n:=1000) a13 a10 ?_
  refine g9 (c0C n0 l) ?_
  by_cases h0:J6 n0 l≠0
  · rw [a9s h0]
    simp only [i9,Tree.holds,true_and,true_implies,decide_eq_true_eq,decide_eq_false_iff_not,Bool.not_eq_true',Bool.not_eq_false',Int.toNat_natCast,l7,List.length_set,List.length_cons,List.length_nil]
    refine ⟨fun _=>?_,fun c=>absurd h0 c⟩
    show (([],J6 n0 l,()):List (List Int)×Int×Unit)=L9 n0 l
    rw [L9,if_pos h0]
  obtain ⟨n,rfl,hp⟩:=b1c (Decidable.not_not.1 h0)
  have hn:=hp.n20
  have hfin:L9 (n:Int) l=(E8 n (U1 n n (M7 n (wk (D6 l) n))).1 n,0,()):=by rw [L9,if_neg h0,Int.toNat_natCast]
  have ht:=fun x y z=>a6r hp (a:=x) (b:=y) (c:=z)
  have hi:=fun x=>b0t hp x
  rw [a9r hp]
  simp only [i9,Tree.holds,true_and,true_implies,decide_eq_true_eq,decide_eq_false_iff_not,Bool.not_eq_true',Bool.not_eq_false',Int.toNat_natCast,l7,List.length_set,List.length_cons,List.length_nil]
  rw [b3d (fun a b ha hb=>a9L (f:=wk (D6 l) n) (by omega) (by omega))]
  obtain ⟨hM,-⟩:=a9t hn (wk (D6 l) n)
  generalize wk (D6 l) n=R at *
  generalize (U1 (n:Int) (n:Int) (M7 n R)).1=M at *
  refine ⟨fun c=>absurd rfl c,fun _=>⟨by omega,fun _=>⟨⟨by omega,by omega⟩,fun _=>⟨⟨by omega,by omega⟩,fun _=>?_⟩⟩⟩⟩
  refine Reach.C1 a13 a10 (fun i:Nat=>b0g (M.length:Int) (i:Int) (J7 n (M.take i)) (N4 n (M.take i)) M) (fun i=>i≤M.length) (fun i=>M.length - i) 1000 (fun _=>⟨j7 rfl,j7 rfl⟩) ?_ 0 (Nat.zero_le _)
  rintro i k1 - ih
  have k1:i≤M.length:=k1
  have hMl:M.length≤n:=by have:=hM.count; omega
  refine g9 (b8L ..) ?_
  have e1:(J7 n (M.take i)).length=n:=b1e
  have e2:(N4 n (M.take i)).length=n:=a9N
  simp only [i9,Tree.holds,true_and,true_implies,decide_eq_true_eq,decide_eq_false_iff_not,Bool.not_eq_true',Bool.not_eq_false',Int.toNat_natCast,l7,List.length_set,List.length_cons,List.length_nil]
  rw [e1,e2]
  refine ⟨fun c=>?_,fun c=>?_⟩
  · have hi2:i<M.length:=by omega
    obtain ⟨r1,r2,-⟩:=hM.D3 _ (P6 (d:=(0,0,())) hi2)
    have next:=ih (i+1) hi2 (by omega)
    rw [c3o hi2 (0,0,()),J7,N4,List.foldl_append,List.foldl_append] at next
    exact ⟨by omega,fun _=>⟨r1,fun _=>⟨r2,fun _=>⟨by omega,fun _=>next⟩⟩⟩⟩
  · rw [List.take_of_length_le (by omega)]
    have f1:(J7 n M).length=n:=b1e
    have f2:(N4 n M).length=n:=a9N
    suffices hs:Go.Ex.Reach a1z Try.f29 (E8 n M n,0,()) () (.code (d9 (d8 Try.prog 29) 15).1::.inLoop (d9 (d8 Try.prog 29) 15).1::(d9 (d8 Try.prog 29) 15).2) (a2z (n:Int) ((0:Nat):Int) (J7 n M) (E8 n M 0) (N4 n M)) by
      show Go.Ex.Reach a1z Try.f29 (L9 (n:Int) l) () (.code (d9 (d8 Try.prog 29) 15).1::.inLoop (d9 (d8 Try.prog 29) 15).1::(d9 (d8 Try.prog 29) 15).2) (a2z (n:Int) ((0:Nat):Int) (J7 n M) (E8 n M 0) (N4 n M))
      rw [hfin]; exact hs
    refine Reach.C1 a13 a10 (fun i:Nat=>a2z (n:Int) (i:Int) (J7 n M) (E8 n M i) (N4 n M)) (fun i=>i≤n) (fun i=>n - i) 1000 (fun _=>⟨j7 rfl,j7 rfl⟩) ?_ 0 (Nat.zero_le _)
    rintro i k1 - ih
    have k1:i≤n:=k1
    refine g9 (b5H ..) ?_
    simp only [i9,Tree.holds,true_and,true_implies,decide_eq_true_eq,decide_eq_false_iff_not,Bool.not_eq_true',Bool.not_eq_false',Int.toNat_natCast,l7,List.length_set,List.length_cons,List.length_nil]
    rw [f2]
    refine ⟨fun c2=>⟨by omega,fun _=>?_⟩,fun c2=>?_⟩
    · have next:=ih (i+1) (by show i+1≤n; omega) (by omega)
      rw [b2p] at next
      refine ⟨fun d=>⟨by omega,fun _=>?_⟩,fun d=>?_⟩
      · rw [if_neg (by rw [d]; simp)] at next
        exact next
      · rw [if_pos d] at next
        refine Reach.C1 a13 a10 (fun s:Int×List Int=>a8d s.1 (n:Int) (i:Int) (J7 n M) (E8 n M i) s.2 (N4 n M))
          (fun s=>K7 (J7 n M) (n+1) (i:Int)=s.2++K7 (J7 n M) (n+1 - s.2.length) s.1∧s.2.length≤n∧(s.1=-1∨∃ x:Nat,x<n∧s.1=x∧s.2.length≤(before R n x).length))
          (fun s=>n+1 - s.2.length) 1000 (fun _=>⟨j7 rfl,j7 rfl⟩) ?_ ((i:Int),[]) ⟨by simp,by simp,.inr ⟨i,by omega,rfl,by simp⟩⟩
        rintro ⟨a,ch⟩ ⟨k2,k3,k4⟩ - ih2
        have k2:K7 (J7 n M) (n+1) (i:Int)=ch++K7 (J7 n M) (n+1 - ch.length) a:=k2
        have k3:ch.length≤n:=k3
        have k4:a=-1∨∃ x:Nat,x<n∧a=x∧ch.length≤(before R n x).length:=k4
        refine g9 (b5G ..) ?_
        have hcl:=@a6L n M i
        simp only [i9,Tree.holds,true_and,true_implies,decide_eq_true_eq,decide_eq_false_iff_not,Bool.not_eq_true',Bool.not_eq_false',Int.toNat_natCast,l7,List.length_set,List.length_cons,List.length_nil,b2N,c47]
        rw [f1]
        refine ⟨fun e=>?_,fun e=>?_⟩
        · obtain ⟨x,hx,rfl,hb⟩:∃ x:Nat,x<n∧a=x∧ch.length≤(before R n x).length:=k4.resolve_left (by omega)
          have hbn:(before R n x).length<n:=by
            have h1:(x::before R n x).Nodup:=List.nodup_cons.2 ⟨fun h=>(by have:=(List.mem_filter.1 h).2; rw [hi] at this; cases this),List.Pairwise.sublist List.filter_sublist List.nodup_range⟩
            have:=a0x h1 (S:=List.range n) (fun y hy=>by
              rcases List.mem_cons.1 hy with rfl|hy
              · exact List.mem_range.2 hx
              · exact (List.mem_filter.1 hy).1)
            rw [List.length_cons,List.length_range] at this
            omega
          obtain ⟨k,hk⟩:∃ k,n+1 - ch.length=k+1:=⟨n - ch.length,by omega⟩
          have ex:K7 (J7 n M) (k+1) (x:Int)=(x:Int)::K7 (J7 n M) k ((J7 n M).getD x 0):=by rw [K7,if_pos (by omega),Int.toNat_natCast]
          rw [hk,ex] at k2
          have e3:([0]:List Int).set (Int.toNat 0) (x:Int)=[(x:Int)]:=rfl
          rw [e3]
          refine ⟨by omega,fun _=>⟨by omega,fun _=>ih2 ((J7 n M).getD x 0,ch++[(x:Int)]) ⟨?_,?_,?_⟩ ?_⟩⟩
          · show K7 (J7 n M) (n+1) (i:Int)=(ch++[(x:Int)])++K7 (J7 n M) (n+1 - (ch++[(x:Int)]).length) ((J7 n M).getD x 0)
            rw [k2,List.length_append,List.length_singleton,show n+1 - (ch.length+1)=k by omega]
            simp
          · show (ch++[(x:Int)]).length≤n
            rw [List.length_append,List.length_singleton]; omega
          · show (J7 n M).getD x 0=-1∨_
            rcases hM.next hx with ⟨h1,_⟩|⟨y,hy,h1,h2,_⟩
            · exact .inl h1
            · refine .inr ⟨y,hy,h1,?_⟩
              have:=b1B ht hi hx h2
              show (ch++[(x:Int)]).length≤_
              rw [List.length_append,List.length_singleton]; omega
          · show n+1 - (ch++[(x:Int)]).length<n+1 - ch.length
            rw [List.length_append,List.length_singleton]; omega
        · have ez:K7 (J7 n M) (n+1 - ch.length) a=[]:=b5q (by omega)
          rw [ez,List.append_nil] at k2
          rw [k2] at next
          have e3:([[]]:List (List Int)).set (Int.toNat 0) ch=[ch]:=rfl
          rw [e3]
          exact ⟨by omega,fun _=>⟨by omega,fun _=>next⟩⟩
    · obtain rfl:i=n:=by omega
      have hcl:=@a6L i M i
      exact ⟨⟨by omega,b73,b72⟩,fun _=>by rw [b2o]; rfl⟩
end Go.Proofs.Ytekbamiaenbhjaa
