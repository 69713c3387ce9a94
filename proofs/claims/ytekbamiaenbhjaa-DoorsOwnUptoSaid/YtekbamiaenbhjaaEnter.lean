/- The contracts of the package enter's functions. -/
import Derived.Test.YtekbamiaenbhjaaOver
import Derived.Test.YtekbamiaenbhjaaBitP
namespace Go.Proofs.Ytekbamiaenbhjaa
open Go.Ex
set_option maxRecDepth 100000
abbrev w8:=Int×Int×Int×Bool×List Int×Unit
abbrev C2:=List w8×List o8×Unit
def x4:w8:=(0,0,0,false,[],())
def a4o:u7:={ ps:=[.v A7,.v A7,.v A7],rs:=[.bool],pre:=fun _=>True,fn:=fun x=>(B1 x.1 x.2.1 x.2.2.1,()),out:=fun _=>() }
noncomputable def b6z:Env:={ P:=Try.prog,tt:=tt,D0:=[],res:=[Go.ResultVar.tmp 6],rs:=[Ty.bool],ps:=[PK.v (Ty.int IntKind.i64),PK.v (Ty.int IntKind.i64),PK.v (Ty.int IntKind.i64)],E1:=[],nt:=15 }
theorem b2X:B3 b6z:=D5 s7 trivial
theorem b2T:E9 b6z Try.f139:=⟨rfl,rfl⟩
theorem b8u (x0:Int) (x1:Int) (x2:Int):exec b6z 1000 [.code (d9 Try.prog 139)] (A3 a4o.ps ((x0,x1,x2,()))) =
  cond (decide (x1≤x0)) (.ret ((decide (x0≤x2),()))) (.ret ((false,()))):=by kernel_rfl
theorem Z1:a4o.Valid Try.prog 139:=by
  refine u7.u6 b2X rfl rfl Try.func139 (c:=d9 Try.prog 139) rfl rfl b2T rfl ?_
  rintro ⟨(a:Int),(b:Int),(c:Int),⟨⟩⟩ - -
  refine o4 (n:=1000) b2X b2T ?_
  refine n6 (b8u a b c) ?_
  simp only [o7,Tree.holds,true_and,true_implies,decide_eq_true_eq,decide_eq_false_iff_not,Bool.not_eq_true',Bool.not_eq_false',Int.toNat_natCast,r9,List.length_set,List.length_cons,List.length_nil]
  repeat' first|exact trivial|(refine And.intro ?_ ?_)|(intro _)
  all_goals (show ((_,()):Bool×Unit)=(B1 a b c,()); simp [B1, *])
def sh1 (p:Int):Int:=IntKind.wrap .u8 (1*2^min (Int.toNat p) (IntKind.u8).bits)
def others (n p:Int):Int:=V6 .u8 (IntKind.wrap .u8 (sh1 n - 1)) (sh1 p)
def a45:u7:={ ps:=[.v A7,.v A7],rs:=[U8],pre:=fun x=>LE.le (α:=Int) 0 x.1∧LE.le (α:=Int) 0 x.2.1,fn:=fun x=>(others x.1 x.2.1,()),out:=fun _=>() }
noncomputable def a7Y:Env:={ P:=Try.prog,tt:=tt,D0:=[],res:=[Go.ResultVar.tmp 4],rs:=[Ty.int IntKind.u8],ps:=[PK.v (Ty.int IntKind.i64),PK.v (Ty.int IntKind.i64)],E1:=[],nt:=11 }
theorem a69:B3 a7Y:=D5 s7 trivial
theorem a6Z:E9 a7Y Try.f143:=⟨rfl,rfl⟩
theorem b5w (x0:Int) (x1:Int):exec a7Y 1000 [.code (d9 Try.prog 143)] (A3 a45.ps ((x0,x1,()))) =
  .f9 ((0:Int)≤x0) (.f9 ((0:Int)≤x1) (.ret ((V6 IntKind.u8 (IntKind.wrap IntKind.u8 (IntKind.wrap IntKind.u8 ((1:Int)*(2:Int)^min (Int.toNat x0) (IntKind.bits IntKind.u8)) - (1:Int))) (IntKind.wrap IntKind.u8 ((1:Int)*(2:Int)^min (Int.toNat x1) (IntKind.bits IntKind.u8))),())))):=by kernel_rfl
theorem a3X:a45.Valid Try.prog 143:=by
  refine u7.u6 a69 rfl rfl Try.func143 (c:=d9 Try.prog 143) rfl rfl a6Z rfl ?_
  rintro ⟨(n:Int),(p:Int),⟨⟩⟩ ⟨h1,h2⟩ -
  refine o4 (n:=1000) a69 a6Z ?_
  refine n6 (b5w n p) ?_
  exact ⟨h1,fun _=>⟨h2,fun _=>rfl⟩⟩
theorem nf {b:Bool} (h:b=true):¬ b=false:=by rw [h]; simp
def a0A (l:List Int) (p n:Int) (i:Nat):Int:=if B1 (l.getD i 0) 0 (n - 1)=false then 4 else if l.getD i 0=p then 4 else if l.getD i 0∈l.take i then 4 else 0
def W1 (d:w8) (p n:Int):Int :=
  if B1 d.1 0 16777215=false then 1 else if B1 d.2.1 0 d.1=false then 1 else if (6:Int)<d.2.2.2.2.1.length then 1 else
  if V6 .u8 d.2.2.1 (others n p)≠0 then 4 else if d.2.1=0∧(d.2.2.1≠0∨d.2.2.2.1=true∨(0:Int)<d.2.2.2.2.1.length) then 4 else
  if d.2.2.2.1=true∧d.2.2.1≠others n p then 4 else A6 (a0A d.2.2.2.2.1 p n) d.2.2.2.2.1.length
def b0F:u7:={ ps:=[.v V7,.v A7,.v A7],rs:=[A7],pre:=fun x=>LE.le (α:=Int) 0 x.2.1∧LE.le (α:=Int) 1 x.2.2.1∧LE.le (α:=Int) x.2.2.1 6,fn:=fun x=>(W1 x.1 x.2.1 x.2.2.1,()),out:=fun _=>() }
noncomputable def a4K:Env:={ P:=Try.prog,tt:=tt,D0:=[(139,a4o),(143,a45),(48,a6L)],res:=[Go.ResultVar.tmp 6],rs:=[Ty.int IntKind.i64],ps:=[PK.v (Ty.pair (Ty.int IntKind.i64) (Ty.pair (Ty.int IntKind.i64) (Ty.pair (Ty.int IntKind.u8) (Ty.pair Ty.bool (Ty.pair (Ty.d0 false (Ty.int IntKind.i64)) Ty.unit))))),PK.v (Ty.int IntKind.i64),PK.v (Ty.int IntKind.i64)],E1:=[(8,[(1,none),(2,none),(3,none),(68,none),(69,none),(70,none)])],nt:=94 }
theorem a4J:B3 a4K:=D5 s7 ⟨Z1,a3X,a4p,trivial⟩
theorem a4F:E9 a4K Try.f229:=⟨rfl,rfl⟩
theorem b6A (x0_1:Int) (x0_2_1:Int) (x0_2_2_1:Int) (x0_2_2_2_1:Bool) (x0_2_2_2_2_1:List Int) (x1:Int) (x2:Int):exec a4K 1000 [.code (d9 Try.prog 229)] (A3 b0F.ps (((x0_1,x0_2_1,x0_2_2_1,x0_2_2_2_1,x0_2_2_2_2_1,()),x1,x2,()))) =
  .f9 (True) (cond (!B1 x0_1 (0:Int) (16777215:Int)) (.ret (((1:Int),()))) (.f9 (True) (cond (!B1 x0_2_1 (0:Int) x0_1) (.ret (((1:Int),()))) (cond (decide ((6:Int)<(↑(List.length x0_2_2_2_2_1):Int))) (.ret (((1:Int),()))) (.f9 ((0:Int)≤x2∧(0:Int)≤x1) (cond (decide (V6 IntKind.u8 x0_2_2_1 (others x2 x1)≠(0:Int))) (.ret (((4:Int),()))) (cond (decide (x0_2_1=(0:Int))) (cond (decide (x0_2_2_1≠(0:Int))) (.ret (((4:Int),()))) (cond (x0_2_2_2_1) (.ret (((4:Int),()))) (cond (decide ((0:Int)<(↑(List.length x0_2_2_2_2_1):Int))) (.ret (((4:Int),()))) (cond (x0_2_2_2_1) (.f9 ((0:Int)≤x2∧(0:Int)≤x1) (cond (decide (x0_2_2_1≠others x2 x1)) (.ret (((4:Int),()))) (.cut (j5 (d9 Try.prog 229) 8).1 (j5 (d9 Try.prog 229) 8).2 (St.mk [(1,AV.val (Ty.int IntKind.i64) x1),(2,AV.val (Ty.int IntKind.i64) x2),(3,AV.ptr 3 []),(68,AV.val (Ty.d0 false (Ty.int IntKind.i64)) x0_2_2_2_2_1),(69,AV.val (Ty.int IntKind.i64) (↑(List.length x0_2_2_2_2_1):Int)),(70,AV.val (Ty.int IntKind.i64) (0:Int))] [(3,f8.var (Ty.pair (Ty.int IntKind.i64) (Ty.pair (Ty.int IntKind.i64) (Ty.pair (Ty.int IntKind.u8) (Ty.pair Ty.bool (Ty.pair (Ty.d0 false (Ty.int IntKind.i64)) Ty.unit))))) (x0_1,x0_2_1,x0_2_2_1,x0_2_2_2_1,x0_2_2_2_2_1,()))])))) (.cut (j5 (d9 Try.prog 229) 8).1 (j5 (d9 Try.prog 229) 8).2 (St.mk [(1,AV.val (Ty.int IntKind.i64) x1),(2,AV.val (Ty.int IntKind.i64) x2),(3,AV.ptr 3 []),(68,AV.val (Ty.d0 false (Ty.int IntKind.i64)) x0_2_2_2_2_1),(69,AV.val (Ty.int IntKind.i64) (↑(List.length x0_2_2_2_2_1):Int)),(70,AV.val (Ty.int IntKind.i64) (0:Int))] [(3,f8.var (Ty.pair (Ty.int IntKind.i64) (Ty.pair (Ty.int IntKind.i64) (Ty.pair (Ty.int IntKind.u8) (Ty.pair Ty.bool (Ty.pair (Ty.d0 false (Ty.int IntKind.i64)) Ty.unit))))) (x0_1,x0_2_1,x0_2_2_1,x0_2_2_2_1,x0_2_2_2_2_1,()))])))))) (cond (x0_2_2_2_1) (.f9 ((0:Int)≤x2∧(0:Int)≤x1) (cond (decide (x0_2_2_1≠others x2 x1)) (.ret (((4:Int),()))) (.cut (j5 (d9 Try.prog 229) 8).1 (j5 (d9 Try.prog 229) 8).2 (St.mk [(1,AV.val (Ty.int IntKind.i64) x1),(2,AV.val (Ty.int IntKind.i64) x2),(3,AV.ptr 3 []),(68,AV.val (Ty.d0 false (Ty.int IntKind.i64)) x0_2_2_2_2_1),(69,AV.val (Ty.int IntKind.i64) (↑(List.length x0_2_2_2_2_1):Int)),(70,AV.val (Ty.int IntKind.i64) (0:Int))] [(3,f8.var (Ty.pair (Ty.int IntKind.i64) (Ty.pair (Ty.int IntKind.i64) (Ty.pair (Ty.int IntKind.u8) (Ty.pair Ty.bool (Ty.pair (Ty.d0 false (Ty.int IntKind.i64)) Ty.unit))))) (x0_1,x0_2_1,x0_2_2_1,x0_2_2_2_1,x0_2_2_2_2_1,()))])))) (.cut (j5 (d9 Try.prog 229) 8).1 (j5 (d9 Try.prog 229) 8).2 (St.mk [(1,AV.val (Ty.int IntKind.i64) x1),(2,AV.val (Ty.int IntKind.i64) x2),(3,AV.ptr 3 []),(68,AV.val (Ty.d0 false (Ty.int IntKind.i64)) x0_2_2_2_2_1),(69,AV.val (Ty.int IntKind.i64) (↑(List.length x0_2_2_2_2_1):Int)),(70,AV.val (Ty.int IntKind.i64) (0:Int))] [(3,f8.var (Ty.pair (Ty.int IntKind.i64) (Ty.pair (Ty.int IntKind.i64) (Ty.pair (Ty.int IntKind.u8) (Ty.pair Ty.bool (Ty.pair (Ty.d0 false (Ty.int IntKind.i64)) Ty.unit))))) (x0_1,x0_2_1,x0_2_2_1,x0_2_2_2_1,x0_2_2_2_2_1,()))])))))))))):=by kernel_rfl
def a4I (v1:Int) (v2:Int) (v68:List Int) (v69:Int) (v70:Int) (o3_1:Int) (o3_2_1:Int) (o3_2_2_1:Int) (o3_2_2_2_1:Bool) (o3_2_2_2_2_1:List Int):St:=St.mk [(1,AV.val (Ty.int IntKind.i64) v1),(2,AV.val (Ty.int IntKind.i64) v2),(3,AV.ptr 3 []),(68,AV.val (Ty.d0 false (Ty.int IntKind.i64)) v68),(69,AV.val (Ty.int IntKind.i64) v69),(70,AV.val (Ty.int IntKind.i64) v70)] [(3,f8.var (Ty.pair (Ty.int IntKind.i64) (Ty.pair (Ty.int IntKind.i64) (Ty.pair (Ty.int IntKind.u8) (Ty.pair Ty.bool (Ty.pair (Ty.d0 false (Ty.int IntKind.i64)) Ty.unit))))) (o3_1,o3_2_1,o3_2_2_1,o3_2_2_2_1,o3_2_2_2_2_1,()))]
theorem b5B (v1:Int) (v2:Int) (v68:List Int) (v69:Int) (v70:Int) (o3_1:Int) (o3_2_1:Int) (o3_2_2_1:Int) (o3_2_2_2_1:Bool) (o3_2_2_2_2_1:List Int):exec a4K 1000 (.code (j5 (d9 Try.prog 229) 8).1::.inLoop (j5 (d9 Try.prog 229) 8).1::(j5 (d9 Try.prog 229) 8).2) (a4I v1 v2 v68 v69 v70 o3_1 o3_2_1 o3_2_2_1 o3_2_2_2_1 o3_2_2_2_2_1) =
  cond (decide (v70<v69)) (.f9 ((0:Int)≤v70∧v70<(↑(List.length v68):Int)) (.f9 (w9 IntKind.i64 (v2 - (1:Int))) (.f9 (True) (cond (!B1 (List.getD v68 (Int.toNat v70) (0:Int)) (0:Int) (v2 - (1:Int))) (.ret (((4:Int),()))) (cond (decide (List.getD v68 (Int.toNat v70) (0:Int)=v1)) (.ret (((4:Int),()))) (.f9 ((0:Int)≤(0:Int)∧(0:Int)≤v70∧v70≤(↑(List.length o3_2_2_2_2_1):Int)) (.f9 (True) (cond (decide (List.getD v68 (Int.toNat v70) (0:Int)∈s9 (0:Int) v70 o3_2_2_2_2_1)) (.ret (((4:Int),()))) (.f9 (w9 IntKind.i64 (v70+(1:Int))) (.cut (j5 (d9 Try.prog 229) 8).1 (j5 (d9 Try.prog 229) 8).2 (St.mk [(1,AV.val (Ty.int IntKind.i64) v1),(2,AV.val (Ty.int IntKind.i64) v2),(3,AV.ptr 3 []),(68,AV.val (Ty.d0 false (Ty.int IntKind.i64)) v68),(69,AV.val (Ty.int IntKind.i64) v69),(70,AV.val (Ty.int IntKind.i64) (v70+(1:Int)))] [(3,f8.var (Ty.pair (Ty.int IntKind.i64) (Ty.pair (Ty.int IntKind.i64) (Ty.pair (Ty.int IntKind.u8) (Ty.pair Ty.bool (Ty.pair (Ty.d0 false (Ty.int IntKind.i64)) Ty.unit))))) (o3_1,o3_2_1,o3_2_2_1,o3_2_2_2_1,o3_2_2_2_2_1,()))]))))))))))) (.ret (((0:Int),()))):=by kernel_rfl
theorem b47 {α:Type} {l:List α} {i:Nat}:s9 0 (i:Int) l=l.take i:=by
  rw [s9,show ((i:Int) - 0).toNat=i by omega]; rfl
theorem b0E:b0F.Valid Try.prog 229:=by
  refine u7.u6 a4J rfl rfl Try.func229 (c:=d9 Try.prog 229) rfl rfl a4F rfl ?_
  rintro ⟨⟨(c:Int),(w:Int),(y:Int),(b:Bool),(l:List Int),⟨⟩⟩,(p:Int),(n:Int),⟨⟩⟩ ⟨(h0:0≤p),(h1:1≤n),(h2:n≤6)⟩ ⟨⟨-,-,-,-,⟨hl,-⟩,-⟩,-⟩
  have hl:l.length≤9223372036854775807:=hl
  refine o4 (n:=1000) a4J a4F ?_
  refine n6 (b6A c w y b l p n) ?_
  have key:∀ {x:Int},W1 (c,w,y,b,l,()) p n=x→((x,()):Int×Unit)=(W1 (c,w,y,b,l,()) p n,()):=by rintro x rfl; rfl
  have hd:W1 (c,w,y,b,l,()) p n=if B1 c 0 16777215=false then 1 else if B1 w 0 c=false then 1 else if (6:Int)<l.length then 1 else
    if V6 .u8 y (others n p)≠0 then 4 else if w=0∧(y≠0∨b=true∨(0:Int)<l.length) then 4 else
    if b=true∧y≠others n p then 4 else A6 (a0A l p n) l.length:=rfl
  simp only [o7,Tree.holds,true_and,true_implies,decide_eq_true_eq,decide_eq_false_iff_not,Bool.not_eq_true',Bool.not_eq_false',Int.toNat_natCast,r9,List.length_set,List.length_cons,List.length_nil]
  refine ⟨fun a=>key (by rw [hd,if_pos a]),fun a=>?_⟩
  rw [if_neg (nf a)] at hd
  refine ⟨fun a=>key (by rw [hd,if_pos a]),fun a=>?_⟩
  rw [if_neg (nf a)] at hd
  refine ⟨fun a=>key (by rw [hd,if_pos a]),fun a=>⟨⟨by omega,by omega⟩,fun _=>?_⟩⟩
  rw [if_neg a] at hd
  refine ⟨fun a=>key (by rw [hd,if_pos a]),fun a=>?_⟩
  rw [if_neg a] at hd
  suffices loop:W1 (c,w,y,b,l,()) p n=A6 (a0A l p n) l.length→Go.Ex.Reach a4K Try.f229 (W1 (c,w,y,b,l,()) p n,()) () (.code (j5 (d9 Try.prog 229) 8).1::.inLoop (j5 (d9 Try.prog 229) 8).1::(j5 (d9 Try.prog 229) 8).2) (a4I p n l (l.length:Int) ((0:Nat):Int) c w y b l) by
    refine ⟨fun e=>⟨fun f=>key (by rw [hd,if_pos ⟨e,.inl f⟩]),fun f=>⟨fun g=>key (by rw [hd,if_pos ⟨e,.inr (.inl g)⟩]),fun g=>⟨fun k=>key (by rw [hd,if_pos ⟨e,.inr (.inr k)⟩]),fun k=>⟨fun g2=>absurd (g2.symm.trans g) (by simp),fun _=>loop ?_⟩⟩⟩⟩,fun e=>⟨fun g=>⟨⟨by omega,by omega⟩,fun _=>⟨fun f=>key (by rw [hd,if_neg (fun h=>e h.1),if_pos ⟨g,f⟩]),fun f=>loop ?_⟩⟩,fun g=>loop ?_⟩⟩
    · rw [hd,if_neg (by rintro ⟨_,h|h|h⟩; exact f h; rw [g] at h; cases h; exact k h),if_neg (by rintro ⟨h,_⟩; rw [g] at h; cases h)]
    · rw [hd,if_neg (fun h=>e h.1),if_neg (fun h=>f h.2)]
    · rw [hd,if_neg (fun h=>e h.1),if_neg (by rintro ⟨h,_⟩; rw [g] at h; cases h)]
  intro hd
  refine Reach.S5 a4J a4F (fun i:Nat=>a4I p n l (l.length:Int) (i:Int) c w y b l) (fun i=>i≤l.length∧A6 (a0A l p n) i=0) (fun i=>l.length - i) 1000 (fun _=>⟨x6 rfl,x6 rfl⟩) ?_ 0 ⟨by omega,rfl⟩
  rintro i ⟨k1,k2⟩ - ih
  have k1:i≤l.length:=k1
  refine n6 (b5B ..) ?_
  simp only [o7,Tree.holds,true_and,true_implies,decide_eq_true_eq,decide_eq_false_iff_not,Bool.not_eq_true',Bool.not_eq_false',Int.toNat_natCast,r9,List.length_set,List.length_cons,List.length_nil,b47]
  have hc:a0A l p n i=if B1 (l.getD i 0) 0 (n - 1)=false then 4 else if l.getD i 0=p then 4 else if l.getD i 0∈l.take i then 4 else 0:=rfl
  refine ⟨fun a=>⟨by omega,fun _=>⟨by omega,fun _=>?_⟩⟩,fun a=>key (by rw [hd,show l.length=i by omega,k2])⟩
  have stop:a0A l p n i=4→((4,()):Int×Unit)=(W1 (c,w,y,b,l,()) p n,()):=fun h9=>key (by
    rw [hd,V3 k2 (by rw [h9]; decide) (by omega),h9])
  refine ⟨fun f=>stop (by rw [hc,if_pos f]),fun f=>⟨fun g=>stop (by rw [hc,if_neg (nf f),if_pos g]),fun g=>⟨by omega,fun _=>⟨fun e=>stop (by rw [hc,if_neg (nf f),if_neg g,if_pos e]),fun e=>⟨by omega,fun _=>ih (i+1) ⟨by omega,V4 k2 ?_⟩ (by omega)⟩⟩⟩⟩⟩
  rw [hc,if_neg (nf f),if_neg g,if_neg e]
def a1l (t:C2) (i:Nat):Int:=W1 (t.1.getD i x4) i t.1.length
def a2b (t:C2) (i:Nat):Int:=if B1 (t.2.1.getD i t7).1 0 (t.1.length - 1)=false then 1 else if B1 (t.2.1.getD i t7).2.1 0 (t.1.length - 1)=false then 1 else if B1 (t.2.1.getD i t7).2.2.1 0 16777215=false then 1 else if (t.2.1.getD i t7).1=(t.2.1.getD i t7).2.1 then 4 else 0
def E8 (t:C2):Int :=
  if B1 (t.1.length:Int) 1 6=false then 1 else if A6 (a1l t) t.1.length≠0 then A6 (a1l t) t.1.length else
  if (100:Int)<t.2.1.length then 2 else A6 (a2b t) t.2.1.length
def a27:u7:={ ps:=[.v a0K],rs:=[A7],pre:=fun _=>True,fn:=fun x=>(E8 x.1,()),out:=fun _=>() }
noncomputable def a3d:Env:={ P:=Try.prog,tt:=tt,D0:=[(139,a4o),(229,b0F)],res:=[Go.ResultVar.tmp 2],rs:=[Ty.int IntKind.i64],ps:=[PK.v (Ty.pair (Ty.d0 false (Ty.pair (Ty.int IntKind.i64) (Ty.pair (Ty.int IntKind.i64) (Ty.pair (Ty.int IntKind.u8) (Ty.pair Ty.bool (Ty.pair (Ty.d0 false (Ty.int IntKind.i64)) Ty.unit)))))) (Ty.pair (Ty.d0 false i6) Ty.unit))],E1:=[(5,[(1,none),(3,none),(16,none),(17,none),(18,none)]),(14,[(3,none),(36,none),(37,none),(38,none)])],nt:=70 }
theorem a1N:B3 a3d:=D5 s7 ⟨Z1,b0E,trivial⟩
theorem a1K:E9 a3d Try.f140:=⟨rfl,rfl⟩
theorem b5D (x0_1:List (Int×Int×Int×Bool×List Int×Unit)) (x0_2_1:List (Int×Int×Int×Unit)):exec a3d 1000 [.code (d9 Try.prog 140)] (A3 a27.ps (((x0_1,x0_2_1,()),()))) =
  .f9 (True) (cond (!B1 (↑(List.length x0_1):Int) (1:Int) (6:Int)) (.ret (((1:Int),()))) (.cut (j5 (d9 Try.prog 140) 5).1 (j5 (d9 Try.prog 140) 5).2 (St.mk [(1,AV.ptr 1 []),(3,AV.val (Ty.int IntKind.i64) (↑(List.length x0_1):Int)),(16,AV.val (Ty.d0 false (Ty.pair (Ty.int IntKind.i64) (Ty.pair (Ty.int IntKind.i64) (Ty.pair (Ty.int IntKind.u8) (Ty.pair Ty.bool (Ty.pair (Ty.d0 false (Ty.int IntKind.i64)) Ty.unit)))))) x0_1),(17,AV.val (Ty.int IntKind.i64) (↑(List.length x0_1):Int)),(18,AV.val (Ty.int IntKind.i64) (0:Int))] [(1,f8.var (Ty.pair (Ty.d0 false (Ty.pair (Ty.int IntKind.i64) (Ty.pair (Ty.int IntKind.i64) (Ty.pair (Ty.int IntKind.u8) (Ty.pair Ty.bool (Ty.pair (Ty.d0 false (Ty.int IntKind.i64)) Ty.unit)))))) (Ty.pair (Ty.d0 false i6) Ty.unit)) (x0_1,x0_2_1,()))]))):=by kernel_rfl
def a7e (v3:Int) (v16:List (Int×Int×Int×Bool×List Int×Unit)) (v17:Int) (v18:Int) (o1_1:List (Int×Int×Int×Bool×List Int×Unit)) (o1_2_1:List (Int×Int×Int×Unit)):St:=St.mk [(1,AV.ptr 1 []),(3,AV.val (Ty.int IntKind.i64) v3),(16,AV.val (Ty.d0 false (Ty.pair (Ty.int IntKind.i64) (Ty.pair (Ty.int IntKind.i64) (Ty.pair (Ty.int IntKind.u8) (Ty.pair Ty.bool (Ty.pair (Ty.d0 false (Ty.int IntKind.i64)) Ty.unit)))))) v16),(17,AV.val (Ty.int IntKind.i64) v17),(18,AV.val (Ty.int IntKind.i64) v18)] [(1,f8.var (Ty.pair (Ty.d0 false (Ty.pair (Ty.int IntKind.i64) (Ty.pair (Ty.int IntKind.i64) (Ty.pair (Ty.int IntKind.u8) (Ty.pair Ty.bool (Ty.pair (Ty.d0 false (Ty.int IntKind.i64)) Ty.unit)))))) (Ty.pair (Ty.d0 false i6) Ty.unit)) (o1_1,o1_2_1,()))]
theorem b4n (v3:Int) (v16:List (Int×Int×Int×Bool×List Int×Unit)) (v17:Int) (v18:Int) (o1_1:List (Int×Int×Int×Bool×List Int×Unit)) (o1_2_1:List (Int×Int×Int×Unit)):exec a3d 1000 (.code (j5 (d9 Try.prog 140) 5).1::.inLoop (j5 (d9 Try.prog 140) 5).1::(j5 (d9 Try.prog 140) 5).2) (a7e v3 v16 v17 v18 o1_1 o1_2_1) =
  cond (decide (v18<v17)) (.f9 ((0:Int)≤v18∧v18<(↑(List.length v16):Int)) (.f9 ((0:Int)≤v18∧(1:Int)≤v3∧v3≤(6:Int)) (cond (decide (W1 (List.getD v16 (Int.toNat v18) ((0:Int),(0:Int),(0:Int),false,[],())) v18 v3≠(0:Int))) (.ret ((W1 (List.getD v16 (Int.toNat v18) ((0:Int),(0:Int),(0:Int),false,[],())) v18 v3,()))) (.f9 (w9 IntKind.i64 (v18+(1:Int))) (.cut (j5 (d9 Try.prog 140) 5).1 (j5 (d9 Try.prog 140) 5).2 (St.mk [(1,AV.ptr 1 []),(3,AV.val (Ty.int IntKind.i64) v3),(16,AV.val (Ty.d0 false (Ty.pair (Ty.int IntKind.i64) (Ty.pair (Ty.int IntKind.i64) (Ty.pair (Ty.int IntKind.u8) (Ty.pair Ty.bool (Ty.pair (Ty.d0 false (Ty.int IntKind.i64)) Ty.unit)))))) v16),(17,AV.val (Ty.int IntKind.i64) v17),(18,AV.val (Ty.int IntKind.i64) (v18+(1:Int)))] [(1,f8.var (Ty.pair (Ty.d0 false (Ty.pair (Ty.int IntKind.i64) (Ty.pair (Ty.int IntKind.i64) (Ty.pair (Ty.int IntKind.u8) (Ty.pair Ty.bool (Ty.pair (Ty.d0 false (Ty.int IntKind.i64)) Ty.unit)))))) (Ty.pair (Ty.d0 false i6) Ty.unit)) (o1_1,o1_2_1,()))])))))) (cond (decide ((100:Int)<(↑(List.length o1_2_1):Int))) (.ret (((2:Int),()))) (.cut (j5 (d9 Try.prog 140) 14).1 (j5 (d9 Try.prog 140) 14).2 (St.mk [(3,AV.val (Ty.int IntKind.i64) v3),(36,AV.val (Ty.d0 false i6) o1_2_1),(37,AV.val (Ty.int IntKind.i64) (↑(List.length o1_2_1):Int)),(38,AV.val (Ty.int IntKind.i64) (0:Int))] []))):=by kernel_rfl
def a5s (v3:Int) (v36:List (Int×Int×Int×Unit)) (v37:Int) (v38:Int):St:=St.mk [(3,AV.val (Ty.int IntKind.i64) v3),(36,AV.val (Ty.d0 false i6) v36),(37,AV.val (Ty.int IntKind.i64) v37),(38,AV.val (Ty.int IntKind.i64) v38)] []
theorem b2b (v3:Int) (v36:List (Int×Int×Int×Unit)) (v37:Int) (v38:Int):exec a3d 1000 (.code (j5 (d9 Try.prog 140) 14).1::.inLoop (j5 (d9 Try.prog 140) 14).1::(j5 (d9 Try.prog 140) 14).2) (a5s v3 v36 v37 v38) =
  cond (decide (v38<v37)) (.f9 ((0:Int)≤v38∧v38<(↑(List.length v36):Int)) (.f9 (w9 IntKind.i64 (v3 - (1:Int))) (.f9 (True) (cond (!B1 (Prod.fst (List.getD v36 (Int.toNat v38) ((0:Int),(0:Int),(0:Int),()))) (0:Int) (v3 - (1:Int))) (.ret (((1:Int),()))) (.f9 (w9 IntKind.i64 (v3 - (1:Int))) (.f9 (True) (cond (!B1 (Prod.fst (Prod.snd (List.getD v36 (Int.toNat v38) ((0:Int),(0:Int),(0:Int),())))) (0:Int) (v3 - (1:Int))) (.ret (((1:Int),()))) (.f9 (True) (cond (!B1 (Prod.fst (Prod.snd (Prod.snd (List.getD v36 (Int.toNat v38) ((0:Int),(0:Int),(0:Int),()))))) (0:Int) (16777215:Int)) (.ret (((1:Int),()))) (cond (decide (Prod.fst (List.getD v36 (Int.toNat v38) ((0:Int),(0:Int),(0:Int),()))=Prod.fst (Prod.snd (List.getD v36 (Int.toNat v38) ((0:Int),(0:Int),(0:Int),()))))) (.ret (((4:Int),()))) (.f9 (w9 IntKind.i64 (v38+(1:Int))) (.cut (j5 (d9 Try.prog 140) 14).1 (j5 (d9 Try.prog 140) 14).2 (St.mk [(3,AV.val (Ty.int IntKind.i64) v3),(36,AV.val (Ty.d0 false i6) v36),(37,AV.val (Ty.int IntKind.i64) v37),(38,AV.val (Ty.int IntKind.i64) (v38+(1:Int)))] []))))))))))))) (.ret (((0:Int),()))):=by kernel_rfl
theorem a1z:a27.Valid Try.prog 140:=by
  refine u7.u6 a1N rfl rfl Try.func140 (c:=d9 Try.prog 140) rfl rfl a1K rfl ?_
  rintro ⟨⟨(hs:List w8),(ws:List o8),⟨⟩⟩,⟨⟩⟩ - ⟨⟨⟨hl1,-⟩,⟨hl2,-⟩,-⟩,-⟩
  have hl1:hs.length≤9223372036854775807:=hl1
  have hl2:ws.length≤9223372036854775807:=hl2
  refine o4 (n:=1000) a1N a1K ?_
  refine n6 (b5D hs ws) ?_
  have key:∀ {x:Int},x=E8 (hs,ws,())→((x,()):Int×Unit)=(E8 (hs,ws,()),()):=by rintro x rfl; rfl
  have hd:E8 (hs,ws,())=if B1 (hs.length:Int) 1 6=false then 1 else if A6 (a1l (hs,ws,())) hs.length≠0 then A6 (a1l (hs,ws,())) hs.length else
    if (100:Int)<ws.length then 2 else A6 (a2b (hs,ws,())) ws.length:=rfl
  simp only [o7,Tree.holds,true_and,true_implies,decide_eq_true_eq,decide_eq_false_iff_not,Bool.not_eq_true',Bool.not_eq_false',Int.toNat_natCast,r9,List.length_set,List.length_cons,List.length_nil]
  refine ⟨fun a=>key (by rw [hd,if_pos a]),fun a=>?_⟩
  have hn:=E0.1 a
  rw [if_neg (nf a)] at hd
  refine Reach.S5 a1N a1K (fun i:Nat=>a7e (hs.length:Int) hs (hs.length:Int) (i:Int) hs ws) (fun i=>i≤hs.length∧A6 (a1l (hs,ws,())) i=0) (fun i=>hs.length - i) 1000 (fun _=>⟨x6 rfl,x6 rfl⟩) ?_ 0 ⟨by omega,rfl⟩
  rintro i ⟨k1,k2⟩ - ih
  have k1:i≤hs.length:=k1
  refine n6 (b4n ..) ?_
  simp only [o7,Tree.holds,true_and,true_implies,decide_eq_true_eq,decide_eq_false_iff_not,Bool.not_eq_true',Bool.not_eq_false',Int.toNat_natCast,r9,List.length_set,List.length_cons,List.length_nil]
  refine ⟨fun c=>⟨by omega,fun _=>⟨by omega,fun _=>?_⟩⟩,fun c=>?_⟩
  · have hc:a1l (hs,ws,()) i=W1 (hs.getD i (0,0,0,false,[],())) i hs.length:=rfl
    refine ⟨fun e=>key ?_,fun e=>⟨by omega,fun _=>ih (i+1) ⟨by omega,V4 k2 (hc.trans (Decidable.not_not.1 e))⟩ (by omega)⟩⟩
    have h9:A6 (a1l (hs,ws,())) hs.length=a1l (hs,ws,()) i:=V3 k2 (by rw [hc]; exact e) (by omega)
    rw [hd,h9,if_pos (by rw [hc]; exact e),hc]
  · have e:i=hs.length:=by omega
    rw [e] at k2
    rw [if_neg (by simp [k2])] at hd
    refine ⟨fun d=>key (by rw [hd,if_pos d]),fun d=>?_⟩
    rw [if_neg d] at hd
    refine Reach.S5 a1N a1K (fun i:Nat=>a5s (hs.length:Int) ws (ws.length:Int) (i:Int)) (fun i=>i≤ws.length∧A6 (a2b (hs,ws,())) i=0) (fun i=>ws.length - i) 1000 (fun _=>⟨x6 rfl,x6 rfl⟩) ?_ 0 ⟨by omega,rfl⟩
    rintro i ⟨k1,k2⟩ - ih
    have k1:i≤ws.length:=k1
    refine n6 (b2b ..) ?_
    simp only [o7,Tree.holds,true_and,true_implies,decide_eq_true_eq,decide_eq_false_iff_not,Bool.not_eq_true',Bool.not_eq_false',Int.toNat_natCast,r9,List.length_set,List.length_cons,List.length_nil]
    have hc:a2b (hs,ws,()) i=if B1 (ws.getD i (0,0,0,())).1 0 (hs.length - 1)=false then 1 else if B1 (ws.getD i (0,0,0,())).2.1 0 (hs.length - 1)=false then 1 else if B1 (ws.getD i (0,0,0,())).2.2.1 0 16777215=false then 1 else if (ws.getD i (0,0,0,())).1=(ws.getD i (0,0,0,())).2.1 then 4 else 0:=rfl
    generalize ws.getD i (0,0,0,())=w at hc
    obtain ⟨x,y,z,⟨⟩⟩:=w
    refine ⟨fun c=>⟨by omega,fun _=>⟨by omega,fun _=>?_⟩⟩,fun c=>key (by rw [hd,show ws.length=i by omega,k2])⟩
    have stop:∀ {v:Int},v≠0→a2b (hs,ws,()) i=v→((v,()):Int×Unit)=(E8 (hs,ws,()),()):=fun hv h9=>key (by
      rw [hd,V3 k2 (by rw [h9]; exact hv) (by omega),h9])
    refine ⟨fun p1=>stop (by decide) (by rw [hc,if_pos p1]),fun p1=>⟨by omega,fun _=>⟨fun p2=>stop (by decide) (by rw [hc,if_neg (nf p1),if_pos p2]),fun p2=>⟨fun p3=>stop (by decide) (by rw [hc,if_neg (nf p1),if_neg (nf p2),if_pos p3]),fun p3=>⟨fun p4=>stop (by decide) (by rw [hc,if_neg (nf p1),if_neg (nf p2),if_neg (nf p3),if_pos p4]),fun p4=>⟨by omega,fun _=>ih (i+1) ⟨by omega,V4 k2 ?_⟩ (by omega)⟩⟩⟩⟩⟩⟩
    rw [hc,if_neg (nf p1),if_neg (nf p2),if_neg (nf p3),if_neg p4]
def a26:u7:={ ps:=[.v a0K],rs:=[a4G],pre:=fun x=>List.length (α:=w8) x.1.1≤1048576∧List.length (α:=o8) x.1.2.1≤1048576∧∀ i,i<List.length (α:=w8) x.1.1→(List.getD (α:=w8) x.1.1 i x4).2.2.2.2.1.length≤1048576,fn:=fun x=>x,out:=fun _=>() }
noncomputable def a48:Env:={ P:=Try.prog,tt:=tt,D0:=[(78,b6b),(230,a44)],res:=[Go.ResultVar.cell 2 66],rs:=[Ty.pair (Ty.d0 true (Ty.pair (Ty.int IntKind.i64) (Ty.pair (Ty.int IntKind.i64) (Ty.pair (Ty.int IntKind.u8) (Ty.pair Ty.bool (Ty.pair Is Ty.unit)))))) (Ty.pair (Ty.d0 true i6) Ty.unit)],ps:=[PK.v (Ty.pair (Ty.d0 false (Ty.pair (Ty.int IntKind.i64) (Ty.pair (Ty.int IntKind.i64) (Ty.pair (Ty.int IntKind.u8) (Ty.pair Ty.bool (Ty.pair (Ty.d0 false (Ty.int IntKind.i64)) Ty.unit)))))) (Ty.pair (Ty.d0 false i6) Ty.unit))],E1:=[(3,[(2,none),(3,none),(11,none),(12,none),(13,none)])],nt:=29 }
theorem a3R:B3 a48:=D5 s7 ⟨b3U,a3W,trivial⟩
theorem a3P:E9 a48 Try.f141:=⟨rfl,rfl⟩
theorem b5C (x0_1:List (Int×Int×Int×Bool×List Int×Unit)) (x0_2_1:List (Int×Int×Int×Unit)):exec a48 1000 [.code (d9 Try.prog 141)] (A3 a26.ps (((x0_1,x0_2_1,()),()))) =
  .f9 (List.length x0_2_1≤1048576) (.cut (j5 (d9 Try.prog 141) 3).1 (j5 (d9 Try.prog 141) 3).2 (St.mk [(2,AV.ptr 2 []),(3,AV.ptr 3 []),(11,AV.val (Ty.d0 false (Ty.pair (Ty.int IntKind.i64) (Ty.pair (Ty.int IntKind.i64) (Ty.pair (Ty.int IntKind.u8) (Ty.pair Ty.bool (Ty.pair (Ty.d0 false (Ty.int IntKind.i64)) Ty.unit)))))) x0_1),(12,AV.val (Ty.int IntKind.i64) (↑(List.length x0_1):Int)),(13,AV.val (Ty.int IntKind.i64) (0:Int))] [(2,f8.var (Ty.pair (Ty.d0 true (Ty.pair (Ty.int IntKind.i64) (Ty.pair (Ty.int IntKind.i64) (Ty.pair (Ty.int IntKind.u8) (Ty.pair Ty.bool (Ty.pair Is Ty.unit)))))) (Ty.pair (Ty.d0 true i6) Ty.unit)) ([],[],())),(3,f8.var (Ty.pair (Ty.d0 true (Ty.pair (Ty.int IntKind.i64) (Ty.pair (Ty.int IntKind.i64) (Ty.pair (Ty.int IntKind.u8) (Ty.pair Ty.bool (Ty.pair Is Ty.unit)))))) (Ty.pair (Ty.d0 true i6) Ty.unit)) ([],x0_2_1,()))])):=by kernel_rfl
def a7d (v11:List (Int×Int×Int×Bool×List Int×Unit)) (v12:Int) (v13:Int) (o2_1:List (Int×Int×Int×Bool×List Int×Unit)) (o2_2_1:List (Int×Int×Int×Unit)) (o3_1:List (Int×Int×Int×Bool×List Int×Unit)) (o3_2_1:List (Int×Int×Int×Unit)):St:=St.mk [(2,AV.ptr 2 []),(3,AV.ptr 3 []),(11,AV.val (Ty.d0 false (Ty.pair (Ty.int IntKind.i64) (Ty.pair (Ty.int IntKind.i64) (Ty.pair (Ty.int IntKind.u8) (Ty.pair Ty.bool (Ty.pair (Ty.d0 false (Ty.int IntKind.i64)) Ty.unit)))))) v11),(12,AV.val (Ty.int IntKind.i64) v12),(13,AV.val (Ty.int IntKind.i64) v13)] [(2,f8.var (Ty.pair (Ty.d0 true (Ty.pair (Ty.int IntKind.i64) (Ty.pair (Ty.int IntKind.i64) (Ty.pair (Ty.int IntKind.u8) (Ty.pair Ty.bool (Ty.pair Is Ty.unit)))))) (Ty.pair (Ty.d0 true i6) Ty.unit)) (o2_1,o2_2_1,())),(3,f8.var (Ty.pair (Ty.d0 true (Ty.pair (Ty.int IntKind.i64) (Ty.pair (Ty.int IntKind.i64) (Ty.pair (Ty.int IntKind.u8) (Ty.pair Ty.bool (Ty.pair Is Ty.unit)))))) (Ty.pair (Ty.d0 true i6) Ty.unit)) (o3_1,o3_2_1,()))]
theorem b4m (v11:List (Int×Int×Int×Bool×List Int×Unit)) (v12:Int) (v13:Int) (o2_1:List (Int×Int×Int×Bool×List Int×Unit)) (o2_2_1:List (Int×Int×Int×Unit)) (o3_1:List (Int×Int×Int×Bool×List Int×Unit)) (o3_2_1:List (Int×Int×Int×Unit)):exec a48 1000 (.code (j5 (d9 Try.prog 141) 3).1::.inLoop (j5 (d9 Try.prog 141) 3).1::(j5 (d9 Try.prog 141) 3).2) (a7d v11 v12 v13 o2_1 o2_2_1 o3_1 o3_2_1) =
  cond (decide (v13<v12)) (.f9 ((0:Int)≤v13∧v13<(↑(List.length v11):Int)) (.f9 (List.length (Prod.fst (Prod.snd (Prod.snd (Prod.snd (Prod.snd (List.getD v11 (Int.toNat v13) ((0:Int),(0:Int),(0:Int),false,[],())))))))≤1048576) (.f9 (True∧[]++[Step.j6 0]=[]++[Step.j6 0]∧List.length o3_1+List.length (List.set [((0:Int),(0:Int),(0:Int),false,[],())] (Int.toNat (↑0:Int)) (Prod.fst (List.getD v11 (Int.toNat v13) ((0:Int),(0:Int),(0:Int),false,[],())),Prod.fst (Prod.snd (List.getD v11 (Int.toNat v13) ((0:Int),(0:Int),(0:Int),false,[],()))),Prod.fst (Prod.snd (Prod.snd (List.getD v11 (Int.toNat v13) ((0:Int),(0:Int),(0:Int),false,[],())))),Prod.fst (Prod.snd (Prod.snd (Prod.snd (List.getD v11 (Int.toNat v13) ((0:Int),(0:Int),(0:Int),false,[],()))))),Prod.fst (Prod.snd (Prod.snd (Prod.snd (Prod.snd (List.getD v11 (Int.toNat v13) ((0:Int),(0:Int),(0:Int),false,[],())))))),Prod.snd (Prod.snd (Prod.snd (Prod.snd (Prod.snd (List.getD v11 (Int.toNat v13) ((0:Int),(0:Int),(0:Int),false,[],()))))))))≤140737488355328∧(List.length o3_1+List.length (List.set [((0:Int),(0:Int),(0:Int),false,[],())] (Int.toNat (↑0:Int)) (Prod.fst (List.getD v11 (Int.toNat v13) ((0:Int),(0:Int),(0:Int),false,[],())),Prod.fst (Prod.snd (List.getD v11 (Int.toNat v13) ((0:Int),(0:Int),(0:Int),false,[],()))),Prod.fst (Prod.snd (Prod.snd (List.getD v11 (Int.toNat v13) ((0:Int),(0:Int),(0:Int),false,[],())))),Prod.fst (Prod.snd (Prod.snd (Prod.snd (List.getD v11 (Int.toNat v13) ((0:Int),(0:Int),(0:Int),false,[],()))))),Prod.fst (Prod.snd (Prod.snd (Prod.snd (Prod.snd (List.getD v11 (Int.toNat v13) ((0:Int),(0:Int),(0:Int),false,[],())))))),Prod.snd (Prod.snd (Prod.snd (Prod.snd (Prod.snd (List.getD v11 (Int.toNat v13) ((0:Int),(0:Int),(0:Int),false,[],())))))))))*Ty.wb (Ty.pair (Ty.int IntKind.i64) (Ty.pair (Ty.int IntKind.i64) (Ty.pair (Ty.int IntKind.u8) (Ty.pair Ty.bool (Ty.pair Is Ty.unit)))))≤140737488355328) (.f9 (w9 IntKind.i64 (v13+(1:Int))) (.cut (j5 (d9 Try.prog 141) 3).1 (j5 (d9 Try.prog 141) 3).2 (St.mk [(2,AV.ptr 2 []),(3,AV.ptr 3 []),(11,AV.val (Ty.d0 false (Ty.pair (Ty.int IntKind.i64) (Ty.pair (Ty.int IntKind.i64) (Ty.pair (Ty.int IntKind.u8) (Ty.pair Ty.bool (Ty.pair (Ty.d0 false (Ty.int IntKind.i64)) Ty.unit)))))) v11),(12,AV.val (Ty.int IntKind.i64) v12),(13,AV.val (Ty.int IntKind.i64) (v13+(1:Int)))] [(2,f8.var (Ty.pair (Ty.d0 true (Ty.pair (Ty.int IntKind.i64) (Ty.pair (Ty.int IntKind.i64) (Ty.pair (Ty.int IntKind.u8) (Ty.pair Ty.bool (Ty.pair Is Ty.unit)))))) (Ty.pair (Ty.d0 true i6) Ty.unit)) (o2_1,o2_2_1,())),(3,f8.var (Ty.pair (Ty.d0 true (Ty.pair (Ty.int IntKind.i64) (Ty.pair (Ty.int IntKind.i64) (Ty.pair (Ty.int IntKind.u8) (Ty.pair Ty.bool (Ty.pair Is Ty.unit)))))) (Ty.pair (Ty.d0 true i6) Ty.unit)) (o3_1++List.set [((0:Int),(0:Int),(0:Int),false,[],())] (Int.toNat (↑0:Int)) (Prod.fst (List.getD v11 (Int.toNat v13) ((0:Int),(0:Int),(0:Int),false,[],())),Prod.fst (Prod.snd (List.getD v11 (Int.toNat v13) ((0:Int),(0:Int),(0:Int),false,[],()))),Prod.fst (Prod.snd (Prod.snd (List.getD v11 (Int.toNat v13) ((0:Int),(0:Int),(0:Int),false,[],())))),Prod.fst (Prod.snd (Prod.snd (Prod.snd (List.getD v11 (Int.toNat v13) ((0:Int),(0:Int),(0:Int),false,[],()))))),Prod.fst (Prod.snd (Prod.snd (Prod.snd (Prod.snd (List.getD v11 (Int.toNat v13) ((0:Int),(0:Int),(0:Int),false,[],())))))),Prod.snd (Prod.snd (Prod.snd (Prod.snd (Prod.snd (List.getD v11 (Int.toNat v13) ((0:Int),(0:Int),(0:Int),false,[],()))))))),o3_2_1,()))])))))) (.ret (((o3_1,o3_2_1,()),()))):=by kernel_rfl
theorem b2d:Ty.wb b63=48:=rfl
theorem a79 {α:Type} {l:List α} {i:Nat} (h:i<l.length) (d:α):l.take i++[l.getD i d]=l.take (i+1):=by
  rw [List.getD_eq_getElem?_getD,List.getElem?_eq_getElem h]; simp
theorem a1y:a26.Valid Try.prog 141:=by
  refine u7.u6 a3R rfl rfl Try.func141 (c:=d9 Try.prog 141) rfl rfl a3P rfl ?_
  rintro ⟨⟨(hs:List w8),(ws:List o8),⟨⟩⟩,⟨⟩⟩ ⟨(h1:hs.length≤1048576),(h2:ws.length≤1048576),(h3:∀ i,i<hs.length→(hs.getD i x4).2.2.2.2.1.length≤1048576)⟩ -
  refine o4 (n:=1000) a3R a3P ?_
  refine n6 (b5C hs ws) ?_
  refine ⟨h2,fun _=>?_⟩
  refine Reach.S5 a3R a3P (fun i:Nat=>a7d hs (hs.length:Int) (i:Int) [] [] (hs.take i) ws) (fun i=>i≤hs.length) (fun i=>hs.length - i) 1000 (fun _=>⟨x6 rfl,x6 rfl⟩) ?_ 0 (by omega)
  rintro i k1 - ih
  have k1:i≤hs.length:=k1
  refine n6 (b4m ..) ?_
  simp only [o7,Tree.holds,true_and,true_implies,decide_eq_true_eq,decide_eq_false_iff_not,Bool.not_eq_true',Bool.not_eq_false',Int.toNat_natCast,r9,List.length_set,List.length_cons,List.length_nil,b2d]
  refine ⟨fun c=>?_,fun c=>?_⟩
  · have hi:i<hs.length:=by omega
    have h4:=h3 i hi
    have next:=ih (i+1) (by show i+1≤hs.length; omega) (by omega)
    rw [← a79 hi x4] at next
    have hln:(hs.take i).length≤1048576:=by rw [List.length_take]; omega
    rw [show hs.getD i (0,0,0,false,[],())=hs.getD i x4 from rfl]
    generalize hs.getD i x4=d at *
    obtain ⟨a,b,c9,e,f,⟨⟩⟩:=d
    simp only at h4 ⊢
    exact ⟨by omega,fun _=>⟨h4,fun _=>⟨⟨by omega,by omega⟩,fun _=>⟨by omega,fun _=>next⟩⟩⟩⟩
  · show ((hs.take i,ws,()),())=(((hs,ws,()),()):C2×Unit)
    rw [List.take_of_length_le (by omega)]
def e0:C2:=([],[],())
structure EOk (t:C2):Prop where
  n:1≤t.1.length∧t.1.length≤6
  h:∀ i:Nat,i<t.1.length→W1 (t.1.getD i x4) i t.1.length=0
  l:t.2.1.length≤100
  w:∀ k,k<t.2.1.length→(0≤(t.2.1.getD k t7).1∧(t.2.1.getD k t7).1<t.1.length)∧(0≤(t.2.1.getD k t7).2.1∧(t.2.1.getD k t7).2.1<t.1.length)∧(0≤(t.2.1.getD k t7).2.2.1∧(t.2.1.getD k t7).2.2.1≤16777215)∧(t.2.1.getD k t7).1≠(t.2.1.getD k t7).2.1
theorem a8v {t:C2} {k:Nat}:a2b t k=0↔(0≤(t.2.1.getD k t7).1∧(t.2.1.getD k t7).1≤t.1.length - 1)∧(0≤(t.2.1.getD k t7).2.1∧(t.2.1.getD k t7).2.1≤t.1.length - 1)∧(0≤(t.2.1.getD k t7).2.2.1∧(t.2.1.getD k t7).2.2.1≤16777215)∧(t.2.1.getD k t7).1≠(t.2.1.getD k t7).2.1:=by
  rw [a2b,← E0,← E0,← E0]
  generalize t.2.1.getD k t7=w
  cases B1 w.1 0 (t.1.length - 1)<;>cases B1 w.2.1 0 (t.1.length - 1)<;>cases B1 w.2.2.1 0 16777215<;>simp
theorem a3F {t:C2}:E8 t=0↔EOk t:=by
  constructor
  · intro h
    unfold E8 at h
    split at h
    · cases h
    · rename_i h1
      split at h
      · exact absurd h (by assumption)
      · rename_i h2
        split at h
        · cases h
        · rename_i h3
          have h1:=E0.1 (by simpa using h1)
          have h2:=H4.1 (Decidable.not_not.1 h2)
          have h4:=H4.1 h
          refine ⟨by omega,h2,by omega,fun k hk=>?_⟩
          obtain ⟨q1,q2,q3,q4⟩:=a8v.1 (h4 k hk)
          exact ⟨by omega,by omega,q3,q4⟩
  · intro h
    rw [E8,if_neg (by rw [E0.2 (show (1:Int)≤t.1.length∧(t.1.length:Int)≤6 by have:=h.n; omega)]; simp),if_neg,if_neg (by have:=h.l; omega)]
    · refine H4.2 (fun k hk=>a8v.2 ?_)
      obtain ⟨q1,q2,q3,q4⟩:=h.w k hk
      exact ⟨by omega,by omega,q3,q4⟩
    · exact not_not_intro (H4.2 h.h)
structure DOk (d:w8) (p n:Int):Prop where
  c:0≤d.1∧d.1≤16777215
  w:0≤d.2.1∧d.2.1≤d.1
  l:d.2.2.2.2.1.length≤6
  y:V6 .u8 d.2.2.1 (others n p)=0
  z:d.2.1=0→d.2.2.1=0∧d.2.2.2.1=false∧d.2.2.2.2.1=[]
  i:d.2.2.2.1=true→d.2.2.1=others n p
  f:∀ i,i<d.2.2.2.2.1.length→(0≤d.2.2.2.2.1.getD i 0∧d.2.2.2.2.1.getD i 0<n)∧d.2.2.2.2.1.getD i 0≠p∧d.2.2.2.2.1.getD i 0∉d.2.2.2.2.1.take i
theorem a8m {l:List Int} {p n:Int} {i:Nat}:a0A l p n i=0↔(0≤l.getD i 0∧l.getD i 0≤n - 1)∧l.getD i 0≠p∧l.getD i 0∉l.take i:=by
  rw [a0A,← E0]
  generalize l.getD i 0=x
  cases B1 x 0 (n - 1) with
  | false=>simp
  | true=>by_cases e:x=p<;>by_cases e2:x∈l.take i<;>simp [e,e2]<;>(subst e; exact e2)
theorem b43 {d:w8} {p n:Int}:W1 d p n=0↔DOk d p n:=by
  obtain ⟨c,w,y,b,l,u⟩:=d
  have hd:W1 (c,w,y,b,l,u) p n=if B1 c 0 16777215=false then 1 else if B1 w 0 c=false then 1 else if (6:Int)<l.length then 1 else
    if V6 .u8 y (others n p)≠0 then 4 else if w=0∧(y≠0∨b=true∨(0:Int)<l.length) then 4 else
    if b=true∧y≠others n p then 4 else A6 (a0A l p n) l.length:=rfl
  rw [hd]
  constructor
  · intro h
    split at h
    · cases h
    rename_i h1
    split at h
    · cases h
    rename_i h2
    split at h
    · cases h
    rename_i h3
    split at h
    · cases h
    rename_i h4
    split at h
    · cases h
    rename_i h5
    split at h
    · cases h
    rename_i h6
    have h1:=E0.1 (by simpa using h1)
    have h2:=E0.1 (by simpa using h2)
    refine ⟨h1,h2,by show l.length≤6; omega,Decidable.not_not.1 h4,fun e=>⟨?_,?_,?_⟩,fun e=>?_,fun i hi=>?_⟩
    · exact Decidable.not_not.1 (fun h9=>h5 ⟨e,.inl h9⟩)
    · cases hb:b with
      | false=>rfl
      | true=>exact absurd ⟨e,.inr (.inl hb)⟩ h5
    · show l=[]
      refine List.length_eq_zero_iff.1 ?_
      have:¬ (0:Int)<l.length:=fun h9=>h5 ⟨e,.inr (.inr h9)⟩
      omega
    · exact Decidable.not_not.1 (fun h9=>h6 ⟨e,h9⟩)
    · obtain ⟨q1,q2,q3⟩:=a8m.1 (H4.1 h i hi)
      exact ⟨by show 0≤l.getD i 0∧l.getD i 0<n; omega,q2,q3⟩
  · rintro ⟨h1,h2,h3,h4,h5,h6,h7⟩
    have h1:0≤c∧c≤16777215:=h1
    have h2:0≤w∧w≤c:=h2
    have h3:l.length≤6:=h3
    have h5:w=0→y=0∧b=false∧l=[]:=h5
    rw [if_neg (by simp [E0.2 h1]),if_neg (by simp [E0.2 h2]),if_neg (by omega),if_neg (by simpa using h4),if_neg,if_neg (fun h=>h.2 (h6 h.1))]
    · refine H4.2 (fun i hi=>a8m.2 ?_)
      obtain ⟨q1,q2,q3⟩:=h7 i hi
      have q1:0≤l.getD i 0∧l.getD i 0<n:=q1
      exact ⟨by omega,q2,q3⟩
    · rintro ⟨e,h⟩
      obtain ⟨a1,a2,a3⟩:=h5 e
      subst a1; subst a2; subst a3
      simp at h
theorem EOk.d {t:C2} (h:EOk t) {i:Nat} (hi:i<t.1.length):DOk (t.1.getD i x4) i t.1.length:=b43.1 (h.h i hi)
end Go.Proofs.Ytekbamiaenbhjaa
