/- Skeen: wait, Check, Offer, Fix. No condition but those named. -/
import Derived.Test.YtekbamiaenbhjaaSkP
namespace Go.Proofs.Ytekbamiaenbhjaa
open Go.Ex Go.Sort
set_option maxRecDepth 100000
def b44:w6:={ ps:=[.v a2a,.v s6],rs:=[s6],pre:=fun x=>LE.le (α:=Int) 0 x.2.1∧LT.lt (α:=Int) x.2.1 (List.length (α:=w7) x.1.2.2.1),fn:=fun x=>(H9 x.1.1 x.1.2.1 x.1.2.2.1 (Int.toNat x.2.1),()),out:=fun _=>() }
noncomputable def b5P:Env:={ P:=Try.prog,tt:=tt,C7:=[(189,b1i),(192,a7r),(187,b5o)],res:=[Go.ResultVar.tmp 4],rs:=[Ty.int IntKind.i64],ps:=[PK.v (Ty.pair (Ty.int IntKind.i64) (Ty.pair (Ty.int IntKind.i64) (Ty.pair (Ty.d0 false (Ty.pair (Ty.int IntKind.i64) (Ty.pair t7 (Ty.pair Ty.bool Ty.unit)))) Ty.unit))),PK.v (Ty.int IntKind.i64)],C5:=[],nt:=67 }
theorem b1W:B0 b5P:=B9 t8 ⟨a34,a24,b3g,trivial⟩
theorem b1H:D0 b5P Try.f260:=⟨rfl,rfl⟩
theorem c0n (x0_1:Int) (x0_2_1:Int) (x0_2_2_1:List (Int×(Int×Int×Unit)×Bool×Unit)) (x1:Int):exec b5P 1000 [.code (d9 Try.prog 260)] (y8 b44.ps (((x0_1,x0_2_1,x0_2_2_1,()),x1,()))) =
  .f9 ((0:Int)≤x1∧x1<(↑(List.length x0_2_2_1):Int)) (.f9 (True) (cond (!K4 (Prod.fst (Prod.fst (Prod.snd (List.getD x0_2_2_1 (Int.toNat x1) ((0:Int),((0:Int),(0:Int),()),false,()))))) (1:Int) x0_2_1) (.ret (((1:Int),()))) (.f9 (True) (cond (!K4 (Prod.fst (Prod.snd (Prod.fst (Prod.snd (List.getD x0_2_2_1 (Int.toNat x1) ((0:Int),((0:Int),(0:Int),()),false,())))))) (0:Int) (5:Int)) (.ret (((1:Int),()))) (cond (decide (Prod.fst (List.getD x0_2_2_1 (Int.toNat x1) ((0:Int),((0:Int),(0:Int),()),false,()))<(0:Int))) (.ret (((1:Int),()))) (cond (!Prod.fst (Prod.snd (Prod.snd (List.getD x0_2_2_1 (Int.toNat x1) ((0:Int),((0:Int),(0:Int),()),false,()))))) (cond (decide (Prod.fst (Prod.snd (Prod.fst (Prod.snd (List.getD x0_2_2_1 (Int.toNat x1) ((0:Int),((0:Int),(0:Int),()),false,())))))≠x0_1)) (.ret (((4:Int),()))) (cond (decide ((0:Int)<x1)) (.f9 (C3 IntKind.i64 (x1 - (1:Int))) (.f9 ((0:Int)≤x1 - (1:Int)∧x1 - (1:Int)<(↑(List.length x0_2_2_1):Int)) (.f9 (True) (cond (decide (K9 (Prod.fst (Prod.snd (List.getD x0_2_2_1 (Int.toNat x1) ((0:Int),((0:Int),(0:Int),()),false,())))) (Prod.fst (Prod.snd (List.getD x0_2_2_1 (Int.toNat (x1 - (1:Int))) ((0:Int),((0:Int),(0:Int),()),false,()))))≤(0:Int))) (.ret (((4:Int),()))) (.f9 ((0:Int)≤(0:Int)∧(0:Int)≤x1∧x1≤(↑(List.length x0_2_2_1):Int)) (.f9 (True) (cond (List.any (B3 (0:Int) x1 x0_2_2_1) (C2 (Prod.fst (List.getD x0_2_2_1 (Int.toNat x1) ((0:Int),((0:Int),(0:Int),()),false,()))))) (.ret (((4:Int),()))) (.ret (((0:Int),())))))))))) (.f9 ((0:Int)≤(0:Int)∧(0:Int)≤x1∧x1≤(↑(List.length x0_2_2_1):Int)) (.f9 (True) (cond (List.any (B3 (0:Int) x1 x0_2_2_1) (C2 (Prod.fst (List.getD x0_2_2_1 (Int.toNat x1) ((0:Int),((0:Int),(0:Int),()),false,()))))) (.ret (((4:Int),()))) (.ret (((0:Int),())))))))) (cond (decide ((0:Int)<x1)) (.f9 (C3 IntKind.i64 (x1 - (1:Int))) (.f9 ((0:Int)≤x1 - (1:Int)∧x1 - (1:Int)<(↑(List.length x0_2_2_1):Int)) (.f9 (True) (cond (decide (K9 (Prod.fst (Prod.snd (List.getD x0_2_2_1 (Int.toNat x1) ((0:Int),((0:Int),(0:Int),()),false,())))) (Prod.fst (Prod.snd (List.getD x0_2_2_1 (Int.toNat (x1 - (1:Int))) ((0:Int),((0:Int),(0:Int),()),false,()))))≤(0:Int))) (.ret (((4:Int),()))) (.f9 ((0:Int)≤(0:Int)∧(0:Int)≤x1∧x1≤(↑(List.length x0_2_2_1):Int)) (.f9 (True) (cond (List.any (B3 (0:Int) x1 x0_2_2_1) (C2 (Prod.fst (List.getD x0_2_2_1 (Int.toNat x1) ((0:Int),((0:Int),(0:Int),()),false,()))))) (.ret (((4:Int),()))) (.ret (((0:Int),())))))))))) (.f9 ((0:Int)≤(0:Int)∧(0:Int)≤x1∧x1≤(↑(List.length x0_2_2_1):Int)) (.f9 (True) (cond (List.any (B3 (0:Int) x1 x0_2_2_1) (C2 (Prod.fst (List.getD x0_2_2_1 (Int.toNat x1) ((0:Int),((0:Int),(0:Int),()),false,()))))) (.ret (((4:Int),()))) (.ret (((0:Int),()))))))))))))):=by kernel_rfl
theorem b2W:b44.Valid Try.prog 260:=by
  refine w6.t6 b1W rfl rfl Try.func260 (c:=d9 Try.prog 260) rfl rfl b1H rfl ?_
  rintro ⟨⟨(me:Int),(A6:Int),(ws:List w7),⟨⟩⟩,(i:Int),⟨⟩⟩ ⟨(h0:0≤i),(h1:i<(ws.length:Int))⟩ ⟨-,(hi:_),-⟩
  have hb:LE.le (α:=Int) (-9223372036854775808) i∧i≤9223372036854775807:=x5.1 hi
  obtain ⟨i,rfl⟩:=Int.eq_ofNat_of_zero_le h0
  refine l8 (n:=1000) b1W b1H ?_
  refine j9 (c0n me A6 ws ((i:Nat):Int)) ?_
  have hg:Int.toNat ((i:Nat):Int)=i:=Int.toNat_natCast i
  simp only [s4,Tree.holds,true_and,true_implies,decide_eq_true_eq,decide_eq_false_iff_not,Bool.not_eq_true',Bool.not_eq_false',Int.toNat_natCast,x5,List.length_set,List.length_cons,List.length_nil]
  have ct:B3 0 ((i:Nat):Int) ws=ws.take i:=by simp [B3]
  have nf:∀ {b:Bool},b=true→¬ b=false:=fun {b} h=>by rw [h]; simp
  rw [ct]
  refine ⟨⟨h0,h1⟩,fun _=>⟨fun c1=>?_,fun c1=>⟨fun c2=>?_,fun c2=>⟨fun c3=>?_,fun c3=>⟨fun c4=>⟨fun c5=>?_,fun c5=>?_⟩,fun c4=>?_⟩⟩⟩⟩⟩
  · show ((1,()):Int×Unit)=(H9 me A6 ws i,())
    rw [H9,if_pos c1]
  · show ((1,()):Int×Unit)=(H9 me A6 ws i,())
    rw [H9,if_neg (nf c1),if_pos c2]
  · show ((1,()):Int×Unit)=(H9 me A6 ws i,())
    rw [H9,if_neg (nf c1),if_neg (nf c2),if_pos c3]
  · show ((4,()):Int×Unit)=(H9 me A6 ws i,())
    rw [H9,if_neg (nf c1),if_neg (nf c2),if_neg c3,if_pos ⟨c4,c5⟩]
  all_goals
    have hr:H9 me A6 ws i=if 0<i∧K9 (ws.getD i dW).2.1 (ws.getD (i - 1) dW).2.1≤0 then 4 else if (ws.take i).any (C2 (ws.getD i dW).1)=true then 4 else 0:=by
      rw [H9,if_neg (nf c1),if_neg (nf c2),if_neg c3,if_neg (by first|exact fun h=>c5 h.2|exact fun h=>nf c4 h.1)]
    rw [hr]
    refine ⟨fun c6=>⟨by omega,fun _=>⟨by omega,fun _=>?_⟩⟩,fun c6=>⟨by omega,fun _=>⟨fun c8=>?_,fun c8=>?_⟩⟩⟩
    · rw [show Int.toNat ((i:Int) - 1)=i - 1 by omega]
      refine ⟨fun c7=>?_,fun c7=>⟨by omega,fun _=>⟨fun c8=>?_,fun c8=>?_⟩⟩⟩
      · rw [if_pos ⟨by omega,c7⟩]; rfl
      · rw [if_neg (fun h=>c7 h.2),if_pos c8]; rfl
      · rw [if_neg (fun h=>c7 h.2),if_neg (by rw [c8]; simp)]; rfl
    · rw [if_neg (fun h=>c6 (by omega)),if_pos c8]; rfl
    · rw [if_neg (fun h=>c6 (by omega)),if_neg (by rw [c8]; simp)]; rfl
def a5A:w6:={ ps:=[.v a2a],rs:=[s6],pre:=fun _=>True,fn:=fun x=>(H4 x.1,()),out:=fun _=>() }
noncomputable def a5H:Env:={ P:=Try.prog,tt:=tt,C7:=[(189,b1i),(260,b44)],res:=[Go.ResultVar.tmp 2],rs:=[Ty.int IntKind.i64],ps:=[PK.v (Ty.pair (Ty.int IntKind.i64) (Ty.pair (Ty.int IntKind.i64) (Ty.pair (Ty.d0 false (Ty.pair (Ty.int IntKind.i64) (Ty.pair t7 (Ty.pair Ty.bool Ty.unit)))) Ty.unit)))],C5:=[(6,[(1,none),(23,none),(24,none)])],nt:=45 }
theorem a4m:B0 a5H:=B9 t8 ⟨a34,b2W,trivial⟩
theorem a4i:D0 a5H Try.f186:=⟨rfl,rfl⟩
theorem b7D (x0_1:Int) (x0_2_1:Int) (x0_2_2_1:List (Int×(Int×Int×Unit)×Bool×Unit)):exec a5H 1000 [.code (d9 Try.prog 186)] (y8 a5A.ps (((x0_1,x0_2_1,x0_2_2_1,()),()))) =
  .f9 (True) (cond (!K4 x0_1 (0:Int) (5:Int)) (.ret (((1:Int),()))) (.f9 (True) (cond (!K4 x0_2_1 (0:Int) (16777215:Int)) (.ret (((1:Int),()))) (cond (decide ((40:Int)<(↑(List.length x0_2_2_1):Int))) (.ret (((2:Int),()))) (.cut (i5 (d9 Try.prog 186) 6).1 (i5 (d9 Try.prog 186) 6).2 (St.mk [(1,AV.ptr 1 []),(23,AV.val (Ty.int IntKind.i64) (↑(List.length x0_2_2_1):Int)),(24,AV.val (Ty.int IntKind.i64) (0:Int))] [(1,i6.var (Ty.pair (Ty.int IntKind.i64) (Ty.pair (Ty.int IntKind.i64) (Ty.pair (Ty.d0 false (Ty.pair (Ty.int IntKind.i64) (Ty.pair t7 (Ty.pair Ty.bool Ty.unit)))) Ty.unit))) (x0_1,x0_2_1,x0_2_2_1,()))])))))):=by kernel_rfl
def a7L (v23:Int) (v24:Int) (o1_1:Int) (o1_2_1:Int) (o1_2_2_1:List (Int×(Int×Int×Unit)×Bool×Unit)):St:=St.mk [(1,AV.ptr 1 []),(23,AV.val (Ty.int IntKind.i64) v23),(24,AV.val (Ty.int IntKind.i64) v24)] [(1,i6.var (Ty.pair (Ty.int IntKind.i64) (Ty.pair (Ty.int IntKind.i64) (Ty.pair (Ty.d0 false (Ty.pair (Ty.int IntKind.i64) (Ty.pair t7 (Ty.pair Ty.bool Ty.unit)))) Ty.unit))) (o1_1,o1_2_1,o1_2_2_1,()))]
theorem b5U (v23:Int) (v24:Int) (o1_1:Int) (o1_2_1:Int) (o1_2_2_1:List (Int×(Int×Int×Unit)×Bool×Unit)):exec a5H 1000 (.code (i5 (d9 Try.prog 186) 6).1::.inLoop (i5 (d9 Try.prog 186) 6).1::(i5 (d9 Try.prog 186) 6).2) (a7L v23 v24 o1_1 o1_2_1 o1_2_2_1) =
  cond (decide (v24<v23)) (.f9 ((0:Int)≤v24∧v24<(↑(List.length o1_2_2_1):Int)) (cond (decide (H9 o1_1 o1_2_1 o1_2_2_1 (Int.toNat v24)≠(0:Int))) (.ret ((H9 o1_1 o1_2_1 o1_2_2_1 (Int.toNat v24),()))) (.f9 (C3 IntKind.i64 (v24+(1:Int))) (.cut (i5 (d9 Try.prog 186) 6).1 (i5 (d9 Try.prog 186) 6).2 (St.mk [(1,AV.ptr 1 []),(23,AV.val (Ty.int IntKind.i64) v23),(24,AV.val (Ty.int IntKind.i64) (v24+(1:Int)))] [(1,i6.var (Ty.pair (Ty.int IntKind.i64) (Ty.pair (Ty.int IntKind.i64) (Ty.pair (Ty.d0 false (Ty.pair (Ty.int IntKind.i64) (Ty.pair t7 (Ty.pair Ty.bool Ty.unit)))) Ty.unit))) (o1_1,o1_2_1,o1_2_2_1,()))]))))) (cond (decide ((0:Int)<(↑(List.length o1_2_2_1):Int))) (.f9 ((0:Int)≤(0:Int)∧(0:Int)<(↑(List.length o1_2_2_1):Int)) (cond (Prod.fst (Prod.snd (Prod.snd (List.getD o1_2_2_1 (Int.toNat (0:Int)) ((0:Int),((0:Int),(0:Int),()),false,()))))) (.ret (((4:Int),()))) (.ret (((0:Int),()))))) (.ret (((0:Int),())))):=by kernel_rfl
theorem a2S (me A6:Int) (ws:List w7):H4 (me,A6,ws,())=if K4 me 0 5=false then 1 else if K4 A6 0 16777215=false then 1 else if 40<ws.length then 2
  else if M5 (H9 me A6 ws) (List.range' 0 ws.length)≠0 then M5 (H9 me A6 ws) (List.range' 0 ws.length) else if a5v ws=true then 4 else 0:=rfl
theorem a4r:a5A.Valid Try.prog 186:=by
  refine w6.t6 a4m rfl rfl Try.func186 (c:=d9 Try.prog 186) rfl rfl a4i rfl ?_
  rintro ⟨⟨(me:Int),(A6:Int),(ws:List w7),⟨⟩⟩,⟨⟩⟩ - -
  refine l8 (n:=1000) a4m a4i ?_
  refine j9 (b7D me A6 ws) ?_
  have nf:∀ {b:Bool},b=true→¬ b=false:=fun {b} h=>by rw [h]; simp
  simp only [s4,Tree.holds,true_and,true_implies,decide_eq_true_eq,decide_eq_false_iff_not,Bool.not_eq_true',Bool.not_eq_false',Int.toNat_natCast,x5,List.length_set,List.length_cons,List.length_nil]
  refine ⟨fun c1=>?_,fun c1=>⟨fun c2=>?_,fun c2=>⟨fun c3=>?_,fun c3=>?_⟩⟩⟩
  · show ((1,()):Int×Unit)=(H4 (me,A6,ws,()),())
    rw [a2S,if_pos c1]
  · show ((1,()):Int×Unit)=(H4 (me,A6,ws,()),())
    rw [a2S,if_neg (nf c1),if_pos c2]
  · show ((2,()):Int×Unit)=(H4 (me,A6,ws,()),())
    rw [a2S,if_neg (nf c1),if_neg (nf c2),if_pos (by omega)]
  have e0:H4 (me,A6,ws,())=if M5 (H9 me A6 ws) (List.range' 0 ws.length)≠0 then M5 (H9 me A6 ws) (List.range' 0 ws.length) else if a5v ws=true then 4 else 0:=by
    rw [a2S,if_neg (nf c1),if_neg (nf c2),if_neg (by omega)]
  refine Reach.N1 a4m a4i (fun i:Nat=>a7L (ws.length:Int) (i:Int) me A6 ws) (fun i=>i≤ws.length∧M5 (H9 me A6 ws) (List.range' 0 ws.length)=M5 (H9 me A6 ws) (List.range' i (ws.length - i))) (fun i=>ws.length - i) 1000 (fun _=>⟨x4 rfl,x4 rfl⟩) ?_ 0 ⟨Nat.zero_le _,rfl⟩
  rintro i ⟨(k1:i≤ws.length),k2⟩ - ih
  rw [k2] at e0
  refine j9 (b5U ..) ?_
  simp only [s4,Tree.holds,true_and,true_implies,decide_eq_true_eq,decide_eq_false_iff_not,Bool.not_eq_true',Bool.not_eq_false',Int.toNat_natCast,x5,List.length_set,List.length_cons,List.length_nil]
  refine ⟨fun c=>⟨⟨by omega,c⟩,fun _=>?_⟩,fun c=>?_⟩
  · have hi:i<ws.length:=by omega
    have er:M5 (H9 me A6 ws) (List.range' i (ws.length - i))=if H9 me A6 ws i≠0 then H9 me A6 ws i else M5 (H9 me A6 ws) (List.range' (i+1) (ws.length - (i+1))):=by
      rw [show ws.length - i=(ws.length - (i+1))+1 by omega]; rfl
    refine ⟨fun c4=>?_,fun c4=>⟨by omega,fun _=>ih (i+1) ⟨hi,?_⟩ (by omega)⟩⟩
    · show ((H9 me A6 ws i,()):Int×Unit)=(H4 (me,A6,ws,()),())
      rw [e0,er,if_pos c4,if_pos c4]
    · rw [k2,er,if_neg c4]
  · obtain rfl:i=ws.length:=by omega
    have er:M5 (H9 me A6 ws) (List.range' ws.length (ws.length - ws.length))=0:=by rw [Nat.sub_self]; rfl
    rw [er,if_neg (fun h=>h rfl)] at e0
    cases ws with
    | nil=>exact ⟨fun h=>absurd h (by simp),fun _=>by show ((0,()):Int×Unit)=(H4 (me,A6,[],()),()); rw [e0]; rfl⟩
    | cons w l =>
      refine ⟨fun _=>⟨⟨by omega,by simp⟩,fun _=>⟨fun h=>?_,fun h=>?_⟩⟩,fun h=>absurd (show (0:Int)<((w::l).length:Int) by simp) h⟩
      · have h:w.2.2.1=true:=h
        show ((4,()):Int×Unit)=(H4 (me,A6,w::l,()),())
        rw [e0,if_pos (show a5v (w::l)=true from h)]
      · have h:w.2.2.1=false:=h
        show ((0,()):Int×Unit)=(H4 (me,A6,w::l,()),())
        rw [e0,if_neg (by rw [show a5v (w::l)=false from h]; simp)]
def b1h:w6:={ ps:=[.v a2a,.v s6],rs:=[b7v,Num,s6],pre:=fun _=>True,fn:=fun x=>S5 x.1 x.2.1,out:=fun _=>() }
noncomputable def b18:Env:={ P:=Try.prog,tt:=tt,C7:=[(186,a5A),(187,b5q),(91,b1m)],res:=[Go.ResultVar.cell 4 161,Go.ResultVar.cell 5 169,Go.ResultVar.tmp 6],rs:=[Ty.pair (Ty.int IntKind.i64) (Ty.pair (Ty.int IntKind.i64) (Ty.pair (Ty.d0 true (Ty.pair (Ty.int IntKind.i64) (Ty.pair t7 (Ty.pair Ty.bool Ty.unit)))) Ty.unit)),Ty.pair (Ty.int IntKind.i64) (Ty.pair (Ty.int IntKind.i64) Ty.unit),Ty.int IntKind.i64],ps:=[PK.v (Ty.pair (Ty.int IntKind.i64) (Ty.pair (Ty.int IntKind.i64) (Ty.pair (Ty.d0 false (Ty.pair (Ty.int IntKind.i64) (Ty.pair t7 (Ty.pair Ty.bool Ty.unit)))) Ty.unit))),PK.v (Ty.int IntKind.i64)],C5:=[],nt:=60 }
theorem a9v:B0 b18:=B9 t8 ⟨a4r,b3i,a35,trivial⟩
theorem a9m:D0 b18 Try.f88:=⟨rfl,rfl⟩
theorem b8I (x0_1:Int) (x0_2_1:Int) (x0_2_2_1:List (Int×(Int×Int×Unit)×Bool×Unit)) (x1:Int):exec b18 1000 [.code (d9 Try.prog 88)] (y8 b1h.ps (((x0_1,x0_2_1,x0_2_2_1,()),x1,()))) =
  .f9 (True) (cond (decide (H4 (x0_1,x0_2_1,x0_2_2_1,())≠(0:Int))) (.ret ((((0:Int),(0:Int),[],()),((0:Int),(0:Int),()),H4 (x0_1,x0_2_1,x0_2_2_1,()),()))) (cond (decide (x1<(0:Int))) (.ret ((((0:Int),(0:Int),[],()),((0:Int),(0:Int),()),(1:Int),()))) (.f9 (True) (cond (List.any x0_2_2_1 (C2 x1)) (.ret ((((0:Int),(0:Int),[],()),((0:Int),(0:Int),()),(7:Int),()))) (cond (decide ((↑(List.length x0_2_2_1):Int)=(40:Int))) (.ret ((((0:Int),(0:Int),[],()),((0:Int),(0:Int),()),(8:Int),()))) (cond (decide (x0_2_1=(16777215:Int))) (.ret ((((0:Int),(0:Int),[],()),((0:Int),(0:Int),()),(8:Int),()))) (.f9 (C3 IntKind.i64 (x0_2_1+(1:Int))) (.f9 (List.length x0_2_2_1≤1048576) (.f9 (List.length x0_2_2_1+List.length (List.set [((0:Int),((0:Int),(0:Int),()),false,())] (Int.toNat (↑0:Int)) (x1,(x0_2_1+(1:Int),x0_1,()),false,()))≤140737488355328∧(List.length x0_2_2_1+List.length (List.set [((0:Int),((0:Int),(0:Int),()),false,())] (Int.toNat (↑0:Int)) (x1,(x0_2_1+(1:Int),x0_1,()),false,())))*Ty.wb (Ty.pair (Ty.int IntKind.i64) (Ty.pair t7 (Ty.pair Ty.bool Ty.unit)))≤140737488355328) (.ret (((x0_1,x0_2_1+(1:Int),x0_2_2_1++List.set [((0:Int),((0:Int),(0:Int),()),false,())] (Int.toNat (↑0:Int)) (x1,(x0_2_1+(1:Int),x0_1,()),false,()),()),(x0_2_1+(1:Int),x0_1,()),(0:Int),())))))))))))):=by kernel_rfl
theorem a0L (me A6:Int) (ws:List w7) (id:Int):S5 (me,A6,ws,()) id=if H4 (me,A6,ws,())≠0 then (Q8,noN,H4 (me,A6,ws,()),()) else if id<0 then (Q8,noN,1,()) else if ws.any (C2 id)=true then (Q8,noN,7,()) else if ws.length=40 then (Q8,noN,8,())
  else if A6=16777215 then (Q8,noN,8,()) else ((me,A6+1,ws++[(id,(A6+1,me,()),false,())],()),(A6+1,me,()),0,()):=rfl
theorem b9D:Ty.wb ((Ty.int IntKind.i64).pair (t7.pair (Ty.bool.pair Ty.unit)))=32:=rfl
theorem b1g:b1h.Valid Try.prog 88:=by
  refine w6.t6 a9v rfl rfl Try.func88 (c:=d9 Try.prog 88) rfl rfl a9m rfl ?_
  rintro ⟨⟨(me:Int),(A6:Int),(ws:List w7),⟨⟩⟩,(id:Int),⟨⟩⟩ - -
  refine l8 (n:=1000) a9v a9m ?_
  refine j9 (b8I me A6 ws id) ?_
  have nt:∀ {b:Bool},b=false→¬ b=true:=fun {b} h=>by rw [h]; simp
  simp only [s4,Tree.holds,true_and,true_implies,decide_eq_true_eq,decide_eq_false_iff_not,Bool.not_eq_true',Bool.not_eq_false',Int.toNat_natCast,x5,List.length_set,List.length_cons,List.length_nil]
  refine ⟨fun c0=>?_,fun c0=>⟨fun c1=>?_,fun c1=>⟨fun c2=>?_,fun c2=>⟨fun c3=>?_,fun c3=>⟨fun c4=>?_,fun c4=>?_⟩⟩⟩⟩⟩
  · show ((Q8,noN,H4 (me,A6,ws,()),()):X4×M3×Int×Unit)=S5 (me,A6,ws,()) id
    rw [a0L,if_pos c0]
  · show ((Q8,noN,1,()):X4×M3×Int×Unit)=S5 (me,A6,ws,()) id
    rw [a0L,if_neg c0,if_pos c1]
  · show ((Q8,noN,7,()):X4×M3×Int×Unit)=S5 (me,A6,ws,()) id
    rw [a0L,if_neg c0,if_neg c1,if_pos c2]
  · show ((Q8,noN,8,()):X4×M3×Int×Unit)=S5 (me,A6,ws,()) id
    rw [a0L,if_neg c0,if_neg c1,if_neg (nt c2),if_pos (by omega)]
  · show ((Q8,noN,8,()):X4×M3×Int×Unit)=S5 (me,A6,ws,()) id
    rw [a0L,if_neg c0,if_neg c1,if_neg (nt c2),if_neg (by omega),if_pos c4]
  · have hok:=a88.1 (Decidable.not_not.1 c0)
    have k1:0≤A6∧A6≤16777215:=hok.A6
    have k2:ws.length≤40:=hok.len
    rw [b9D]
    refine ⟨by omega,fun _=>⟨by omega,fun _=>⟨by omega,fun _=>?_⟩⟩⟩
    show (((me,A6+1,ws++[(id,(A6+1,me,()),false,())],()),(A6+1,me,()),0,()):X4×M3×Int×Unit)=S5 (me,A6,ws,()) id
    rw [a0L,if_neg c0,if_neg c1,if_neg (nt c2),if_neg (by omega),if_neg c4]
def b8r:w6:={ ps:=[.v a2a,.v s6,.v Num],rs:=[b7v,.d0 true s6,s6],pre:=fun _=>True,fn:=fun x=>fixF x.1 x.2.1 x.2.2.1,out:=fun _=>() }
noncomputable def b2n:Env:={ P:=Try.prog,tt:=tt,C7:=[(186,a5A),(190,b5g),(187,b5p),(91,b1m),(194,b7e),(189,b1i),(192,a7r)],res:=[Go.ResultVar.cell 6 161,Go.ResultVar.tmp 7,Go.ResultVar.tmp 8],rs:=[Ty.pair (Ty.int IntKind.i64) (Ty.pair (Ty.int IntKind.i64) (Ty.pair (Ty.d0 true (Ty.pair (Ty.int IntKind.i64) (Ty.pair t7 (Ty.pair Ty.bool Ty.unit)))) Ty.unit)),Ty.d0 true (Ty.int IntKind.i64),Ty.int IntKind.i64],ps:=[PK.v (Ty.pair (Ty.int IntKind.i64) (Ty.pair (Ty.int IntKind.i64) (Ty.pair (Ty.d0 false (Ty.pair (Ty.int IntKind.i64) (Ty.pair t7 (Ty.pair Ty.bool Ty.unit)))) Ty.unit))),PK.v (Ty.int IntKind.i64),PK.v t7],C5:=[(15,[(6,none),(11,none),(12,some Is)])],nt:=107 }
theorem a8B:B0 b2n:=B9 t8 ⟨a4r,b28,b3h,a35,b1f,a34,a24,trivial⟩
theorem a8w:D0 b2n Try.f89:=⟨rfl,rfl⟩
theorem c1t (x0_1:Int) (x0_2_1:Int) (x0_2_2_1:List (Int×(Int×Int×Unit)×Bool×Unit)) (x1:Int) (x2_1:Int) (x2_2_1:Int):exec b2n 1000 [.code (d9 Try.prog 89)] (y8 b8r.ps (((x0_1,x0_2_1,x0_2_2_1,()),x1,(x2_1,x2_2_1,()),()))) =
  .f9 (True) (cond (decide (H4 (x0_1,x0_2_1,x0_2_2_1,())≠(0:Int))) (.ret ((((0:Int),(0:Int),[],()),[],H4 (x0_1,x0_2_1,x0_2_2_1,()),()))) (.f9 (True) (cond (!K4 x2_1 (1:Int) (16777215:Int)) (.ret ((((0:Int),(0:Int),[],()),[],(1:Int),()))) (.f9 (True) (cond (!K4 x2_2_1 (0:Int) (5:Int)) (.ret ((((0:Int),(0:Int),[],()),[],(1:Int),()))) (.f9 (True) (cond (decide (idxOf (l5 x1) x0_2_2_1<(0:Int))) (.ret ((((0:Int),(0:Int),[],()),[],(6:Int),()))) (.f9 ((0:Int)≤idxOf (l5 x1) x0_2_2_1∧idxOf (l5 x1) x0_2_2_1<(↑(List.length x0_2_2_1):Int)) (.f9 (True) (cond (decide (K9 (x2_1,x2_2_1,()) (Prod.fst (Prod.snd (List.getD x0_2_2_1 (Int.toNat (idxOf (l5 x1) x0_2_2_1)) ((0:Int),((0:Int),(0:Int),()),false,()))))<(0:Int))) (.ret ((((0:Int),(0:Int),[],()),[],(10:Int),()))) (.f9 (True) (cond (List.any x0_2_2_1 (taken x1 (x2_1,x2_2_1,()))) (.ret ((((0:Int),(0:Int),[],()),[],(10:Int),()))) (.f9 (List.length x0_2_2_1≤1048576) (.f9 ((0:Int)≤idxOf (l5 x1) x0_2_2_1∧idxOf (l5 x1) x0_2_2_1<(↑(List.length x0_2_2_1):Int)) (.f9 ((0:Int)≤idxOf (l5 x1) x0_2_2_1∧idxOf (l5 x1) x0_2_2_1<(↑(List.length (List.set x0_2_2_1 (Int.toNat (idxOf (l5 x1) x0_2_2_1)) (Prod.fst (List.getD x0_2_2_1 (Int.toNat (idxOf (l5 x1) x0_2_2_1)) ((0:Int),((0:Int),(0:Int),()),false,())),(x2_1,x2_2_1,()),Prod.snd (Prod.snd (List.getD x0_2_2_1 (Int.toNat (idxOf (l5 x1) x0_2_2_1)) ((0:Int),((0:Int),(0:Int),()),false,())))))):Int)) (.f9 (True∧List.length (List.set (List.set x0_2_2_1 (Int.toNat (idxOf (l5 x1) x0_2_2_1)) (Prod.fst (List.getD x0_2_2_1 (Int.toNat (idxOf (l5 x1) x0_2_2_1)) ((0:Int),((0:Int),(0:Int),()),false,())),(x2_1,x2_2_1,()),Prod.snd (Prod.snd (List.getD x0_2_2_1 (Int.toNat (idxOf (l5 x1) x0_2_2_1)) ((0:Int),((0:Int),(0:Int),()),false,()))))) (Int.toNat (idxOf (l5 x1) x0_2_2_1)) (Prod.fst (List.getD (List.set x0_2_2_1 (Int.toNat (idxOf (l5 x1) x0_2_2_1)) (Prod.fst (List.getD x0_2_2_1 (Int.toNat (idxOf (l5 x1) x0_2_2_1)) ((0:Int),((0:Int),(0:Int),()),false,())),(x2_1,x2_2_1,()),Prod.snd (Prod.snd (List.getD x0_2_2_1 (Int.toNat (idxOf (l5 x1) x0_2_2_1)) ((0:Int),((0:Int),(0:Int),()),false,()))))) (Int.toNat (idxOf (l5 x1) x0_2_2_1)) ((0:Int),((0:Int),(0:Int),()),false,())),Prod.fst (Prod.snd (List.getD (List.set x0_2_2_1 (Int.toNat (idxOf (l5 x1) x0_2_2_1)) (Prod.fst (List.getD x0_2_2_1 (Int.toNat (idxOf (l5 x1) x0_2_2_1)) ((0:Int),((0:Int),(0:Int),()),false,())),(x2_1,x2_2_1,()),Prod.snd (Prod.snd (List.getD x0_2_2_1 (Int.toNat (idxOf (l5 x1) x0_2_2_1)) ((0:Int),((0:Int),(0:Int),()),false,()))))) (Int.toNat (idxOf (l5 x1) x0_2_2_1)) ((0:Int),((0:Int),(0:Int),()),false,()))),true,Prod.snd (Prod.snd (Prod.snd (List.getD (List.set x0_2_2_1 (Int.toNat (idxOf (l5 x1) x0_2_2_1)) (Prod.fst (List.getD x0_2_2_1 (Int.toNat (idxOf (l5 x1) x0_2_2_1)) ((0:Int),((0:Int),(0:Int),()),false,())),(x2_1,x2_2_1,()),Prod.snd (Prod.snd (List.getD x0_2_2_1 (Int.toNat (idxOf (l5 x1) x0_2_2_1)) ((0:Int),((0:Int),(0:Int),()),false,()))))) (Int.toNat (idxOf (l5 x1) x0_2_2_1)) ((0:Int),((0:Int),(0:Int),()),false,()))))))≤1048576∧(∀ (a:Ty.den I4),a∈List.set (List.set x0_2_2_1 (Int.toNat (idxOf (l5 x1) x0_2_2_1)) (Prod.fst (List.getD x0_2_2_1 (Int.toNat (idxOf (l5 x1) x0_2_2_1)) ((0:Int),((0:Int),(0:Int),()),false,())),(x2_1,x2_2_1,()),Prod.snd (Prod.snd (List.getD x0_2_2_1 (Int.toNat (idxOf (l5 x1) x0_2_2_1)) ((0:Int),((0:Int),(0:Int),()),false,()))))) (Int.toNat (idxOf (l5 x1) x0_2_2_1)) (Prod.fst (List.getD (List.set x0_2_2_1 (Int.toNat (idxOf (l5 x1) x0_2_2_1)) (Prod.fst (List.getD x0_2_2_1 (Int.toNat (idxOf (l5 x1) x0_2_2_1)) ((0:Int),((0:Int),(0:Int),()),false,())),(x2_1,x2_2_1,()),Prod.snd (Prod.snd (List.getD x0_2_2_1 (Int.toNat (idxOf (l5 x1) x0_2_2_1)) ((0:Int),((0:Int),(0:Int),()),false,()))))) (Int.toNat (idxOf (l5 x1) x0_2_2_1)) ((0:Int),((0:Int),(0:Int),()),false,())),Prod.fst (Prod.snd (List.getD (List.set x0_2_2_1 (Int.toNat (idxOf (l5 x1) x0_2_2_1)) (Prod.fst (List.getD x0_2_2_1 (Int.toNat (idxOf (l5 x1) x0_2_2_1)) ((0:Int),((0:Int),(0:Int),()),false,())),(x2_1,x2_2_1,()),Prod.snd (Prod.snd (List.getD x0_2_2_1 (Int.toNat (idxOf (l5 x1) x0_2_2_1)) ((0:Int),((0:Int),(0:Int),()),false,()))))) (Int.toNat (idxOf (l5 x1) x0_2_2_1)) ((0:Int),((0:Int),(0:Int),()),false,()))),true,Prod.snd (Prod.snd (Prod.snd (List.getD (List.set x0_2_2_1 (Int.toNat (idxOf (l5 x1) x0_2_2_1)) (Prod.fst (List.getD x0_2_2_1 (Int.toNat (idxOf (l5 x1) x0_2_2_1)) ((0:Int),((0:Int),(0:Int),()),false,())),(x2_1,x2_2_1,()),Prod.snd (Prod.snd (List.getD x0_2_2_1 (Int.toNat (idxOf (l5 x1) x0_2_2_1)) ((0:Int),((0:Int),(0:Int),()),false,()))))) (Int.toNat (idxOf (l5 x1) x0_2_2_1)) ((0:Int),((0:Int),(0:Int),()),false,())))))→True)∧∀ (a:Ty.den I4),a∈List.set (List.set x0_2_2_1 (Int.toNat (idxOf (l5 x1) x0_2_2_1)) (Prod.fst (List.getD x0_2_2_1 (Int.toNat (idxOf (l5 x1) x0_2_2_1)) ((0:Int),((0:Int),(0:Int),()),false,())),(x2_1,x2_2_1,()),Prod.snd (Prod.snd (List.getD x0_2_2_1 (Int.toNat (idxOf (l5 x1) x0_2_2_1)) ((0:Int),((0:Int),(0:Int),()),false,()))))) (Int.toNat (idxOf (l5 x1) x0_2_2_1)) (Prod.fst (List.getD (List.set x0_2_2_1 (Int.toNat (idxOf (l5 x1) x0_2_2_1)) (Prod.fst (List.getD x0_2_2_1 (Int.toNat (idxOf (l5 x1) x0_2_2_1)) ((0:Int),((0:Int),(0:Int),()),false,())),(x2_1,x2_2_1,()),Prod.snd (Prod.snd (List.getD x0_2_2_1 (Int.toNat (idxOf (l5 x1) x0_2_2_1)) ((0:Int),((0:Int),(0:Int),()),false,()))))) (Int.toNat (idxOf (l5 x1) x0_2_2_1)) ((0:Int),((0:Int),(0:Int),()),false,())),Prod.fst (Prod.snd (List.getD (List.set x0_2_2_1 (Int.toNat (idxOf (l5 x1) x0_2_2_1)) (Prod.fst (List.getD x0_2_2_1 (Int.toNat (idxOf (l5 x1) x0_2_2_1)) ((0:Int),((0:Int),(0:Int),()),false,())),(x2_1,x2_2_1,()),Prod.snd (Prod.snd (List.getD x0_2_2_1 (Int.toNat (idxOf (l5 x1) x0_2_2_1)) ((0:Int),((0:Int),(0:Int),()),false,()))))) (Int.toNat (idxOf (l5 x1) x0_2_2_1)) ((0:Int),((0:Int),(0:Int),()),false,()))),true,Prod.snd (Prod.snd (Prod.snd (List.getD (List.set x0_2_2_1 (Int.toNat (idxOf (l5 x1) x0_2_2_1)) (Prod.fst (List.getD x0_2_2_1 (Int.toNat (idxOf (l5 x1) x0_2_2_1)) ((0:Int),((0:Int),(0:Int),()),false,())),(x2_1,x2_2_1,()),Prod.snd (Prod.snd (List.getD x0_2_2_1 (Int.toNat (idxOf (l5 x1) x0_2_2_1)) ((0:Int),((0:Int),(0:Int),()),false,()))))) (Int.toNat (idxOf (l5 x1) x0_2_2_1)) ((0:Int),((0:Int),(0:Int),()),false,())))))→∀ (b:Ty.den I4),b∈List.set (List.set x0_2_2_1 (Int.toNat (idxOf (l5 x1) x0_2_2_1)) (Prod.fst (List.getD x0_2_2_1 (Int.toNat (idxOf (l5 x1) x0_2_2_1)) ((0:Int),((0:Int),(0:Int),()),false,())),(x2_1,x2_2_1,()),Prod.snd (Prod.snd (List.getD x0_2_2_1 (Int.toNat (idxOf (l5 x1) x0_2_2_1)) ((0:Int),((0:Int),(0:Int),()),false,()))))) (Int.toNat (idxOf (l5 x1) x0_2_2_1)) (Prod.fst (List.getD (List.set x0_2_2_1 (Int.toNat (idxOf (l5 x1) x0_2_2_1)) (Prod.fst (List.getD x0_2_2_1 (Int.toNat (idxOf (l5 x1) x0_2_2_1)) ((0:Int),((0:Int),(0:Int),()),false,())),(x2_1,x2_2_1,()),Prod.snd (Prod.snd (List.getD x0_2_2_1 (Int.toNat (idxOf (l5 x1) x0_2_2_1)) ((0:Int),((0:Int),(0:Int),()),false,()))))) (Int.toNat (idxOf (l5 x1) x0_2_2_1)) ((0:Int),((0:Int),(0:Int),()),false,())),Prod.fst (Prod.snd (List.getD (List.set x0_2_2_1 (Int.toNat (idxOf (l5 x1) x0_2_2_1)) (Prod.fst (List.getD x0_2_2_1 (Int.toNat (idxOf (l5 x1) x0_2_2_1)) ((0:Int),((0:Int),(0:Int),()),false,())),(x2_1,x2_2_1,()),Prod.snd (Prod.snd (List.getD x0_2_2_1 (Int.toNat (idxOf (l5 x1) x0_2_2_1)) ((0:Int),((0:Int),(0:Int),()),false,()))))) (Int.toNat (idxOf (l5 x1) x0_2_2_1)) ((0:Int),((0:Int),(0:Int),()),false,()))),true,Prod.snd (Prod.snd (Prod.snd (List.getD (List.set x0_2_2_1 (Int.toNat (idxOf (l5 x1) x0_2_2_1)) (Prod.fst (List.getD x0_2_2_1 (Int.toNat (idxOf (l5 x1) x0_2_2_1)) ((0:Int),((0:Int),(0:Int),()),false,())),(x2_1,x2_2_1,()),Prod.snd (Prod.snd (List.getD x0_2_2_1 (Int.toNat (idxOf (l5 x1) x0_2_2_1)) ((0:Int),((0:Int),(0:Int),()),false,()))))) (Int.toNat (idxOf (l5 x1) x0_2_2_1)) ((0:Int),((0:Int),(0:Int),()),false,())))))→S6 a0z a b=false→S6 a0z b a=false→a=b) (.cut (i5 (d9 Try.prog 89) 15).1 (i5 (d9 Try.prog 89) 15).2 (St.mk [(6,AV.ptr 6 []),(11,AV.ptr 11 []),(12,AV.at_ 1000012 [])] [(6,i6.var (Ty.pair (Ty.int IntKind.i64) (Ty.pair (Ty.int IntKind.i64) (Ty.pair (Ty.d0 true (Ty.pair (Ty.int IntKind.i64) (Ty.pair t7 (Ty.pair Ty.bool Ty.unit)))) Ty.unit))) ((0:Int),(0:Int),[],())),(11,i6.var (Ty.pair (Ty.int IntKind.i64) (Ty.pair (Ty.int IntKind.i64) (Ty.pair (Ty.d0 true (Ty.pair (Ty.int IntKind.i64) (Ty.pair t7 (Ty.pair Ty.bool Ty.unit)))) Ty.unit))) (x0_1,if x0_2_1<x2_1 then x2_1 else x0_2_1,T6 (S6 a0z) (List.set (List.set x0_2_2_1 (Int.toNat (idxOf (l5 x1) x0_2_2_1)) (Prod.fst (List.getD x0_2_2_1 (Int.toNat (idxOf (l5 x1) x0_2_2_1)) ((0:Int),((0:Int),(0:Int),()),false,())),(x2_1,x2_2_1,()),Prod.snd (Prod.snd (List.getD x0_2_2_1 (Int.toNat (idxOf (l5 x1) x0_2_2_1)) ((0:Int),((0:Int),(0:Int),()),false,()))))) (Int.toNat (idxOf (l5 x1) x0_2_2_1)) (Prod.fst (List.getD (List.set x0_2_2_1 (Int.toNat (idxOf (l5 x1) x0_2_2_1)) (Prod.fst (List.getD x0_2_2_1 (Int.toNat (idxOf (l5 x1) x0_2_2_1)) ((0:Int),((0:Int),(0:Int),()),false,())),(x2_1,x2_2_1,()),Prod.snd (Prod.snd (List.getD x0_2_2_1 (Int.toNat (idxOf (l5 x1) x0_2_2_1)) ((0:Int),((0:Int),(0:Int),()),false,()))))) (Int.toNat (idxOf (l5 x1) x0_2_2_1)) ((0:Int),((0:Int),(0:Int),()),false,())),Prod.fst (Prod.snd (List.getD (List.set x0_2_2_1 (Int.toNat (idxOf (l5 x1) x0_2_2_1)) (Prod.fst (List.getD x0_2_2_1 (Int.toNat (idxOf (l5 x1) x0_2_2_1)) ((0:Int),((0:Int),(0:Int),()),false,())),(x2_1,x2_2_1,()),Prod.snd (Prod.snd (List.getD x0_2_2_1 (Int.toNat (idxOf (l5 x1) x0_2_2_1)) ((0:Int),((0:Int),(0:Int),()),false,()))))) (Int.toNat (idxOf (l5 x1) x0_2_2_1)) ((0:Int),((0:Int),(0:Int),()),false,()))),true,Prod.snd (Prod.snd (Prod.snd (List.getD (List.set x0_2_2_1 (Int.toNat (idxOf (l5 x1) x0_2_2_1)) (Prod.fst (List.getD x0_2_2_1 (Int.toNat (idxOf (l5 x1) x0_2_2_1)) ((0:Int),((0:Int),(0:Int),()),false,())),(x2_1,x2_2_1,()),Prod.snd (Prod.snd (List.getD x0_2_2_1 (Int.toNat (idxOf (l5 x1) x0_2_2_1)) ((0:Int),((0:Int),(0:Int),()),false,()))))) (Int.toNat (idxOf (l5 x1) x0_2_2_1)) ((0:Int),((0:Int),(0:Int),()),false,())))))),())),(1000012,i6.own Is [])])))))))))))))))))):=by kernel_rfl
def a6L (o6_1:Int) (o6_2_1:Int) (o6_2_2_1:List (Int×(Int×Int×Unit)×Bool×Unit)) (o11_1:Int) (o11_2_1:Int) (o11_2_2_1:List (Int×(Int×Int×Unit)×Bool×Unit)) (o1000012:List Int):St:=St.mk [(6,AV.ptr 6 []),(11,AV.ptr 11 []),(12,AV.at_ 1000012 [])] [(6,i6.var (Ty.pair (Ty.int IntKind.i64) (Ty.pair (Ty.int IntKind.i64) (Ty.pair (Ty.d0 true (Ty.pair (Ty.int IntKind.i64) (Ty.pair t7 (Ty.pair Ty.bool Ty.unit)))) Ty.unit))) (o6_1,o6_2_1,o6_2_2_1,())),(11,i6.var (Ty.pair (Ty.int IntKind.i64) (Ty.pair (Ty.int IntKind.i64) (Ty.pair (Ty.d0 true (Ty.pair (Ty.int IntKind.i64) (Ty.pair t7 (Ty.pair Ty.bool Ty.unit)))) Ty.unit))) (o11_1,o11_2_1,o11_2_2_1,())),(1000012,i6.own Is o1000012)]
theorem b8T (o6_1:Int) (o6_2_1:Int) (o6_2_2_1:List (Int×(Int×Int×Unit)×Bool×Unit)) (o11_1:Int) (o11_2_1:Int) (o11_2_2_1:List (Int×(Int×Int×Unit)×Bool×Unit)) (o1000012:List Int):exec b2n 1000 (.code (i5 (d9 Try.prog 89) 15).1::.inLoop (i5 (d9 Try.prog 89) 15).1::(i5 (d9 Try.prog 89) 15).2) (a6L o6_1 o6_2_1 o6_2_2_1 o11_1 o11_2_1 o11_2_2_1 o1000012) =
  cond (decide ((0:Int)<(↑(List.length o11_2_2_1):Int))) (.f9 ((0:Int)≤(0:Int)∧(0:Int)<(↑(List.length o11_2_2_1):Int)) (cond (Prod.fst (Prod.snd (Prod.snd (List.getD o11_2_2_1 (Int.toNat (0:Int)) ((0:Int),((0:Int),(0:Int),()),false,()))))) (.f9 ((0:Int)≤(0:Int)∧(0:Int)<(↑(List.length o11_2_2_1):Int)) (.f9 (List.length o1000012+List.length (List.set [(0:Int)] (Int.toNat (↑0:Int)) (Prod.fst (List.getD o11_2_2_1 (Int.toNat (0:Int)) ((0:Int),((0:Int),(0:Int),()),false,()))))≤140737488355328∧(List.length o1000012+List.length (List.set [(0:Int)] (Int.toNat (↑0:Int)) (Prod.fst (List.getD o11_2_2_1 (Int.toNat (0:Int)) ((0:Int),((0:Int),(0:Int),()),false,())))))*Ty.wb (Ty.int IntKind.i64)≤140737488355328) (.f9 ((0:Int)≤(1:Int)∧(1:Int)≤(↑(List.length o11_2_2_1):Int)∧(↑(List.length o11_2_2_1):Int)≤(↑(List.length o11_2_2_1):Int)) (.f9 ([]++[Step.j6 2]=[]++[Step.j6 2]∧True) (.cut (i5 (d9 Try.prog 89) 15).1 (i5 (d9 Try.prog 89) 15).2 (St.mk [(6,AV.ptr 6 []),(11,AV.ptr 11 []),(12,AV.at_ 1000012 [])] [(6,i6.var (Ty.pair (Ty.int IntKind.i64) (Ty.pair (Ty.int IntKind.i64) (Ty.pair (Ty.d0 true (Ty.pair (Ty.int IntKind.i64) (Ty.pair t7 (Ty.pair Ty.bool Ty.unit)))) Ty.unit))) (o6_1,o6_2_1,o6_2_2_1,())),(11,i6.var (Ty.pair (Ty.int IntKind.i64) (Ty.pair (Ty.int IntKind.i64) (Ty.pair (Ty.d0 true (Ty.pair (Ty.int IntKind.i64) (Ty.pair t7 (Ty.pair Ty.bool Ty.unit)))) Ty.unit))) (o11_1,o11_2_1,B3 (1:Int) (↑(List.length o11_2_2_1):Int) o11_2_2_1,())),(1000012,i6.own Is (o1000012++List.set [(0:Int)] (Int.toNat (↑0:Int)) (Prod.fst (List.getD o11_2_2_1 (Int.toNat (0:Int)) ((0:Int),((0:Int),(0:Int),()),false,())))))])))))) (.f9 (List.length o11_2_2_1≤1048576) (.ret (((o11_1,o11_2_1,o11_2_2_1,()),o1000012,(0:Int),())))))) (.f9 (List.length o11_2_2_1≤1048576) (.ret (((o11_1,o11_2_1,o11_2_2_1,()),o1000012,(0:Int),())))):=by kernel_rfl
theorem a1s (me A6:Int) (ws:List w7) (id:Int) (n:M3):fixF (me,A6,ws,()) id n=if H4 (me,A6,ws,())≠0 then (Q8,[],H4 (me,A6,ws,()),()) else if K4 n.1 1 16777215=false then (Q8,[],1,()) else if K4 n.2.1 0 5=false then (Q8,[],1,())
  else if idxOf (l5 id) ws<0 then (Q8,[],6,()) else if K9 n (ws.getD (idxOf (l5 id) ws).toNat dW).2.1<0 then (Q8,[],10,()) else if ws.any (taken id n)=true then (Q8,[],10,())
  else ((me,if A6<n.1 then n.1 else A6,(a0m ws id n).dropWhile N3,()),((a0m ws id n).takeWhile N3).map (·.1),0,()):=rfl
theorem b8m {α:Type} (w:α) (l:List α):B3 1 ((w::l).length:Int) (w::l)=l:=by simp [B3]
theorem b5i:b8r.Valid Try.prog 89:=by
  refine w6.t6 a8B rfl rfl Try.func89 (c:=d9 Try.prog 89) rfl rfl a8w rfl ?_
  rintro ⟨⟨(me:Int),(A6:Int),(ws:List w7),⟨⟩⟩,(id:Int),⟨(a:Int),(b:Int),⟨⟩⟩,⟨⟩⟩ - -
  refine l8 (n:=1000) a8B a8w ?_
  refine j9 (c1t me A6 ws id a b) ?_
  have nf:∀ {b:Bool},b=true→¬ b=false:=fun {b} h=>by rw [h]; simp
  have nt:∀ {b:Bool},b=false→¬ b=true:=fun {b} h=>by rw [h]; simp
  simp only [s4,Tree.holds,true_and,true_implies,decide_eq_true_eq,decide_eq_false_iff_not,Bool.not_eq_true',Bool.not_eq_false',Int.toNat_natCast,x5,List.length_set,List.length_cons,List.length_nil]
  refine ⟨fun c0=>?_,fun c0=>⟨fun c1=>?_,fun c1=>⟨fun c2=>?_,fun c2=>⟨fun c3=>?_,fun c3=>?_⟩⟩⟩⟩
  · show ((Q8,[],H4 (me,A6,ws,()),()):X4×List Int×Int×Unit)=fixF (me,A6,ws,()) id (a,b,())
    rw [a1s,if_pos c0]
  · show ((Q8,[],1,()):X4×List Int×Int×Unit)=fixF (me,A6,ws,()) id (a,b,())
    rw [a1s,if_neg c0,if_pos c1]
  · show ((Q8,[],1,()):X4×List Int×Int×Unit)=fixF (me,A6,ws,()) id (a,b,())
    rw [a1s,if_neg c0,if_neg (nf c1),if_pos c2]
  · show ((Q8,[],6,()):X4×List Int×Int×Unit)=fixF (me,A6,ws,()) id (a,b,())
    rw [a1s,if_neg c0,if_neg (nf c1),if_neg (nf c2),if_pos c3]
  have hok:=a88.1 (Decidable.not_not.1 c0)
  have k2:ws.length≤40:=hok.len
  have hk1:=(b9f c3).1
  refine ⟨⟨by omega,by omega⟩,fun hk=>⟨fun c4=>?_,fun c4=>⟨fun c5=>?_,fun c5=>⟨by omega,fun _=>⟨hk,fun _=>⟨hk,fun _=>?_⟩⟩⟩⟩⟩⟩
  · show ((Q8,[],10,()):X4×List Int×Int×Unit)=fixF (me,A6,ws,()) id (a,b,())
    rw [a1s,if_neg c0,if_neg (nf c1),if_neg (nf c2),if_neg c3,if_pos c4]
  · show ((Q8,[],10,()):X4×List Int×Int×Unit)=fixF (me,A6,ws,()) id (a,b,())
    rw [a1s,if_neg c0,if_neg (nf c1),if_neg (nf c2),if_neg c3,if_neg c4,if_pos c5]
  rw [c1R hk1]
  refine ⟨⟨by omega,fun _ _=>trivial,b97 hok c3 c5⟩,fun _=>?_⟩
  have hfin:fixF (me,A6,ws,()) id (a,b,())=((me,if A6<a then a else A6,(a0m ws id (a,b,())).dropWhile N3,()),((a0m ws id (a,b,())).takeWhile N3).map (·.1),0,()):=by
    rw [a1s,if_neg c0,if_neg (nf c1),if_neg (nf c2),if_neg c3,if_neg c4,if_neg (nt c5)]
  have hlen:(a0m ws id (a,b,())).length≤40:=by
    rw [a0m,(a0o _ _).length_eq,List.length_set]; exact k2
  show Go.Ex.Reach b2n Try.f89 (fixF (me,A6,ws,()) id (a,b,())) () (.code (i5 (d9 Try.prog 89) 15).1::.inLoop (i5 (d9 Try.prog 89) 15).1::(i5 (d9 Try.prog 89) 15).2) ((a6L 0 0 [] me (if A6<a then a else A6) (a0m ws id (a,b,())) []))
  generalize (if A6<a then a else A6)=clk' at *
  generalize a0m ws id (a,b,())=L at *
  refine Reach.N1 a8B a8w (fun x:List w7×List Int=>a6L 0 0 [] me clk' x.1 x.2) (fun x=>x.1.dropWhile N3=L.dropWhile N3∧x.2++(x.1.takeWhile N3).map (·.1)=(L.takeWhile N3).map (·.1)∧x.1.length+x.2.length≤40) (fun x=>x.1.length) 1000 (fun _=>⟨x4 rfl,x4 rfl⟩) ?_ (L,[]) ⟨rfl,rfl,by simpa using hlen⟩
  rintro ⟨l,ids⟩ ⟨(j1:l.dropWhile N3=_),(j2:ids++(l.takeWhile N3).map (·.1)=_),(j3:l.length+ids.length≤40)⟩ - ih
  refine j9 (b8T ..) ?_
  simp only [s4,Tree.holds,true_and,true_implies,decide_eq_true_eq,decide_eq_false_iff_not,Bool.not_eq_true',Bool.not_eq_false',Int.toNat_natCast,x5,List.length_set,List.length_cons,List.length_nil]
  rw [b0f]
  cases l with
  | nil =>
    refine ⟨fun h=>absurd h (by simp),fun _=>⟨by simp,fun _=>?_⟩⟩
    show (((me,clk',[],()),ids,0,()):X4×List Int×Int×Unit)=fixF (me,A6,ws,()) id (a,b,())
    rw [hfin,← j1,← j2]
    simp
  | cons w l =>
    have j3:l.length+1+ids.length≤40:=j3
    refine ⟨fun _=>⟨⟨by omega,by simp⟩,fun _=>⟨fun hf=>?_,fun hf=>?_⟩⟩,fun h=>absurd (show (0:Int)<((w::l).length:Int) by simp) h⟩
    · have hf:N3 w=true:=hf
      refine ⟨⟨by omega,by simp⟩,fun _=>⟨by omega,fun _=>⟨⟨by omega,by simp; omega,by omega⟩,fun _=>?_⟩⟩⟩
      rw [b8m]
      refine ih (l,ids++[w.1]) ⟨?_,?_,?_⟩ ?_
      · rw [← j1,List.dropWhile_cons,if_pos hf]
      · rw [← j2,List.takeWhile_cons,if_pos hf]; simp
      · show l.length+(ids++[w.1]).length≤40
        rw [List.length_append,List.length_singleton]; omega
      · show l.length<(w::l).length
        simp
    · have hf:N3 w=false:=hf
      refine ⟨by show l.length+1≤1048576; omega,fun _=>?_⟩
      show (((me,clk',w::l,()),ids,0,()):X4×List Int×Int×Unit)=fixF (me,A6,ws,()) id (a,b,())
      rw [hfin,← j1,← j2,List.dropWhile_cons,if_neg (nt hf),List.takeWhile_cons,if_neg (nt hf)]
      simp
end Go.Proofs.Ytekbamiaenbhjaa
