/- The contracts of causal.Check, clone, Hear. No condition but those named. -/
import Derived.Test.YtekbamiaenbhjaaCausal
namespace Go.Proofs.Ytekbamiaenbhjaa
open Go.Ex
set_option maxRecDepth 100000
abbrev InR (m:n7):Prop:=0≤m.1∧m.1≤5
def a3o (l:List n7) (m:n7):Prop:=(∀ x∈l,InR x)∧InR m
def b5P:t5:={ ps:=[.v (.d0 false E7),.r9 238 [E7]],rs:=[I8],pre:=fun x=>a3o x.1 x.2.1.1,fn:=fun x=>(idxOf (fun y=>B0 y x.2.1.1) x.1,()),out:=fun _=>() }
noncomputable def b0X:Env:={ P:=Try.prog,tt:=tt,C9:=[(238,cC2)],res:=[Go.ResultVar.tmp 4],rs:=[Ty.int IntKind.i64],ps:=[PK.v (Ty.d0 false (Ty.pair (Ty.int IntKind.i64) (Ty.pair o7 (Ty.pair Ty.str Ty.unit)))),PK.r9 238 [Ty.pair (Ty.int IntKind.i64) (Ty.pair o7 (Ty.pair Ty.str Ty.unit))]],C7:=[(2,[(0,none),(1,none),(7,none),(8,none)])],nt:=19 }
theorem a7e:x8 b0X:=C2 q9 ⟨b7H,trivial⟩
theorem a7b:D3 b0X Try.f168:=⟨rfl,rfl⟩
theorem c0T (x0:List (Int×List Int×List UInt8×Unit)) (x1c0_1:Int) (x1c0_2_1:List Int) (x1c0_2_2_1:List UInt8):exec b0X 1000 [.code (d9 Try.prog 168)] (w7 b5P.ps ((x0,((x1c0_1,x1c0_2_1,x1c0_2_2_1,()),()),()))) =
  .cut (j7 (d9 Try.prog 168) 2).1 (j7 (d9 Try.prog 168) 2).2 (St.mk [(0,AV.val (Ty.d0 false (Ty.pair (Ty.int IntKind.i64) (Ty.pair o7 (Ty.pair Ty.str Ty.unit)))) x0),(1,AV.r9 238 (AV.cons (AV.I5 (Ty.pair (Ty.int IntKind.i64) (Ty.pair o7 (Ty.pair Ty.str Ty.unit))) (x1c0_1,x1c0_2_1,x1c0_2_2_1,())) AV.nil)),(7,AV.val (Ty.int IntKind.i64) (↑(List.length x0):Int)),(8,AV.val (Ty.int IntKind.i64) (0:Int))] []):=by kernel_rfl
def b20 (v0:List (Int×List Int×List UInt8×Unit)) (v1a_1:Int) (v1a_2_1:List Int) (v1a_2_2_1:List UInt8) (v7:Int) (v8:Int):St:=St.mk [(0,AV.val (Ty.d0 false (Ty.pair (Ty.int IntKind.i64) (Ty.pair o7 (Ty.pair Ty.str Ty.unit)))) v0),(1,AV.r9 238 (AV.cons (AV.I5 (Ty.pair (Ty.int IntKind.i64) (Ty.pair o7 (Ty.pair Ty.str Ty.unit))) (v1a_1,v1a_2_1,v1a_2_2_1,())) AV.nil)),(7,AV.val (Ty.int IntKind.i64) v7),(8,AV.val (Ty.int IntKind.i64) v8)] []
theorem b9q (v0:List (Int×List Int×List UInt8×Unit)) (v1a_1:Int) (v1a_2_1:List Int) (v1a_2_2_1:List UInt8) (v7:Int) (v8:Int):exec b0X 1000 (.code (j7 (d9 Try.prog 168) 2).1::.inLoop (j7 (d9 Try.prog 168) 2).1::(j7 (d9 Try.prog 168) 2).2) (b20 v0 v1a_1 v1a_2_1 v1a_2_2_1 v7 v8) =
  cond (decide (v8<v7)) (.f9 ((0:Int)≤v8∧v8<(↑(List.length v0):Int)) (.f9 (((0:Int)≤Prod.fst (List.getD v0 (Int.toNat v8) ((0:Int),[(0:Int),(0:Int),(0:Int),(0:Int),(0:Int),(0:Int)],[],()))∧Prod.fst (List.getD v0 (Int.toNat v8) ((0:Int),[(0:Int),(0:Int),(0:Int),(0:Int),(0:Int),(0:Int)],[],()))≤(5:Int))∧(0:Int)≤v1a_1∧v1a_1≤(5:Int)) (cond (B0 (List.getD v0 (Int.toNat v8) ((0:Int),[(0:Int),(0:Int),(0:Int),(0:Int),(0:Int),(0:Int)],[],())) (v1a_1,v1a_2_1,v1a_2_2_1,())) (.ret ((v8,()))) (.f9 (C1 IntKind.i64 (v8+(1:Int))) (.cut (j7 (d9 Try.prog 168) 2).1 (j7 (d9 Try.prog 168) 2).2 (St.mk [(0,AV.val (Ty.d0 false (Ty.pair (Ty.int IntKind.i64) (Ty.pair o7 (Ty.pair Ty.str Ty.unit)))) v0),(1,AV.r9 238 (AV.cons (AV.I5 (Ty.pair (Ty.int IntKind.i64) (Ty.pair o7 (Ty.pair Ty.str Ty.unit))) (v1a_1,v1a_2_1,v1a_2_2_1,())) AV.nil)),(7,AV.val (Ty.int IntKind.i64) v7),(8,AV.val (Ty.int IntKind.i64) (v8+(1:Int)))] [])))))) (.ret (((-1:Int),()))):=by kernel_rfl
theorem b3H:b5P.Valid Try.prog 168:=by
  refine t5.s4 a7e rfl rfl Try.func168 (c:=d9 Try.prog 168) rfl rfl a7b rfl ?_
  rintro ⟨(l:List (n7)),⟨⟨(q0:Int),(q1:List Int),(q2:List UInt8),⟨⟩⟩,⟨⟩⟩,⟨⟩⟩ hp ⟨⟨hl,-⟩,-⟩
  have hl:l.length≤9223372036854775807:=hl
  have hp:a3o l (q0,q1,q2,()):=hp
  refine l5 (n:=1000) a7e a7b ?_
  refine j8 (c0T l q0 q1 q2) ?_
  refine Reach.V1 a7e a7b (fun i:Nat=>b20 l q0 q1 q2 (l.length:Int) (i:Int)) (fun i=>i≤l.length∧idxOf (fun y=>B0 y (q0,q1,q2,())) l=K6 (fun y=>B0 y (q0,q1,q2,())) (l.drop i) i)
    (fun i=>l.length - i) 1000 (fun _=>⟨x7 rfl,x7 rfl⟩) ?_ 0 ⟨by omega,rfl⟩
  rintro i ⟨k1,k2⟩ - ih
  refine j8 (b9q ..) ?_
  simp only [p8,Tree.holds,true_and,true_implies,decide_eq_true_eq,decide_eq_false_iff_not,Bool.not_eq_true',Bool.not_eq_false',Int.toNat_natCast,u6,List.length_set,List.length_cons,List.length_nil]
  refine ⟨fun h=>?_,fun h=>?_⟩
  · rw [X9 (show i<l.length by omega) (0,[0,0,0,0,0,0],[],()),K6] at k2
    refine ⟨by omega,fun _=>⟨⟨hp.1 _ (P4 (by omega)),hp.2⟩,fun _=>⟨fun c=>?_,fun c=>⟨by omega,fun _=>ih (i+1) ⟨by omega,?_⟩ (by omega)⟩⟩⟩⟩
    · show (((i:Int),()):Int×Unit)=(idxOf (fun y=>B0 y (q0,q1,q2,())) l,())
      rw [k2,if_pos (show (fun y=>B0 y (q0,q1,q2,())) (l.getD i (0,[0,0,0,0,0,0],[],()))=true from c)]
    · rw [k2,if_neg (show ¬ (fun y=>B0 y (q0,q1,q2,())) (l.getD i (0,[0,0,0,0,0,0],[],()))=true from fun h9=>Bool.noConfusion (Eq.trans (Eq.symm h9) c))]
  · rw [List.drop_eq_nil_of_le (by omega)] at k2
    show (((-1:Int),()):Int×Unit)=(idxOf (fun y=>B0 y (q0,q1,q2,())) l,())
    rw [k2]; rfl
def b2h:t5:={ ps:=[.v (.d0 false E7),.r9 238 [E7]],rs:=[.bool],pre:=fun x=>a3o x.1 x.2.1.1,fn:=fun x=>(List.any (α:=n7) x.1 (fun y=>B0 y x.2.1.1),()),out:=fun _=>() }
noncomputable def b24:Env:={ P:=Try.prog,tt:=tt,C9:=[(168,b5P)],res:=[Go.ResultVar.tmp 4],rs:=[Ty.bool],ps:=[PK.v (Ty.d0 false (Ty.pair (Ty.int IntKind.i64) (Ty.pair o7 (Ty.pair Ty.str Ty.unit)))),PK.r9 238 [Ty.pair (Ty.int IntKind.i64) (Ty.pair o7 (Ty.pair Ty.str Ty.unit))]],C7:=[],nt:=9 }
theorem b0u:x8 b24:=C2 q9 ⟨b3H,trivial⟩
theorem b0g:D3 b24 Try.f164:=⟨rfl,rfl⟩
theorem b9y (x0:List (Int×List Int×List UInt8×Unit)) (x1c0_1:Int) (x1c0_2_1:List Int) (x1c0_2_2_1:List UInt8):exec b24 1000 [.code (d9 Try.prog 164)] (w7 b2h.ps ((x0,((x1c0_1,x1c0_2_1,x1c0_2_2_1,()),()),()))) =
  .f9 (a3o x0 (x1c0_1,x1c0_2_1,x1c0_2_2_1,())) (.ret ((decide ((0:Int)≤idxOf (fun y=>B0 y (x1c0_1,x1c0_2_1,x1c0_2_2_1,())) x0),()))):=by kernel_rfl
theorem b2g:b2h.Valid Try.prog 164:=by
  refine t5.s4 b0u rfl rfl Try.func164 (c:=d9 Try.prog 164) rfl rfl b0g rfl ?_
  rintro ⟨(l:List (n7)),⟨⟨(q0:Int),(q1:List Int),(q2:List UInt8),⟨⟩⟩,⟨⟩⟩,⟨⟩⟩ hp -
  refine l5 (n:=1000) b0u b0g ?_
  refine j8 (b9y l q0 q1 q2) ?_
  refine ⟨hp,fun _=>?_⟩
  show ((decide (0≤idxOf (fun y=>B0 y (q0,q1,q2,())) l),()):Bool×Unit)=(l.any (fun y=>B0 y (q0,q1,q2,())),())
  rw [a3x]
def RM (m:n7):Prop:=m.2.1.length=6∧∀ n∈m.2.1,n≤9223372036854775807
theorem b9H {m:n7} (h:G0 E7 m):RM m:=⟨h.2.1.1,fun n hn=>(h.2.1.2 n hn).2⟩
theorem RM.get {m:n7} (h:RM m) (i:Nat):m.2.1.getD i 0≤9223372036854775807:=by
  rcases Nat.lt_or_ge i m.2.1.length with h1|h1
  · exact h.2 _ (P4 h1)
  · rw [List.getD_eq_getElem?_getD,List.getElem?_eq_none h1]; decide
theorem a6a {l:List Int} (h:l.any neg=false) (i:Nat):0≤l.getD i 0:=by
  rcases Nat.lt_or_ge i l.length with h1|h1
  · have:=List.any_eq_false.1 h _ (P4 (d:=0) h1)
    simp only [neg,decide_eq_true_eq] at this
    omega
  · rw [List.getD_eq_getElem?_getD,List.getElem?_eq_none h1]; decide
theorem b5y {m:n7}:formed m=true↔InR m∧m.2.1.any neg=false∧0<m.2.1.getD m.1.toNat 0:=by
  rw [formed,Bool.and_eq_true,Bool.and_eq_true,a0B,Bool.not_eq_true',decide_eq_true_eq,and_assoc]
theorem S9 {m:n7} (h:formed m=true):InR m:=(b5y.1 h).1
def a4b (c:L9) (i:Nat):Bool:=!formed (c.2.2.1.getD i I6) || decide ((c.2.2.1.getD i I6).1=c.1) || decide ((c.2.2.1.getD i I6).2.1.getD (c.2.2.1.getD i I6).1.toNat 0≤c.2.1.getD (c.2.2.1.getD i I6).1.toNat 0) || E6 c.2.1 (c.2.2.1.getD i I6) || (c.2.2.1.take i).any (fun y=>B0 y (c.2.2.1.getD i I6))
def M9 (c:L9):Int:=if Z7 c.1 0 5=false then 1 else if c.2.1.any neg=true then 1 else if (40:Int)<c.2.2.1.length then 2 else if a1J (a4b c) c.2.2.1.length=true then 4 else 0
def a58:t5:={ ps:=[.v a0L],rs:=[I8],pre:=fun _=>True,fn:=fun x=>(M9 x.1,()),out:=fun _=>() }
noncomputable def a6b:Env:={ P:=Try.prog,tt:=tt,C9:=[(236,b5U),(204,a82),(162,a56),(167,a75),(164,b2h)],res:=[Go.ResultVar.tmp 2],rs:=[Ty.int IntKind.i64],ps:=[PK.v (Ty.pair (Ty.int IntKind.i64) (Ty.pair o7 (Ty.pair (Ty.d0 false (Ty.pair (Ty.int IntKind.i64) (Ty.pair o7 (Ty.pair Ty.str Ty.unit)))) Ty.unit)))],C7:=[(6,[(1,none),(21,none),(22,none),(23,none)])],nt:=66 }
theorem a4v:x8 a6b:=C2 q9 ⟨a76,b0H,a4B,a3j,b2g,trivial⟩
theorem a4u:D3 a6b Try.f161:=⟨rfl,rfl⟩
theorem b8f (x0_1:Int) (x0_2_1:List Int) (x0_2_2_1:List (Int×List Int×List UInt8×Unit)):exec a6b 1000 [.code (d9 Try.prog 161)] (w7 a58.ps (((x0_1,x0_2_1,x0_2_2_1,()),()))) =
  .f9 (True) (cond (!Z7 x0_1 (0:Int) (5:Int)) (.ret (((1:Int),()))) (.f9 ((0:Int)≤(0:Int)∧(0:Int)≤(↑6:Int)∧(↑6:Int)≤(↑6:Int)) (.f9 (True) (cond (List.any (s5 (0:Int) (↑6:Int) x0_2_1) neg) (.ret (((1:Int),()))) (cond (decide ((40:Int)<(↑(List.length x0_2_2_1):Int))) (.ret (((2:Int),()))) (.cut (j7 (d9 Try.prog 161) 6).1 (j7 (d9 Try.prog 161) 6).2 (St.mk [(1,AV.ptr 1 []),(21,AV.val (Ty.d0 false (Ty.pair (Ty.int IntKind.i64) (Ty.pair o7 (Ty.pair Ty.str Ty.unit)))) x0_2_2_1),(22,AV.val (Ty.int IntKind.i64) (↑(List.length x0_2_2_1):Int)),(23,AV.val (Ty.int IntKind.i64) (0:Int))] [(1,i7.var (Ty.pair (Ty.int IntKind.i64) (Ty.pair o7 (Ty.pair (Ty.d0 false (Ty.pair (Ty.int IntKind.i64) (Ty.pair o7 (Ty.pair Ty.str Ty.unit)))) Ty.unit))) (x0_1,x0_2_1,x0_2_2_1,()))]))))))):=by kernel_rfl
def a8A (v21:List (Int×List Int×List UInt8×Unit)) (v22:Int) (v23:Int) (o1_1:Int) (o1_2_1:List Int) (o1_2_2_1:List (Int×List Int×List UInt8×Unit)):St:=St.mk [(1,AV.ptr 1 []),(21,AV.val (Ty.d0 false (Ty.pair (Ty.int IntKind.i64) (Ty.pair o7 (Ty.pair Ty.str Ty.unit)))) v21),(22,AV.val (Ty.int IntKind.i64) v22),(23,AV.val (Ty.int IntKind.i64) v23)] [(1,i7.var (Ty.pair (Ty.int IntKind.i64) (Ty.pair o7 (Ty.pair (Ty.d0 false (Ty.pair (Ty.int IntKind.i64) (Ty.pair o7 (Ty.pair Ty.str Ty.unit)))) Ty.unit))) (o1_1,o1_2_1,o1_2_2_1,()))]
theorem b6y (v21:List (Int×List Int×List UInt8×Unit)) (v22:Int) (v23:Int) (o1_1:Int) (o1_2_1:List Int) (o1_2_2_1:List (Int×List Int×List UInt8×Unit)):exec a6b 1000 (.code (j7 (d9 Try.prog 161) 6).1::.inLoop (j7 (d9 Try.prog 161) 6).1::(j7 (d9 Try.prog 161) 6).2) (a8A v21 v22 v23 o1_1 o1_2_1 o1_2_2_1) =
  cond (decide (v23<v22)) (.f9 ((0:Int)≤v23∧v23<(↑(List.length v21):Int)) (.f9 (True) (cond (!formed (List.getD v21 (Int.toNat v23) ((0:Int),[(0:Int),(0:Int),(0:Int),(0:Int),(0:Int),(0:Int)],[],()))) (.ret (((4:Int),()))) (cond (decide (Prod.fst (List.getD v21 (Int.toNat v23) ((0:Int),[(0:Int),(0:Int),(0:Int),(0:Int),(0:Int),(0:Int)],[],()))=o1_1)) (.ret (((4:Int),()))) (.f9 ((0:Int)≤Prod.fst (List.getD v21 (Int.toNat v23) ((0:Int),[(0:Int),(0:Int),(0:Int),(0:Int),(0:Int),(0:Int)],[],()))∧Prod.fst (List.getD v21 (Int.toNat v23) ((0:Int),[(0:Int),(0:Int),(0:Int),(0:Int),(0:Int),(0:Int)],[],()))<(↑6:Int)) (.f9 ((0:Int)≤Prod.fst (List.getD v21 (Int.toNat v23) ((0:Int),[(0:Int),(0:Int),(0:Int),(0:Int),(0:Int),(0:Int)],[],()))∧Prod.fst (List.getD v21 (Int.toNat v23) ((0:Int),[(0:Int),(0:Int),(0:Int),(0:Int),(0:Int),(0:Int)],[],()))<(↑6:Int)) (cond (decide (List.getD (Prod.fst (Prod.snd (List.getD v21 (Int.toNat v23) ((0:Int),[(0:Int),(0:Int),(0:Int),(0:Int),(0:Int),(0:Int)],[],())))) (Int.toNat (Prod.fst (List.getD v21 (Int.toNat v23) ((0:Int),[(0:Int),(0:Int),(0:Int),(0:Int),(0:Int),(0:Int)],[],())))) (0:Int)≤List.getD o1_2_1 (Int.toNat (Prod.fst (List.getD v21 (Int.toNat v23) ((0:Int),[(0:Int),(0:Int),(0:Int),(0:Int),(0:Int),(0:Int)],[],())))) (0:Int))) (.ret (((4:Int),()))) (.f9 ((0:Int)≤List.getD o1_2_1 (Int.toNat (Prod.fst (List.getD v21 (Int.toNat v23) ((0:Int),[(0:Int),(0:Int),(0:Int),(0:Int),(0:Int),(0:Int)],[],())))) (0:Int)∧List.getD o1_2_1 (Int.toNat (Prod.fst (List.getD v21 (Int.toNat v23) ((0:Int),[(0:Int),(0:Int),(0:Int),(0:Int),(0:Int),(0:Int)],[],())))) (0:Int)≤(9223372036854775806:Int)) (cond (E6 o1_2_1 (List.getD v21 (Int.toNat v23) ((0:Int),[(0:Int),(0:Int),(0:Int),(0:Int),(0:Int),(0:Int)],[],()))) (.ret (((4:Int),()))) (.f9 ((0:Int)≤(0:Int)∧(0:Int)≤v23∧v23≤(↑(List.length o1_2_2_1):Int)) (.f9 (a3o (s5 (0:Int) v23 o1_2_2_1) (List.getD v21 (Int.toNat v23) ((0:Int),[(0:Int),(0:Int),(0:Int),(0:Int),(0:Int),(0:Int)],[],()))) (cond (List.any (s5 (0:Int) v23 o1_2_2_1) fun y=>B0 y (List.getD v21 (Int.toNat v23) ((0:Int),[(0:Int),(0:Int),(0:Int),(0:Int),(0:Int),(0:Int)],[],()))) (.ret (((4:Int),()))) (.f9 (C1 IntKind.i64 (v23+(1:Int))) (.cut (j7 (d9 Try.prog 161) 6).1 (j7 (d9 Try.prog 161) 6).2 (St.mk [(1,AV.ptr 1 []),(21,AV.val (Ty.d0 false (Ty.pair (Ty.int IntKind.i64) (Ty.pair o7 (Ty.pair Ty.str Ty.unit)))) v21),(22,AV.val (Ty.int IntKind.i64) v22),(23,AV.val (Ty.int IntKind.i64) (v23+(1:Int)))] [(1,i7.var (Ty.pair (Ty.int IntKind.i64) (Ty.pair o7 (Ty.pair (Ty.d0 false (Ty.pair (Ty.int IntKind.i64) (Ty.pair o7 (Ty.pair Ty.str Ty.unit)))) Ty.unit))) (o1_1,o1_2_1,o1_2_2_1,()))]))))))))))))))) (.ret (((0:Int),()))):=by kernel_rfl
theorem a4D:a58.Valid Try.prog 161:=by
  refine t5.s4 a4v rfl rfl Try.func161 (c:=d9 Try.prog 161) rfl rfl a4u rfl ?_
  rintro ⟨⟨(me:Int),(s:List Int),(h:List n7),⟨⟩⟩,⟨⟩⟩ - ⟨⟨-,⟨hsl,-⟩,⟨hl,hlr⟩,-⟩,-⟩
  have hsl:s.length=6:=hsl
  have hl:h.length≤9223372036854775807:=hl
  have hrm:∀ x∈h,RM x:=fun x hx=>b9H (hlr x hx)
  refine l5 (n:=1000) a4v a4u ?_
  refine j8 (b8f me s h) ?_
  have key:∀ {x:Int},M9 (me,s,h,())=x→((x,()):Int×Unit)=(M9 (me,s,h,()),()):=by rintro x rfl; rfl
  have hd:M9 (me,s,h,())=if Z7 me 0 5=false then 1 else if s.any neg=true then 1 else if (40:Int)<h.length then 2 else if a1J (a4b (me,s,h,())) h.length=true then 4 else 0:=rfl
  have hc:s5 0 6 s=s:=by rw [s5,Int.toNat_zero,List.drop_zero]; exact List.take_of_length_le (by rw [hsl]; decide)
  simp only [p8,Tree.holds,true_and,true_implies,decide_eq_true_eq,decide_eq_false_iff_not,Bool.not_eq_true',Bool.not_eq_false',Int.toNat_natCast,u6,List.length_set,List.length_cons,List.length_nil,hc]
  refine ⟨fun a=>key (by rw [hd,if_pos a]),fun a=>⟨by omega,fun _=>?_⟩⟩
  rw [if_neg (tnf a)] at hd
  refine ⟨fun a=>key (by rw [hd,if_pos a]),fun a=>?_⟩
  have hnn:=a6a a
  rw [if_neg (by rw [a]; simp)] at hd
  refine ⟨fun a=>key (by rw [hd,if_pos a]),fun a=>?_⟩
  rw [if_neg a] at hd
  refine Reach.V1 a4v a4u (fun i:Nat=>a8A h (h.length:Int) (i:Int) me s h) (fun i=>i≤h.length∧a1J (a4b (me,s,h,())) i=false) (fun i=>h.length - i) 1000 (fun _=>⟨x7 rfl,x7 rfl⟩) ?_ 0 ⟨by omega,rfl⟩
  rintro i ⟨k1,k2⟩ - ih
  have k1:i≤h.length:=k1
  refine j8 (b6y ..) ?_
  simp only [p8,Tree.holds,true_and,true_implies,decide_eq_true_eq,decide_eq_false_iff_not,Bool.not_eq_true',Bool.not_eq_false',Int.toNat_natCast,u6,List.length_set,List.length_cons,List.length_nil,c0w]
  have hb:a4b (me,s,h,()) i=(!formed (h.getD i (0,[0,0,0,0,0,0],[],())) || decide ((h.getD i (0,[0,0,0,0,0,0],[],())).1=me) || decide ((h.getD i (0,[0,0,0,0,0,0],[],())).2.1.getD (h.getD i (0,[0,0,0,0,0,0],[],())).1.toNat 0≤s.getD (h.getD i (0,[0,0,0,0,0,0],[],())).1.toNat 0) || E6 s (h.getD i (0,[0,0,0,0,0,0],[],())) || (h.take i).any (fun y=>B0 y (h.getD i (0,[0,0,0,0,0,0],[],())))):=rfl
  refine ⟨fun a=>⟨by omega,fun _=>?_⟩,fun a=>key (by rw [hd,show h.length=i by omega,k2]; rfl)⟩
  have hi:i<h.length:=by omega
  have hmr:RM (h.getD i (0,[0,0,0,0,0,0],[],())):=hrm _ (P4 hi)
  generalize h.getD i (0,[0,0,0,0,0,0],[],())=m at *
  have bad:a4b (me,s,h,()) i=true→((4,()):Int×Unit)=(M9 (me,s,h,()),()):=fun h9=>key (by rw [hd,if_pos (b2v h9 hi)])
  refine ⟨fun e1=>bad (by rw [hb,e1]; rfl),fun e1=>⟨fun e2=>bad (by rw [hb,decide_eq_true e2]; simp),fun e2=>?_⟩⟩
  have hm:=S9 e1
  refine ⟨by omega,fun _=>⟨by omega,fun _=>⟨fun e3=>bad (by rw [hb,decide_eq_true e3]; simp),fun e3=>⟨⟨hnn _,?_⟩,fun _=>⟨fun e4=>bad (by rw [hb,e4]; simp),fun e4=>⟨by omega,fun _=>⟨⟨fun x hx=>?_,hm⟩,fun _=>⟨fun e5=>bad (by rw [hb,e5]; simp),fun e5=>⟨by omega,fun _=>ih (i+1) ⟨by omega,?_⟩ (by omega)⟩⟩⟩⟩⟩⟩⟩⟩⟩
  · have:=hmr.get m.1.toNat; omega
  · obtain ⟨k,hk,rfl⟩:=a6Q (d:=I6) hx
    rw [List.length_take] at hk
    have h9:=a2u.1 k2 k (by omega)
    rw [List.getD_eq_getElem?_getD,List.getElem?_take,if_pos (by omega),← List.getD_eq_getElem?_getD]
    exact S9 (by
      rw [a4b] at h9
      simp only [Bool.or_eq_false_iff,Bool.not_eq_false'] at h9
      exact h9.1.1.1.1)
  · rw [a1J,k2,hb,e1,decide_eq_false e2,decide_eq_false e3,e4,e5]; rfl
theorem c2a:Ty.wb E7=72:=rfl
def b5J:t5:={ ps:=[.v (.d0 false E7)],rs:=[.d0 true E7],pre:=fun x=>List.length (α:=n7) x.1≤1048576,fn:=fun x=>x,out:=fun _=>() }
noncomputable def b9j:Env:={ P:=Try.prog,tt:=tt,C9:=[],res:=[Go.ResultVar.tmp 2],rs:=[Ty.d0 true (Ty.pair (Ty.int IntKind.i64) (Ty.pair o7 (Ty.pair Ty.str Ty.unit)))],ps:=[PK.v (Ty.d0 false (Ty.pair (Ty.int IntKind.i64) (Ty.pair o7 (Ty.pair Ty.str Ty.unit))))],C7:=[],nt:=8 }
theorem b4Q:x8 b9j:=C2 q9 trivial
theorem b4L:D3 b9j Try.f64:=⟨rfl,rfl⟩
theorem c1K (x0:List (Int×List Int×List UInt8×Unit)):exec b9j 1000 [.code (d9 Try.prog 64)] (w7 b5J.ps ((x0,()))) =
  .both (x0=[]) (.ret (([],()))) (.f9 ((0:Nat)+List.length x0≤140737488355328∧((0:Nat)+List.length x0)*Ty.wb (Ty.pair (Ty.int IntKind.i64) (Ty.pair o7 (Ty.pair Ty.str Ty.unit)))≤140737488355328) (.ret (([]++x0,())))):=by kernel_rfl
theorem a7X:b5J.Valid Try.prog 64:=by
  refine t5.s4 b4Q rfl rfl Try.func64 (c:=d9 Try.prog 64) rfl rfl b4L rfl ?_
  rintro ⟨(l:List (n7)),⟨⟩⟩ hp -
  have hp:l.length≤1048576:=hp
  refine l5 (n:=1000) b4Q b4L ?_
  refine j8 (c1K l) ?_
  simp only [p8,Tree.holds,true_and,true_implies,decide_eq_true_eq,decide_eq_false_iff_not,Bool.not_eq_true',Bool.not_eq_false',Int.toNat_natCast,u6,List.length_set,List.length_cons,List.length_nil,c2a]
  refine ⟨fun h=>?_,by omega,fun _=>rfl⟩
  show (([],()):List (n7)×Unit)=(l,())
  rw [show l=[] from h]
def a57:t5:={ ps:=[.v a0L],rs:=[a6c],pre:=fun x=>List.length (α:=n7) x.1.2.2.1≤1048576,fn:=fun x=>x,out:=fun _=>() }
noncomputable def a9u:Env:={ P:=Try.prog,tt:=tt,C9:=[(64,b5J)],res:=[Go.ResultVar.cell 2 106],rs:=[Ty.pair (Ty.int IntKind.i64) (Ty.pair o7 (Ty.pair (Ty.d0 true (Ty.pair (Ty.int IntKind.i64) (Ty.pair o7 (Ty.pair Ty.str Ty.unit)))) Ty.unit))],ps:=[PK.v (Ty.pair (Ty.int IntKind.i64) (Ty.pair o7 (Ty.pair (Ty.d0 false (Ty.pair (Ty.int IntKind.i64) (Ty.pair o7 (Ty.pair Ty.str Ty.unit)))) Ty.unit)))],C7:=[],nt:=8 }
theorem a8z:x8 a9u:=C2 q9 ⟨a7X,trivial⟩
theorem a8j:D3 a9u Try.f163:=⟨rfl,rfl⟩
theorem b8e (x0_1:Int) (x0_2_1:List Int) (x0_2_2_1:List (Int×List Int×List UInt8×Unit)):exec a9u 1000 [.code (d9 Try.prog 163)] (w7 a57.ps (((x0_1,x0_2_1,x0_2_2_1,()),()))) =
  .f9 (List.length x0_2_2_1≤1048576) (.ret (((x0_1,x0_2_1,x0_2_2_1,()),()))):=by kernel_rfl
theorem a4C:a57.Valid Try.prog 163:=by
  refine t5.s4 a8z rfl rfl Try.func163 (c:=d9 Try.prog 163) rfl rfl a8j rfl ?_
  rintro ⟨⟨(me:Int),(s:List Int),(h:List n7),⟨⟩⟩,⟨⟩⟩ hp -
  refine l5 (n:=1000) a8z a8j ?_
  refine j8 (b8e me s h) ?_
  exact ⟨hp,fun _=>rfl⟩
end Go.Proofs.Ytekbamiaenbhjaa
