/- The contract of causal.Hear. No condition. -/
import Derived.Test.YtekbamiaenbhjaaCausalB
namespace Go.Proofs.Ytekbamiaenbhjaa
open Go.Ex
set_option maxRecDepth 100000
abbrev dM:n7:=(0,[0,0,0,0,0,0],[],())
def cH1:t5:={ ps:=[.v E7,.rd E7],rs:=[.bool],pre:=fun x=>(LE.le (α:=Int) 0 x.1.1∧LE.le (α:=Int) x.1.1 5)∧(LE.le (α:=Int) 0 x.2.1.1∧LE.le (α:=Int) x.2.1.1 5),fn:=fun x=>(B0 x.1 x.2.1,()),out:=fun _=>() }
noncomputable def EH1:Env:={ P:=Try.prog,tt:=tt,C9:=[(166,a7W)],res:=[Go.ResultVar.tmp 3],rs:=[Ty.bool],ps:=[PK.v (Ty.pair (Ty.int IntKind.i64) (Ty.pair o7 (Ty.pair Ty.str Ty.unit))),PK.rd (Ty.pair (Ty.int IntKind.i64) (Ty.pair o7 (Ty.pair Ty.str Ty.unit)))],C7:=[],nt:=7 }
theorem b8i:x8 EH1:=C2 q9 ⟨a5d,trivial⟩
theorem b71:D3 EH1 Try.f165:=⟨rfl,rfl⟩
theorem c2p (x0_1:Int) (x0_2_1:List Int) (x0_2_2_1:List UInt8) (x1_1:Int) (x1_2_1:List Int) (x1_2_2_1:List UInt8):exec EH1 1000 [.code (d9 Try.prog 165)] (w7 cH1.ps (((x0_1,x0_2_1,x0_2_2_1,()),(x1_1,x1_2_1,x1_2_2_1,()),()))) =
  .f9 (((0:Int)≤x0_1∧x0_1≤(5:Int))∧(0:Int)≤x1_1∧x1_1≤(5:Int)) (.ret ((B0 (x0_1,x0_2_1,x0_2_2_1,()) (x1_1,x1_2_1,x1_2_2_1,()),()))):=by kernel_rfl
theorem b7G:cH1.Valid Try.prog 165:=by
  refine t5.s4 b8i rfl rfl Try.func165 (c:=d9 Try.prog 165) rfl rfl b71 rfl ?_
  rintro ⟨⟨(f:Int),(a:List Int),(t:List UInt8),⟨⟩⟩,⟨(g:Int),(b:List Int),(u:List UInt8),⟨⟩⟩,⟨⟩⟩ ⟨⟨h1,h2⟩,h3,h4⟩ -
  refine l5 (n:=1000) b8i b71 ?_
  refine j8 (c2p f a t g b u) ?_
  exact ⟨⟨⟨h1,h2⟩,h3,h4⟩,fun _=>rfl⟩
def b2a:t5:={ ps:=[.v (.d0 false E7),.r9 165 [E7]],rs:=[I8],pre:=fun x=>a3o x.1 x.2.1.1,fn:=fun x=>(idxOf (fun y=>B0 y x.2.1.1) x.1,()),out:=fun _=>() }
noncomputable def a8r:Env:={ P:=Try.prog,tt:=tt,C9:=[(165,cH1)],res:=[Go.ResultVar.tmp 4],rs:=[Ty.int IntKind.i64],ps:=[PK.v (Ty.d0 false (Ty.pair (Ty.int IntKind.i64) (Ty.pair o7 (Ty.pair Ty.str Ty.unit)))),PK.r9 165 [Ty.pair (Ty.int IntKind.i64) (Ty.pair o7 (Ty.pair Ty.str Ty.unit))]],C7:=[(2,[(0,none),(1,none),(7,none),(8,none)])],nt:=19 }
theorem a5G:x8 a8r:=C2 q9 ⟨b7G,trivial⟩
theorem a5y:D3 a8r Try.f168:=⟨rfl,rfl⟩
theorem b9t (x0:List (Int×List Int×List UInt8×Unit)) (x1c0_1:Int) (x1c0_2_1:List Int) (x1c0_2_2_1:List UInt8):exec a8r 1000 [.code (d9 Try.prog 168)] (w7 b2a.ps ((x0,((x1c0_1,x1c0_2_1,x1c0_2_2_1,()),()),()))) =
  .cut (j7 (d9 Try.prog 168) 2).1 (j7 (d9 Try.prog 168) 2).2 (St.mk [(0,AV.val (Ty.d0 false (Ty.pair (Ty.int IntKind.i64) (Ty.pair o7 (Ty.pair Ty.str Ty.unit)))) x0),(1,AV.r9 165 (AV.cons (AV.I5 (Ty.pair (Ty.int IntKind.i64) (Ty.pair o7 (Ty.pair Ty.str Ty.unit))) (x1c0_1,x1c0_2_1,x1c0_2_2_1,())) AV.nil)),(7,AV.val (Ty.int IntKind.i64) (↑(List.length x0):Int)),(8,AV.val (Ty.int IntKind.i64) (0:Int))] []):=by kernel_rfl
def b0q (v0:List (Int×List Int×List UInt8×Unit)) (v1a_1:Int) (v1a_2_1:List Int) (v1a_2_2_1:List UInt8) (v7:Int) (v8:Int):St:=St.mk [(0,AV.val (Ty.d0 false (Ty.pair (Ty.int IntKind.i64) (Ty.pair o7 (Ty.pair Ty.str Ty.unit)))) v0),(1,AV.r9 165 (AV.cons (AV.I5 (Ty.pair (Ty.int IntKind.i64) (Ty.pair o7 (Ty.pair Ty.str Ty.unit))) (v1a_1,v1a_2_1,v1a_2_2_1,())) AV.nil)),(7,AV.val (Ty.int IntKind.i64) v7),(8,AV.val (Ty.int IntKind.i64) v8)] []
theorem b78 (v0:List (Int×List Int×List UInt8×Unit)) (v1a_1:Int) (v1a_2_1:List Int) (v1a_2_2_1:List UInt8) (v7:Int) (v8:Int):exec a8r 1000 (.code (j7 (d9 Try.prog 168) 2).1::.inLoop (j7 (d9 Try.prog 168) 2).1::(j7 (d9 Try.prog 168) 2).2) (b0q v0 v1a_1 v1a_2_1 v1a_2_2_1 v7 v8) =
  cond (decide (v8<v7)) (.f9 ((0:Int)≤v8∧v8<(↑(List.length v0):Int)) (.f9 (((0:Int)≤Prod.fst (List.getD v0 (Int.toNat v8) ((0:Int),[(0:Int),(0:Int),(0:Int),(0:Int),(0:Int),(0:Int)],[],()))∧Prod.fst (List.getD v0 (Int.toNat v8) ((0:Int),[(0:Int),(0:Int),(0:Int),(0:Int),(0:Int),(0:Int)],[],()))≤(5:Int))∧(0:Int)≤v1a_1∧v1a_1≤(5:Int)) (cond (B0 (List.getD v0 (Int.toNat v8) ((0:Int),[(0:Int),(0:Int),(0:Int),(0:Int),(0:Int),(0:Int)],[],())) (v1a_1,v1a_2_1,v1a_2_2_1,())) (.ret ((v8,()))) (.f9 (C1 IntKind.i64 (v8+(1:Int))) (.cut (j7 (d9 Try.prog 168) 2).1 (j7 (d9 Try.prog 168) 2).2 (St.mk [(0,AV.val (Ty.d0 false (Ty.pair (Ty.int IntKind.i64) (Ty.pair o7 (Ty.pair Ty.str Ty.unit)))) v0),(1,AV.r9 165 (AV.cons (AV.I5 (Ty.pair (Ty.int IntKind.i64) (Ty.pair o7 (Ty.pair Ty.str Ty.unit))) (v1a_1,v1a_2_1,v1a_2_2_1,())) AV.nil)),(7,AV.val (Ty.int IntKind.i64) v7),(8,AV.val (Ty.int IntKind.i64) (v8+(1:Int)))] [])))))) (.ret (((-1:Int),()))):=by kernel_rfl
theorem b19:b2a.Valid Try.prog 168:=by
  refine t5.s4 a5G rfl rfl Try.func168 (c:=d9 Try.prog 168) rfl rfl a5y rfl ?_
  rintro ⟨(l:List (n7)),⟨⟨(q0:Int),(q1:List Int),(q2:List UInt8),⟨⟩⟩,⟨⟩⟩,⟨⟩⟩ hp ⟨⟨hl,-⟩,-⟩
  have hl:l.length≤9223372036854775807:=hl
  have hp:a3o l (q0,q1,q2,()):=hp
  refine l5 (n:=1000) a5G a5y ?_
  refine j8 (b9t l q0 q1 q2) ?_
  refine Reach.V1 a5G a5y (fun i:Nat=>b0q l q0 q1 q2 (l.length:Int) (i:Int)) (fun i=>i≤l.length∧idxOf (fun y=>B0 y (q0,q1,q2,())) l=K6 (fun y=>B0 y (q0,q1,q2,())) (l.drop i) i)
    (fun i=>l.length - i) 1000 (fun _=>⟨x7 rfl,x7 rfl⟩) ?_ 0 ⟨by omega,rfl⟩
  rintro i ⟨k1,k2⟩ - ih
  refine j8 (b78 ..) ?_
  simp only [p8,Tree.holds,true_and,true_implies,decide_eq_true_eq,decide_eq_false_iff_not,Bool.not_eq_true',Bool.not_eq_false',Int.toNat_natCast,u6,List.length_set,List.length_cons,List.length_nil]
  refine ⟨fun h=>?_,fun h=>?_⟩
  · rw [X9 (show i<l.length by omega) (0,[0,0,0,0,0,0],[],()),K6] at k2
    refine ⟨by omega,fun _=>⟨⟨hp.1 _ (P4 (by omega)),hp.2⟩,fun _=>⟨fun c=>?_,fun c=>⟨by omega,fun _=>ih (i+1) ⟨by omega,?_⟩ (by omega)⟩⟩⟩⟩
    · show (((i:Int),()):Int×Unit)=(idxOf (fun y=>B0 y (q0,q1,q2,())) l,())
      rw [k2,if_pos (show (fun y=>B0 y (q0,q1,q2,())) (l.getD i (0,[0,0,0,0,0,0],[],()))=true from c)]
    · rw [k2,if_neg (show ¬ (fun y=>B0 y (q0,q1,q2,())) (l.getD i (0,[0,0,0,0,0,0],[],()))=true from fun h9=>Bool.noConfusion (Eq.trans (Eq.symm h9) c))]
  · rw [List.drop_eq_nil_of_le (by omega)] at k2
    show (((-1:Int),()):Int×Unit)=(idxOf (fun y=>B0 y (q0,q1,q2,())) l,())
    rw [k2]; rfl
def a84:t5:={ ps:=[.v (.d0 false E7),.r9 165 [E7]],rs:=[.bool],pre:=fun x=>a3o x.1 x.2.1.1,fn:=fun x=>(List.any (α:=n7) x.1 (fun y=>B0 y x.2.1.1),()),out:=fun _=>() }
noncomputable def a9t:Env:={ P:=Try.prog,tt:=tt,C9:=[(168,b2a)],res:=[Go.ResultVar.tmp 4],rs:=[Ty.bool],ps:=[PK.v (Ty.d0 false (Ty.pair (Ty.int IntKind.i64) (Ty.pair o7 (Ty.pair Ty.str Ty.unit)))),PK.r9 165 [Ty.pair (Ty.int IntKind.i64) (Ty.pair o7 (Ty.pair Ty.str Ty.unit))]],C7:=[],nt:=9 }
theorem a8w:x8 a9t:=C2 q9 ⟨b19,trivial⟩
theorem a8i:D3 a9t Try.f164:=⟨rfl,rfl⟩
theorem b8d (x0:List (Int×List Int×List UInt8×Unit)) (x1c0_1:Int) (x1c0_2_1:List Int) (x1c0_2_2_1:List UInt8):exec a9t 1000 [.code (d9 Try.prog 164)] (w7 a84.ps ((x0,((x1c0_1,x1c0_2_1,x1c0_2_2_1,()),()),()))) =
  .f9 (a3o x0 (x1c0_1,x1c0_2_1,x1c0_2_2_1,())) (.ret ((decide ((0:Int)≤idxOf (fun y=>B0 y (x1c0_1,x1c0_2_1,x1c0_2_2_1,())) x0),()))):=by kernel_rfl
theorem b0J:a84.Valid Try.prog 164:=by
  refine t5.s4 a8w rfl rfl Try.func164 (c:=d9 Try.prog 164) rfl rfl a8i rfl ?_
  rintro ⟨(l:List (n7)),⟨⟨(q0:Int),(q1:List Int),(q2:List UInt8),⟨⟩⟩,⟨⟩⟩,⟨⟩⟩ hp -
  refine l5 (n:=1000) a8w a8i ?_
  refine j8 (b8d l q0 q1 q2) ?_
  refine ⟨hp,fun _=>?_⟩
  show ((decide (0≤idxOf (fun y=>B0 y (q0,q1,q2,())) l),()):Bool×Unit)=(l.any (fun y=>B0 y (q0,q1,q2,())),())
  rw [a3x]
def a4Y (s:List Int) (m:n7):Prop:=0≤s.getD m.1.toNat 0∧s.getD m.1.toNat 0≤9223372036854775806
def cH2:t5:={ ps:=[.v E7,.rd a0L],rs:=[.bool],pre:=fun x=>a4Y x.2.1.2.1 x.1,fn:=fun x=>(E6 x.2.1.2.1 x.1,()),out:=fun _=>() }
noncomputable def EH2:Env:={ P:=Try.prog,tt:=tt,C9:=[(167,a75)],res:=[Go.ResultVar.tmp 3],rs:=[Ty.bool],ps:=[PK.v (Ty.pair (Ty.int IntKind.i64) (Ty.pair o7 (Ty.pair Ty.str Ty.unit))),PK.rd (Ty.pair (Ty.int IntKind.i64) (Ty.pair o7 (Ty.pair (Ty.d0 false (Ty.pair (Ty.int IntKind.i64) (Ty.pair o7 (Ty.pair Ty.str Ty.unit)))) Ty.unit)))],C7:=[],nt:=8 }
theorem b8h:x8 EH2:=C2 q9 ⟨a3j,trivial⟩
theorem b70:D3 EH2 Try.f169:=⟨rfl,rfl⟩
theorem c2o (x0_1:Int) (x0_2_1:List Int) (x0_2_2_1:List UInt8) (x1_1:Int) (x1_2_1:List Int) (x1_2_2_1:List (Int×List Int×List UInt8×Unit)):exec EH2 1000 [.code (d9 Try.prog 169)] (w7 cH2.ps (((x0_1,x0_2_1,x0_2_2_1,()),(x1_1,x1_2_1,x1_2_2_1,()),()))) =
  .f9 ((0:Int)≤List.getD x1_2_1 (Int.toNat x0_1) (0:Int)∧List.getD x1_2_1 (Int.toNat x0_1) (0:Int)≤(9223372036854775806:Int)) (.ret ((E6 x1_2_1 (x0_1,x0_2_1,x0_2_2_1,()),()))):=by kernel_rfl
theorem b7F:cH2.Valid Try.prog 169:=by
  refine t5.s4 b8h rfl rfl Try.func169 (c:=d9 Try.prog 169) rfl rfl b70 rfl ?_
  rintro ⟨⟨(f:Int),(a:List Int),(t:List UInt8),⟨⟩⟩,⟨(me:Int),(s:List Int),(h:List n7),⟨⟩⟩,⟨⟩⟩ hp -
  refine l5 (n:=1000) b8h b70 ?_
  refine j8 (c2o f a t me s h) ?_
  exact ⟨hp,fun _=>rfl⟩
def b18:t5:={ ps:=[.v (.d0 false E7),.r9 169 [a0L]],rs:=[I8],pre:=fun x=>∀ y∈(show List n7 from x.1),a4Y x.2.1.1.2.1 y,fn:=fun x=>(idxOf (E6 x.2.1.1.2.1) x.1,()),out:=fun _=>() }
noncomputable def a8q:Env:={ P:=Try.prog,tt:=tt,C9:=[(169,cH2)],res:=[Go.ResultVar.tmp 4],rs:=[Ty.int IntKind.i64],ps:=[PK.v (Ty.d0 false (Ty.pair (Ty.int IntKind.i64) (Ty.pair o7 (Ty.pair Ty.str Ty.unit)))),PK.r9 169 [Ty.pair (Ty.int IntKind.i64) (Ty.pair o7 (Ty.pair (Ty.d0 false (Ty.pair (Ty.int IntKind.i64) (Ty.pair o7 (Ty.pair Ty.str Ty.unit)))) Ty.unit))]],C7:=[(2,[(0,none),(1,none),(7,none),(8,none)])],nt:=19 }
theorem a5F:x8 a8q:=C2 q9 ⟨b7F,trivial⟩
theorem a5x:D3 a8q Try.f168:=⟨rfl,rfl⟩
theorem b9s (x0:List (Int×List Int×List UInt8×Unit)) (x1c0_1:Int) (x1c0_2_1:List Int) (x1c0_2_2_1:List (Int×List Int×List UInt8×Unit)):exec a8q 1000 [.code (d9 Try.prog 168)] (w7 b18.ps ((x0,((x1c0_1,x1c0_2_1,x1c0_2_2_1,()),()),()))) =
  .cut (j7 (d9 Try.prog 168) 2).1 (j7 (d9 Try.prog 168) 2).2 (St.mk [(0,AV.val (Ty.d0 false (Ty.pair (Ty.int IntKind.i64) (Ty.pair o7 (Ty.pair Ty.str Ty.unit)))) x0),(1,AV.r9 169 (AV.cons (AV.I5 (Ty.pair (Ty.int IntKind.i64) (Ty.pair o7 (Ty.pair (Ty.d0 false (Ty.pair (Ty.int IntKind.i64) (Ty.pair o7 (Ty.pair Ty.str Ty.unit)))) Ty.unit))) (x1c0_1,x1c0_2_1,x1c0_2_2_1,())) AV.nil)),(7,AV.val (Ty.int IntKind.i64) (↑(List.length x0):Int)),(8,AV.val (Ty.int IntKind.i64) (0:Int))] []):=by kernel_rfl
def b0p (v0:List (Int×List Int×List UInt8×Unit)) (v1a_1:Int) (v1a_2_1:List Int) (v1a_2_2_1:List (Int×List Int×List UInt8×Unit)) (v7:Int) (v8:Int):St:=St.mk [(0,AV.val (Ty.d0 false (Ty.pair (Ty.int IntKind.i64) (Ty.pair o7 (Ty.pair Ty.str Ty.unit)))) v0),(1,AV.r9 169 (AV.cons (AV.I5 (Ty.pair (Ty.int IntKind.i64) (Ty.pair o7 (Ty.pair (Ty.d0 false (Ty.pair (Ty.int IntKind.i64) (Ty.pair o7 (Ty.pair Ty.str Ty.unit)))) Ty.unit))) (v1a_1,v1a_2_1,v1a_2_2_1,())) AV.nil)),(7,AV.val (Ty.int IntKind.i64) v7),(8,AV.val (Ty.int IntKind.i64) v8)] []
theorem b77 (v0:List (Int×List Int×List UInt8×Unit)) (v1a_1:Int) (v1a_2_1:List Int) (v1a_2_2_1:List (Int×List Int×List UInt8×Unit)) (v7:Int) (v8:Int):exec a8q 1000 (.code (j7 (d9 Try.prog 168) 2).1::.inLoop (j7 (d9 Try.prog 168) 2).1::(j7 (d9 Try.prog 168) 2).2) (b0p v0 v1a_1 v1a_2_1 v1a_2_2_1 v7 v8) =
  cond (decide (v8<v7)) (.f9 ((0:Int)≤v8∧v8<(↑(List.length v0):Int)) (.f9 (a4Y v1a_2_1 (List.getD v0 (Int.toNat v8) ((0:Int),[(0:Int),(0:Int),(0:Int),(0:Int),(0:Int),(0:Int)],[],()))) (cond (E6 v1a_2_1 (List.getD v0 (Int.toNat v8) ((0:Int),[(0:Int),(0:Int),(0:Int),(0:Int),(0:Int),(0:Int)],[],()))) (.ret ((v8,()))) (.f9 (C1 IntKind.i64 (v8+(1:Int))) (.cut (j7 (d9 Try.prog 168) 2).1 (j7 (d9 Try.prog 168) 2).2 (St.mk [(0,AV.val (Ty.d0 false (Ty.pair (Ty.int IntKind.i64) (Ty.pair o7 (Ty.pair Ty.str Ty.unit)))) v0),(1,AV.r9 169 (AV.cons (AV.I5 (Ty.pair (Ty.int IntKind.i64) (Ty.pair o7 (Ty.pair (Ty.d0 false (Ty.pair (Ty.int IntKind.i64) (Ty.pair o7 (Ty.pair Ty.str Ty.unit)))) Ty.unit))) (v1a_1,v1a_2_1,v1a_2_2_1,())) AV.nil)),(7,AV.val (Ty.int IntKind.i64) v7),(8,AV.val (Ty.int IntKind.i64) (v8+(1:Int)))] [])))))) (.ret (((-1:Int),()))):=by kernel_rfl
theorem b17:b18.Valid Try.prog 168:=by
  refine t5.s4 a5F rfl rfl Try.func168 (c:=d9 Try.prog 168) rfl rfl a5x rfl ?_
  rintro ⟨(l:List (n7)),⟨⟨(q0:Int),(q1:List Int),(q2:List n7),⟨⟩⟩,⟨⟩⟩,⟨⟩⟩ hp ⟨⟨hl,-⟩,-⟩
  have hl:l.length≤9223372036854775807:=hl
  have hp:∀ y∈l,a4Y q1 y:=hp
  refine l5 (n:=1000) a5F a5x ?_
  refine j8 (b9s l q0 q1 q2) ?_
  refine Reach.V1 a5F a5x (fun i:Nat=>b0p l q0 q1 q2 (l.length:Int) (i:Int)) (fun i=>i≤l.length∧idxOf (E6 q1) l=K6 (E6 q1) (l.drop i) i)
    (fun i=>l.length - i) 1000 (fun _=>⟨x7 rfl,x7 rfl⟩) ?_ 0 ⟨by omega,rfl⟩
  rintro i ⟨k1,k2⟩ - ih
  refine j8 (b77 ..) ?_
  simp only [p8,Tree.holds,true_and,true_implies,decide_eq_true_eq,decide_eq_false_iff_not,Bool.not_eq_true',Bool.not_eq_false',Int.toNat_natCast,u6,List.length_set,List.length_cons,List.length_nil]
  refine ⟨fun h=>?_,fun h=>?_⟩
  · rw [X9 (show i<l.length by omega) (0,[0,0,0,0,0,0],[],()),K6] at k2
    refine ⟨by omega,fun _=>⟨hp _ (P4 (by omega)),fun _=>⟨fun c=>?_,fun c=>⟨by omega,fun _=>ih (i+1) ⟨by omega,?_⟩ (by omega)⟩⟩⟩⟩
    · show (((i:Int),()):Int×Unit)=(idxOf (E6 q1) l,())
      rw [k2,if_pos (show (E6 q1) (l.getD i (0,[0,0,0,0,0,0],[],()))=true from c)]
    · rw [k2,if_neg (show ¬ (E6 q1) (l.getD i (0,[0,0,0,0,0,0],[],()))=true from fun h9=>Bool.noConfusion (Eq.trans (Eq.symm h9) c))]
  · rw [List.drop_eq_nil_of_le (by omega)] at k2
    show (((-1:Int),()):Int×Unit)=(idxOf (E6 q1) l,())
    rw [k2]; rfl
def N8 (s:List Int) (m:n7):Bool:=decide (m.2.1.getD m.1.toNat 0≤s.getD m.1.toNat 0)
def cH3:t5:={ ps:=[.v E7,.rd a9w],rs:=[.bool],pre:=fun x=>LE.le (α:=Int) 0 x.1.1∧LE.le (α:=Int) x.1.1 5,fn:=fun x=>(N8 x.2.1.2.1 x.1,()),out:=fun _=>() }
noncomputable def EH3:Env:={ P:=Try.prog,tt:=tt,C9:=[],res:=[Go.ResultVar.tmp 3],rs:=[Ty.bool],ps:=[PK.v (Ty.pair (Ty.int IntKind.i64) (Ty.pair o7 (Ty.pair Ty.str Ty.unit))),PK.rd (Ty.pair (Ty.int IntKind.i64) (Ty.pair o7 (Ty.pair (Ty.hole (Ty.pair (Ty.int IntKind.i64) (Ty.pair o7 (Ty.pair Ty.str Ty.unit)))) Ty.unit)))],C7:=[],nt:=15 }
theorem b8g:x8 EH3:=C2 q9 trivial
theorem b7Z:D3 EH3 Try.f172:=⟨rfl,rfl⟩
theorem c2n (x0_1:Int) (x0_2_1:List Int) (x0_2_2_1:List UInt8) (x1_1:Int) (x1_2_1:List Int) (x1_2_2_1:List (Int×List Int×List UInt8×Unit)):exec EH3 1000 [.code (d9 Try.prog 172)] (w7 cH3.ps (((x0_1,x0_2_1,x0_2_2_1,()),(x1_1,x1_2_1,x1_2_2_1,()),()))) =
  .f9 ((0:Int)≤x0_1∧x0_1<(↑6:Int)) (.f9 ((0:Int)≤x0_1∧x0_1<(↑6:Int)) (.ret ((decide (List.getD x0_2_1 (Int.toNat x0_1) (0:Int)≤List.getD x1_2_1 (Int.toNat x0_1) (0:Int)),())))):=by kernel_rfl
theorem a90:cH3.Valid Try.prog 172:=by
  refine t5.s4 b8g rfl rfl Try.func172 (c:=d9 Try.prog 172) rfl rfl b7Z rfl ?_
  rintro ⟨⟨(f:Int),(a:List Int),(t:List UInt8),⟨⟩⟩,⟨(me:Int),(s:List Int),(h:List n7),⟨⟩⟩,⟨⟩⟩ ⟨(h1:0≤f),(h2:f≤5)⟩ -
  refine l5 (n:=1000) b8g b7Z ?_
  refine j8 (c2n f a t me s h) ?_
  simp only [p8,Tree.holds,true_and,true_implies,decide_eq_true_eq,decide_eq_false_iff_not,Bool.not_eq_true',Bool.not_eq_false',Int.toNat_natCast,u6,List.length_set,List.length_cons,List.length_nil]
  exact ⟨by omega,fun _=>⟨by omega,fun _=>rfl⟩⟩
def b1Z:t5:={ ps:=[.v (.d0 false E7),.r9 172 [a9w]],rs:=[I8],pre:=fun x=>∀ y∈(show List n7 from x.1),InR y,fn:=fun x=>(idxOf (N8 x.2.1.1.2.1) x.1,()),out:=fun _=>() }
noncomputable def a8p:Env:={ P:=Try.prog,tt:=tt,C9:=[(172,cH3)],res:=[Go.ResultVar.tmp 4],rs:=[Ty.int IntKind.i64],ps:=[PK.v (Ty.d0 false (Ty.pair (Ty.int IntKind.i64) (Ty.pair o7 (Ty.pair Ty.str Ty.unit)))),PK.r9 172 [Ty.pair (Ty.int IntKind.i64) (Ty.pair o7 (Ty.pair (Ty.hole (Ty.pair (Ty.int IntKind.i64) (Ty.pair o7 (Ty.pair Ty.str Ty.unit)))) Ty.unit))]],C7:=[(2,[(0,none),(1,none),(7,none),(8,none)])],nt:=19 }
theorem a5E:x8 a8p:=C2 q9 ⟨a90,trivial⟩
theorem a5w:D3 a8p Try.f168:=⟨rfl,rfl⟩
theorem b9r (x0:List (Int×List Int×List UInt8×Unit)) (x1c0_1:Int) (x1c0_2_1:List Int) (x1c0_2_2_1:List (Int×List Int×List UInt8×Unit)):exec a8p 1000 [.code (d9 Try.prog 168)] (w7 b1Z.ps ((x0,((x1c0_1,x1c0_2_1,x1c0_2_2_1,()),()),()))) =
  .cut (j7 (d9 Try.prog 168) 2).1 (j7 (d9 Try.prog 168) 2).2 (St.mk [(0,AV.val (Ty.d0 false (Ty.pair (Ty.int IntKind.i64) (Ty.pair o7 (Ty.pair Ty.str Ty.unit)))) x0),(1,AV.r9 172 (AV.cons (AV.I5 (Ty.pair (Ty.int IntKind.i64) (Ty.pair o7 (Ty.pair (Ty.hole (Ty.pair (Ty.int IntKind.i64) (Ty.pair o7 (Ty.pair Ty.str Ty.unit)))) Ty.unit))) (x1c0_1,x1c0_2_1,x1c0_2_2_1,())) AV.nil)),(7,AV.val (Ty.int IntKind.i64) (↑(List.length x0):Int)),(8,AV.val (Ty.int IntKind.i64) (0:Int))] []):=by kernel_rfl
def b0o (v0:List (Int×List Int×List UInt8×Unit)) (v1a_1:Int) (v1a_2_1:List Int) (v1a_2_2_1:List (Int×List Int×List UInt8×Unit)) (v7:Int) (v8:Int):St:=St.mk [(0,AV.val (Ty.d0 false (Ty.pair (Ty.int IntKind.i64) (Ty.pair o7 (Ty.pair Ty.str Ty.unit)))) v0),(1,AV.r9 172 (AV.cons (AV.I5 (Ty.pair (Ty.int IntKind.i64) (Ty.pair o7 (Ty.pair (Ty.hole (Ty.pair (Ty.int IntKind.i64) (Ty.pair o7 (Ty.pair Ty.str Ty.unit)))) Ty.unit))) (v1a_1,v1a_2_1,v1a_2_2_1,())) AV.nil)),(7,AV.val (Ty.int IntKind.i64) v7),(8,AV.val (Ty.int IntKind.i64) v8)] []
theorem b76 (v0:List (Int×List Int×List UInt8×Unit)) (v1a_1:Int) (v1a_2_1:List Int) (v1a_2_2_1:List (Int×List Int×List UInt8×Unit)) (v7:Int) (v8:Int):exec a8p 1000 (.code (j7 (d9 Try.prog 168) 2).1::.inLoop (j7 (d9 Try.prog 168) 2).1::(j7 (d9 Try.prog 168) 2).2) (b0o v0 v1a_1 v1a_2_1 v1a_2_2_1 v7 v8) =
  cond (decide (v8<v7)) (.f9 ((0:Int)≤v8∧v8<(↑(List.length v0):Int)) (.f9 ((0:Int)≤Prod.fst (List.getD v0 (Int.toNat v8) ((0:Int),[(0:Int),(0:Int),(0:Int),(0:Int),(0:Int),(0:Int)],[],()))∧Prod.fst (List.getD v0 (Int.toNat v8) ((0:Int),[(0:Int),(0:Int),(0:Int),(0:Int),(0:Int),(0:Int)],[],()))≤(5:Int)) (cond (N8 v1a_2_1 (List.getD v0 (Int.toNat v8) ((0:Int),[(0:Int),(0:Int),(0:Int),(0:Int),(0:Int),(0:Int)],[],()))) (.ret ((v8,()))) (.f9 (C1 IntKind.i64 (v8+(1:Int))) (.cut (j7 (d9 Try.prog 168) 2).1 (j7 (d9 Try.prog 168) 2).2 (St.mk [(0,AV.val (Ty.d0 false (Ty.pair (Ty.int IntKind.i64) (Ty.pair o7 (Ty.pair Ty.str Ty.unit)))) v0),(1,AV.r9 172 (AV.cons (AV.I5 (Ty.pair (Ty.int IntKind.i64) (Ty.pair o7 (Ty.pair (Ty.hole (Ty.pair (Ty.int IntKind.i64) (Ty.pair o7 (Ty.pair Ty.str Ty.unit)))) Ty.unit))) (v1a_1,v1a_2_1,v1a_2_2_1,())) AV.nil)),(7,AV.val (Ty.int IntKind.i64) v7),(8,AV.val (Ty.int IntKind.i64) (v8+(1:Int)))] [])))))) (.ret (((-1:Int),()))):=by kernel_rfl
theorem b1Y:b1Z.Valid Try.prog 168:=by
  refine t5.s4 a5E rfl rfl Try.func168 (c:=d9 Try.prog 168) rfl rfl a5w rfl ?_
  rintro ⟨(l:List (n7)),⟨⟨(q0:Int),(q1:List Int),(q2:List n7),⟨⟩⟩,⟨⟩⟩,⟨⟩⟩ hp ⟨⟨hl,-⟩,-⟩
  have hl:l.length≤9223372036854775807:=hl
  have hp:∀ y∈l,InR y:=hp
  refine l5 (n:=1000) a5E a5w ?_
  refine j8 (b9r l q0 q1 q2) ?_
  refine Reach.V1 a5E a5w (fun i:Nat=>b0o l q0 q1 q2 (l.length:Int) (i:Int)) (fun i=>i≤l.length∧idxOf (N8 q1) l=K6 (N8 q1) (l.drop i) i)
    (fun i=>l.length - i) 1000 (fun _=>⟨x7 rfl,x7 rfl⟩) ?_ 0 ⟨by omega,rfl⟩
  rintro i ⟨k1,k2⟩ - ih
  refine j8 (b76 ..) ?_
  simp only [p8,Tree.holds,true_and,true_implies,decide_eq_true_eq,decide_eq_false_iff_not,Bool.not_eq_true',Bool.not_eq_false',Int.toNat_natCast,u6,List.length_set,List.length_cons,List.length_nil]
  refine ⟨fun h=>?_,fun h=>?_⟩
  · rw [X9 (show i<l.length by omega) (0,[0,0,0,0,0,0],[],()),K6] at k2
    refine ⟨by omega,fun _=>⟨hp _ (P4 (by omega)),fun _=>⟨fun c=>?_,fun c=>⟨by omega,fun _=>ih (i+1) ⟨by omega,?_⟩ (by omega)⟩⟩⟩⟩
    · show (((i:Int),()):Int×Unit)=(idxOf (N8 q1) l,())
      rw [k2,if_pos (show (N8 q1) (l.getD i (0,[0,0,0,0,0,0],[],()))=true from c)]
    · rw [k2,if_neg (show ¬ (N8 q1) (l.getD i (0,[0,0,0,0,0,0],[],()))=true from fun h9=>Bool.noConfusion (Eq.trans (Eq.symm h9) c))]
  · rw [List.drop_eq_nil_of_le (by omega)] at k2
    show (((-1:Int),()):Int×Unit)=(idxOf (N8 q1) l,())
    rw [k2]; rfl
def b2d:t5:={ ps:=[.own (.d0 true E7),.r9 172 [a9w]],rs:=[.d0 true E7],pre:=fun x=>∀ y∈(show List n7 from x.1),InR y,fn:=fun x=>(List.filter (α:=n7) (fun y=>!(N8 x.2.1.1.2.1) y) x.1,()),out:=fun _=>() }
noncomputable def a8t:Env:={ P:=Try.prog,tt:=tt,C9:=[(168,b1Z),(172,cH3)],res:=[Go.ResultVar.tmp 4],rs:=[Ty.d0 true (Ty.pair (Ty.int IntKind.i64) (Ty.pair o7 (Ty.pair Ty.str Ty.unit)))],ps:=[PK.own (Ty.d0 true (Ty.pair (Ty.int IntKind.i64) (Ty.pair o7 (Ty.pair Ty.str Ty.unit)))),PK.r9 172 [Ty.pair (Ty.int IntKind.i64) (Ty.pair o7 (Ty.pair (Ty.hole (Ty.pair (Ty.int IntKind.i64) (Ty.pair o7 (Ty.pair Ty.str Ty.unit)))) Ty.unit))]],C7:=[(5,[(0,some (Ty.d0 true (Ty.pair (Ty.int IntKind.i64) (Ty.pair o7 (Ty.pair Ty.str Ty.unit))))),(1,none),(5,none),(6,none)])],nt:=42 }
theorem a5H:x8 a8t:=C2 q9 ⟨b1Y,a90,trivial⟩
theorem a5z:D3 a8t Try.f171:=⟨rfl,rfl⟩
theorem b9w (x0:List (Int×List Int×List UInt8×Unit)) (x1c0_1:Int) (x1c0_2_1:List Int) (x1c0_2_2_1:List (Int×List Int×List UInt8×Unit)):exec a8t 1000 [.code (d9 Try.prog 171)] (w7 b2d.ps ((x0,((x1c0_1,x1c0_2_1,x1c0_2_2_1,()),()),()))) =
  .f9 (∀ (y:n7),y∈x0→InR y) (cond (decide (idxOf (N8 x1c0_2_1) x0=(-1:Int))) (.ret ((x0,()))) (.f9 (C1 IntKind.i64 (idxOf (N8 x1c0_2_1) x0+(1:Int))) (.cut (j7 (d9 Try.prog 171) 5).1 (j7 (d9 Try.prog 171) 5).2 (St.mk [(0,AV.at_ 1000000 []),(1,AV.r9 172 (AV.cons (AV.I5 (Ty.pair (Ty.int IntKind.i64) (Ty.pair o7 (Ty.pair (Ty.hole (Ty.pair (Ty.int IntKind.i64) (Ty.pair o7 (Ty.pair Ty.str Ty.unit)))) Ty.unit))) (x1c0_1,x1c0_2_1,x1c0_2_2_1,())) AV.nil)),(5,AV.val (Ty.int IntKind.i64) (idxOf (N8 x1c0_2_1) x0)),(6,AV.val (Ty.int IntKind.i64) (idxOf (N8 x1c0_2_1) x0+(1:Int)))] [(1000000,i7.own (Ty.d0 true (Ty.pair (Ty.int IntKind.i64) (Ty.pair o7 (Ty.pair Ty.str Ty.unit)))) x0)])))):=by kernel_rfl
def b0s (v1a_1:Int) (v1a_2_1:List Int) (v1a_2_2_1:List (Int×List Int×List UInt8×Unit)) (v5:Int) (v6:Int) (o1000000:List (Int×List Int×List UInt8×Unit)):St:=St.mk [(0,AV.at_ 1000000 []),(1,AV.r9 172 (AV.cons (AV.I5 (Ty.pair (Ty.int IntKind.i64) (Ty.pair o7 (Ty.pair (Ty.hole (Ty.pair (Ty.int IntKind.i64) (Ty.pair o7 (Ty.pair Ty.str Ty.unit)))) Ty.unit))) (v1a_1,v1a_2_1,v1a_2_2_1,())) AV.nil)),(5,AV.val (Ty.int IntKind.i64) v5),(6,AV.val (Ty.int IntKind.i64) v6)] [(1000000,i7.own (Ty.d0 true (Ty.pair (Ty.int IntKind.i64) (Ty.pair o7 (Ty.pair Ty.str Ty.unit)))) o1000000)]
theorem b8a (v1a_1:Int) (v1a_2_1:List Int) (v1a_2_2_1:List (Int×List Int×List UInt8×Unit)) (v5:Int) (v6:Int) (o1000000:List (Int×List Int×List UInt8×Unit)):exec a8t 1000 (.code (j7 (d9 Try.prog 171) 5).1::.inLoop (j7 (d9 Try.prog 171) 5).1::(j7 (d9 Try.prog 171) 5).2) (b0s v1a_1 v1a_2_1 v1a_2_2_1 v5 v6 o1000000) =
  cond (decide (v6<(↑(List.length o1000000):Int))) (.f9 ((0:Int)≤v6∧v6<(↑(List.length o1000000):Int)) (.f9 ((0:Int)≤Prod.fst (List.getD o1000000 (Int.toNat v6) dM)∧Prod.fst (List.getD o1000000 (Int.toNat v6) dM)≤(5:Int)) (cond (!N8 v1a_2_1 (List.getD o1000000 (Int.toNat v6) dM)) (.f9 ((0:Int)≤v5∧v5<(↑(List.length o1000000):Int)) (.f9 (C1 IntKind.i64 (v5+(1:Int))) (.f9 (C1 IntKind.i64 (v6+(1:Int))) (.cut (j7 (d9 Try.prog 171) 5).1 (j7 (d9 Try.prog 171) 5).2 (St.mk [(0,AV.at_ 1000000 []),(1,AV.r9 172 (AV.cons (AV.I5 (Ty.pair (Ty.int IntKind.i64) (Ty.pair o7 (Ty.pair (Ty.hole (Ty.pair (Ty.int IntKind.i64) (Ty.pair o7 (Ty.pair Ty.str Ty.unit)))) Ty.unit))) (v1a_1,v1a_2_1,v1a_2_2_1,())) AV.nil)),(5,AV.val (Ty.int IntKind.i64) (v5+(1:Int))),(6,AV.val (Ty.int IntKind.i64) (v6+(1:Int)))] [(1000000,i7.own (Ty.d0 true (Ty.pair (Ty.int IntKind.i64) (Ty.pair o7 (Ty.pair Ty.str Ty.unit)))) (List.set o1000000 (Int.toNat v5) (List.getD o1000000 (Int.toNat v6) dM)))]))))) (.f9 (C1 IntKind.i64 (v6+(1:Int))) (.cut (j7 (d9 Try.prog 171) 5).1 (j7 (d9 Try.prog 171) 5).2 (St.mk [(0,AV.at_ 1000000 []),(1,AV.r9 172 (AV.cons (AV.I5 (Ty.pair (Ty.int IntKind.i64) (Ty.pair o7 (Ty.pair (Ty.hole (Ty.pair (Ty.int IntKind.i64) (Ty.pair o7 (Ty.pair Ty.str Ty.unit)))) Ty.unit))) (v1a_1,v1a_2_1,v1a_2_2_1,())) AV.nil)),(5,AV.val (Ty.int IntKind.i64) v5),(6,AV.val (Ty.int IntKind.i64) (v6+(1:Int)))] [(1000000,i7.own (Ty.d0 true (Ty.pair (Ty.int IntKind.i64) (Ty.pair o7 (Ty.pair Ty.str Ty.unit)))) o1000000)])))))) (.f9 ((0:Int)≤v5∧v5≤(↑(List.length o1000000):Int)∧(↑(List.length o1000000):Int)≤(↑(List.length o1000000):Int)) (.f9 ((0:Int)≤(0:Int)∧(0:Int)≤v5∧v5≤(↑(List.length (List.take (Int.toNat v5) o1000000++List.replicate (Int.toNat ((↑(List.length o1000000):Int) - v5)) dM++List.drop (Int.toNat v5+List.length (List.replicate (Int.toNat ((↑(List.length o1000000):Int) - v5)) dM)) o1000000)):Int)) (.ret ((s5 (0:Int) v5 (List.take (Int.toNat v5) o1000000++List.replicate (Int.toNat ((↑(List.length o1000000):Int) - v5)) dM++List.drop (Int.toNat v5+List.length (List.replicate (Int.toNat ((↑(List.length o1000000):Int) - v5)) dM)) o1000000),()))))):=by kernel_rfl
theorem b2c:b2d.Valid Try.prog 171:=by
  refine t5.s4 a5H rfl rfl Try.func171 (c:=d9 Try.prog 171) rfl rfl a5z rfl ?_
  rintro ⟨(l:List (n7)),⟨⟨(q0:Int),(q1:List Int),(q2:List n7),⟨⟩⟩,⟨⟩⟩,⟨⟩⟩ hp ⟨⟨hl,-⟩,-⟩
  have hl:l.length≤9223372036854775807:=hl
  have hp:∀ y∈l,InR y:=hp
  refine l5 (n:=1000) a5H a5z ?_
  refine j8 (b9w l q0 q1 q2) ?_
  simp only [p8,Tree.holds,true_and,true_implies,decide_eq_true_eq,decide_eq_false_iff_not,Bool.not_eq_true',Bool.not_eq_false',Int.toNat_natCast,u6,List.length_set,List.length_cons,List.length_nil]
  refine ⟨hp,fun _=>⟨fun c=>?_,fun c=>?_⟩⟩
  · show ((l,()):List (n7)×Unit)=(List.filter (fun y=>!(N8 q1) y) l,())
    rw [a7T (b1t c)]
  obtain ⟨k,hk,hkl,hk0⟩:=Q6.start ((0,[0,0,0,0,0,0],[],())) c
  rw [hk]
  refine ⟨by omega,fun _=>?_⟩
  refine Reach.V1 a5H a5z (fun s:List (n7)×Nat×Nat=>b0s q0 q1 q2 (s.2.1:Int) (s.2.2:Int) s.1) (fun s=>Q6 (N8 q1) l s.1 s.2.1 s.2.2) (fun s=>l.length - s.2.2) 1000 (fun _=>⟨x7 rfl,x7 rfl⟩) ?_ (l,k,k+1) hk0
  rintro ⟨m,i,j⟩ h0 - ih
  have h0:Q6 (N8 q1) l m i j:=h0
  refine j8 (b8a ..) ?_
  have q1:=h0.len
  have q2:=h0.lt
  have q3:=h0.le
  simp only [p8,Tree.holds,true_and,true_implies,decide_eq_true_eq,decide_eq_false_iff_not,Bool.not_eq_true',Bool.not_eq_false',Int.toNat_natCast,u6,List.length_set,List.length_cons,List.length_nil]
  refine ⟨fun c1=>⟨by omega,fun _=>⟨hp _ (by rw [h0.at_]<;>exact P4 (by omega)),fun _=>⟨fun c2=>⟨by omega,fun _=>⟨by omega,fun _=>⟨by omega,fun _=>ih (m.set i (m.getD j ((0,[0,0,0,0,0,0],[],()))),i+1,j+1) (h0.a3h (by omega) c2) (by show l.length - (j+1)<l.length - j; omega)⟩⟩⟩,fun c2=>⟨by omega,fun _=>ih (m,i,j+1) (h0.skip (by omega) c2) (by show l.length - (j+1)<l.length - j; omega)⟩⟩⟩⟩,fun c1=>⟨by omega,fun _=>⟨?_,fun _=>?_⟩⟩⟩
  · simp only [List.length_append,List.length_take,List.length_drop,List.length_replicate]; omega
  · exact congrArg (fun y=>(y,())) (h0.fin (by omega))
def b5K:t5:={ ps:=[.own (.d0 true E7),.v I8,.v I8],rs:=[.d0 true E7],pre:=fun x=>LE.le (α:=Int) 0 x.2.1∧LE.le (α:=Int) x.2.1 x.2.2.1∧LE.le (α:=Int) x.2.2.1 (List.length (α:=n7) x.1),fn:=fun x=>(List.take (α:=n7) (Int.toNat x.2.1) x.1++List.drop (α:=n7) (Int.toNat x.2.2.1) x.1,()),out:=fun _=>() }
noncomputable def b6o:Env:={ P:=Try.prog,tt:=tt,C9:=[],res:=[Go.ResultVar.tmp 6],rs:=[Ty.d0 true (Ty.pair (Ty.int IntKind.i64) (Ty.pair o7 (Ty.pair Ty.str Ty.unit)))],ps:=[PK.own (Ty.d0 true (Ty.pair (Ty.int IntKind.i64) (Ty.pair o7 (Ty.pair Ty.str Ty.unit)))),PK.v (Ty.int IntKind.i64),PK.v (Ty.int IntKind.i64)],C7:=[],nt:=33 }
theorem b2U:x8 b6o:=C2 q9 trivial
theorem b2E:D3 b6o Try.f170:=⟨rfl,rfl⟩
theorem c0O (x0:List (Int×List Int×List UInt8×Unit)) (x1:Int) (x2:Int):exec b6o 1000 [.code (d9 Try.prog 170)] (w7 b5K.ps ((x0,x1,x2,()))) =
  .f9 ((0:Int)≤x1∧x1≤x2∧x2≤(↑(List.length x0):Int)∧(↑(List.length x0):Int)≤(↑(List.length x0):Int)) (cond (decide (x1=x2)) (.ret ((x0,()))) (.f9 ((0:Int)≤(0:Int)∧(0:Int)≤x1∧x1≤(↑(List.length x0):Int)) (.f9 ((0:Int)≤x2∧x2≤(↑(List.length x0):Int)∧(↑(List.length x0):Int)≤(↑(List.length x0):Int)) (.f9 (x1+(↑(List.length (s5 x2 (↑(List.length x0):Int) x0)):Int)≤(↑(List.length x0):Int)) (.f9 ((0:Int)≤x1+(↑(List.length (s5 x2 (↑(List.length x0):Int) x0)):Int) - (0:Int)∧x1+(↑(List.length (s5 x2 (↑(List.length x0):Int) x0)):Int) - (0:Int)≤(↑(List.length x0):Int)∧(0:Int)+(↑(List.length x0):Int)≤(↑(List.length (List.take (Int.toNat x1) x0++s5 x2 (↑(List.length x0):Int) x0++List.drop (Int.toNat x1+List.length (s5 x2 (↑(List.length x0):Int) x0)) x0)):Int)) (.ret ((s5 (0:Int) (x1+(↑(List.length (s5 x2 (↑(List.length x0):Int) x0)):Int)) (List.take (Int.toNat ((0:Int)+(x1+(↑(List.length (s5 x2 (↑(List.length x0):Int) x0)):Int) - (0:Int)))) (List.take (Int.toNat x1) x0++s5 x2 (↑(List.length x0):Int) x0++List.drop (Int.toNat x1+List.length (s5 x2 (↑(List.length x0):Int) x0)) x0)++List.replicate (Int.toNat ((0:Int)+(↑(List.length x0):Int) - ((0:Int)+(x1+(↑(List.length (s5 x2 (↑(List.length x0):Int) x0)):Int) - (0:Int))))) dM++List.drop (Int.toNat ((0:Int)+(x1+(↑(List.length (s5 x2 (↑(List.length x0):Int) x0)):Int) - (0:Int)))+List.length (List.replicate (Int.toNat ((0:Int)+(↑(List.length x0):Int) - ((0:Int)+(x1+(↑(List.length (s5 x2 (↑(List.length x0):Int) x0)):Int) - (0:Int))))) dM)) (List.take (Int.toNat x1) x0++s5 x2 (↑(List.length x0):Int) x0++List.drop (Int.toNat x1+List.length (s5 x2 (↑(List.length x0):Int) x0)) x0)),())))))))):=by kernel_rfl
theorem b3B:b5K.Valid Try.prog 170:=by
  refine t5.s4 b2U rfl rfl Try.func170 (c:=d9 Try.prog 170) rfl rfl b2E rfl ?_
  rintro ⟨(l:List (n7)),(i:Int),(j:Int),⟨⟩⟩ ⟨(h0:0≤i),(h1:i≤j),(h2:j≤(l.length:Int))⟩ -
  refine l5 (n:=1000) b2U b2E ?_
  refine j8 (c0O l i j) ?_
  simp only [p8,Tree.holds,true_and,true_implies,decide_eq_true_eq,decide_eq_false_iff_not,Bool.not_eq_true',Bool.not_eq_false',Int.toNat_natCast,u6,List.length_set,List.length_cons,List.length_nil]
  have hc:=b4z h0 h1 h2 (l:=l)
  have hm:=a8Z h0 h1 h2 (l:=l)
  refine ⟨⟨h0,h1,h2,Int.le_refl _⟩,fun _=>⟨fun e=>?_,fun e=>⟨by omega,fun _=>⟨by omega,fun _=>⟨by omega,fun _=>⟨by omega,fun _=>?_⟩⟩⟩⟩⟩⟩
  · subst e
    show ((l,()):List (n7)×Unit)=(l.take i.toNat++l.drop i.toNat,())
    rw [List.take_append_drop]
  · exact congrArg (fun y=>(y,())) (c0v h0 h1 h2 (l:=l))
def c0:L9:=(0,[0,0,0,0,0,0],[],())
def U1:Nat→List Int→List n7→n7→List n7→List Int×List n7×List n7
  | 0,s,h,_,l=>(s,h,l)
  | f+1,s,h,m,l =>
    if idxOf (E6 (s.set m.1.toNat (s.getD m.1.toNat 0+1))) h<0 then (s.set m.1.toNat (s.getD m.1.toNat 0+1),h,l++[m])
    else U1 f (s.set m.1.toNat (s.getD m.1.toNat 0+1)) (h.take (idxOf (E6 (s.set m.1.toNat (s.getD m.1.toNat 0+1))) h).toNat++h.drop (idxOf (E6 (s.set m.1.toNat (s.getD m.1.toNat 0+1))) h+1).toNat) (h.getD (idxOf (E6 (s.set m.1.toNat (s.getD m.1.toNat 0+1))) h).toNat I6) (l++[m])
theorem b8X {s:List Int} {m:n7}:E6 s m=true↔∀ p:Nat,p<6→((p:Int)=m.1→m.2.1.getD p 0=s.getD p 0+1)∧((p:Int)≠m.1→m.2.1.getD p 0≤s.getD p 0):=by
  rw [E6,Bool.not_eq_true',a2u]
  refine forall_congr' (fun p=>forall_congr' (fun hp=>?_))
  rw [a80]
  by_cases e:(p:Int)=m.1
  · rw [if_pos e]
    constructor
    · intro h; exact ⟨fun _=>by simpa using h,fun h2=>absurd e h2⟩
    · intro h; exact decide_eq_false (by simpa using h.1 e)
  · rw [if_neg e]
    constructor
    · intro h; exact ⟨fun h2=>absurd h2 e,fun _=>by simpa using h⟩
    · intro h; exact decide_eq_false (by have:=h.2 e; omega)
theorem b8s {x m:n7}:B0 x m=false↔(x.1=m.1→x.2.1.getD x.1.toNat 0≠m.2.1.getD m.1.toNat 0):=by
  rw [B0,Bool.and_eq_false_iff]
  constructor
  · rintro (h|h) e
    · exact absurd e (of_decide_eq_false h)
    · exact of_decide_eq_false h
  · intro h
    by_cases e:x.1=m.1
    · exact .inr (decide_eq_false (h e))
    · exact .inl (decide_eq_false e)
def U6 (s:List Int) (m:n7):List Int:=s.set m.1.toNat (s.getD m.1.toNat 0+1)
theorem a62 {s:List Int} {m:n7} (hs:s.length=6) (hm:InR m) (i:Nat):(U6 s m).getD i 0=s.getD i 0+(if i=m.1.toNat then 1 else 0):=by
  rw [U6,U2 (by have:=hm.1; have:=hm.2; omega)]
  split
  · rename_i e; rw [e]
  · omega
structure a2T (s:List Int) (h:List n7) (m:n7):Prop where
  len:s.length=6
  nn:∀ i,0≤s.getD i 0
  mok:formed m=true∧RM m
  del:E6 s m=true
  p9:∀ x∈h,formed x=true∧RM x∧s.getD x.1.toNat 0<x.2.1.getD x.1.toNat 0∧B0 x m=false
  dis:h.Pairwise (fun x y=>B0 x y=false∧B0 y x=false)
theorem a2T.num {s:List Int} {h:List n7} {m:n7} (H:a2T s h m):m.2.1.getD m.1.toNat 0=s.getD m.1.toNat 0+1:=by
  have hm:=S9 H.mok.1
  have h1:=hm.1
  have h2:=hm.2
  exact (b8X.1 H.del m.1.toNat (by omega)).1 (by omega)
theorem a2T.b94 {s:List Int} {h:List n7} {m:n7} (H:a2T s h m) {x:n7} (hx:x∈h):(U6 s m).getD x.1.toNat 0<x.2.1.getD x.1.toNat 0:=by
  obtain ⟨k1,k2,k3,k4⟩:=H.p9 x hx
  have hm:=S9 H.mok.1
  have hx:=S9 k1
  have h1:=hm.1
  have h2:=hx.1
  rw [a62 H.len hm]
  split
  · rename_i e
    have e2:x.1=m.1:=by omega
    have h4:=b8s.1 k4 e2
    have h5:=H.num
    rw [e2] at h4 k3 ⊢
    omega
  · omega
theorem a2T.next {s:List Int} {h:List n7} {m:n7} (H:a2T s h m) {k:Nat} (hk:k<h.length) (hd:E6 (U6 s m) (h.getD k I6)=true):a2T (U6 s m) (h.take k++h.drop (k+1)) (h.getD k I6):=by
  have hm:=S9 H.mok.1
  have hmem:=P4 (d:=I6) hk
  obtain ⟨k1,k2,k3,k4⟩:=H.p9 _ hmem
  have hp:=H.dis
  rw [← List.take_append_drop k h,X9 hk I6,List.pairwise_append] at hp
  obtain ⟨p1,p2,p3⟩:=hp
  rw [List.pairwise_cons] at p2
  refine ⟨by rw [U6,List.length_set]; exact H.len,fun i=>?_,⟨k1,k2⟩,hd,fun x hx=>?_,?_⟩
  · rw [a62 H.len hm]
    have:=H.nn i
    split<;>omega
  · have hx2:x∈h∧B0 x (h.getD k I6)=false:=by
      rcases List.mem_append.1 hx with h1|h1
      · exact ⟨List.mem_of_mem_take h1,(p3 x h1 _ (by simp)).1⟩
      · exact ⟨List.mem_of_mem_drop h1,(p2.1 x h1).2⟩
    obtain ⟨q1,q2,_,_⟩:=H.p9 x hx2.1
    exact ⟨q1,q2,H.b94 hx2.1,hx2.2⟩
  · exact List.pairwise_append.2 ⟨p1,p2.2,fun a ha b hb=>p3 a ha b (by simp [hb])⟩
structure COk (c:L9):Prop where
  me:0≤c.1∧c.1≤5
  nn:c.2.1.any neg=false
  len:c.2.2.1.length≤40
  row:∀ i,i<c.2.2.1.length→a4b c i=false
theorem a2j {c:L9}:M9 c=0↔COk c:=by
  rw [M9]
  constructor
  · intro h
    split at h; · omega
    rename_i a
    split at h; · omega
    rename_i b
    split at h; · omega
    rename_i d
    split at h; · omega
    rename_i e
    exact ⟨a0B.1 (by simpa using a),by simpa using b,by omega,a2u.1 (by simpa using e)⟩
  · rintro ⟨h1,h2,h3,h4⟩
    rw [if_neg (tnf (a0B.2 h1)),if_neg (by rw [h2]; simp),if_neg (by omega),if_neg (by rw [a2u.2 h4]; simp)]
theorem b1u {c:L9} {i:Nat}:a4b c i=false↔formed (c.2.2.1.getD i I6)=true∧(c.2.2.1.getD i I6).1≠c.1∧c.2.1.getD (c.2.2.1.getD i I6).1.toNat 0<(c.2.2.1.getD i I6).2.1.getD (c.2.2.1.getD i I6).1.toNat 0∧E6 c.2.1 (c.2.2.1.getD i I6)=false∧∀ y∈c.2.2.1.take i,B0 y (c.2.2.1.getD i I6)=false:=by
  rw [a4b]
  simp only [Bool.or_eq_false_iff,Bool.not_eq_false',decide_eq_false_iff_not,List.any_eq_false,Int.not_le]
  constructor
  · rintro ⟨⟨⟨⟨h1,h2⟩,h3⟩,h4⟩,h5⟩; exact ⟨h1,h2,h3,h4,fun y hy=>by simpa using h5 y hy⟩
  · rintro ⟨h1,h2,h3,h4,h5⟩; exact ⟨⟨⟨⟨h1,h2⟩,h3⟩,h4⟩,fun y hy=>by simpa using h5 y hy⟩
theorem COk.mem {c:L9} (h:COk c) {x:n7} (hx:x∈c.2.2.1):formed x=true∧x.1≠c.1∧c.2.1.getD x.1.toNat 0<x.2.1.getD x.1.toNat 0∧E6 c.2.1 x=false:=by
  obtain ⟨i,hi,rfl⟩:=a6Q (d:=I6) hx
  obtain ⟨h1,h2,h3,h4,_⟩:=b1u.1 (h.row i hi)
  exact ⟨h1,h2,h3,h4⟩
theorem b47 {x y:n7}:B0 x y=B0 y x:=by
  rw [B0,B0]
  congr 1
  · exact decide_eq_decide.2 ⟨Eq.symm,Eq.symm⟩
  · exact decide_eq_decide.2 ⟨Eq.symm,Eq.symm⟩
theorem COk.dis {c:L9} (h:COk c):c.2.2.1.Pairwise (fun x y=>B0 x y=false∧B0 y x=false):=by
  rw [List.pairwise_iff_getElem]
  intro i j hi hj hij
  have:=(b1u.1 (h.row j hj)).2.2.2.2 (c.2.2.1.getD i I6) (by
    rw [List.mem_take_iff_getElem]
    exact ⟨i,by omega,by rw [List.getD_eq_getElem?_getD,List.getElem?_eq_getElem hi]; rfl⟩)
  rw [List.getD_eq_getElem?_getD,List.getElem?_eq_getElem hi,List.getD_eq_getElem?_getD,List.getElem?_eq_getElem hj] at this
  have h2:B0 c.2.2.1[i] c.2.2.1[j]=false:=this
  exact ⟨h2,by rw [b47]; exact h2⟩
theorem COk.held {c:L9} {m:n7} (h:COk c) (hs:c.2.1.length=6) (hr:∀ x∈c.2.2.1,RM x) (hm:formed m=true) (hmr:RM m) (hd:E6 c.2.1 m=true) (hn:c.2.2.1.any (fun y=>B0 y m)=false):a2T c.2.1 c.2.2.1 m :=
  ⟨hs,a6a h.nn,⟨hm,hmr⟩,hd,fun x hx=>⟨(h.mem hx).1,hr x hx,(h.mem hx).2.2.1,by have:=List.any_eq_false.1 hn x hx; simpa using this⟩,h.dis⟩
theorem a6Y {f:Nat} {s:List Int} {h:List n7} {m:n7} {l:List n7}:U1 (f+1) s h m l=if idxOf (E6 (U6 s m)) h<0 then (U6 s m,h,l++[m]) else U1 f (U6 s m) (h.take (idxOf (E6 (U6 s m)) h).toNat++h.drop (idxOf (E6 (U6 s m)) h+1).toNat) (h.getD (idxOf (E6 (U6 s m)) h).toNat I6) (l++[m]):=rfl
def a0E (c:L9) (m:n7):L9×List n7×Int×Unit :=
  if M9 c≠0 then (c0,[],M9 c,()) else if formed m=false then (c0,[],1,()) else
  if m.1=c.1 then (c,[],0,()) else if m.2.1.getD m.1.toNat 0≤c.2.1.getD m.1.toNat 0 then (c,[],0,()) else if c.2.2.1.any (fun y=>B0 y m)=true then (c,[],0,()) else
  if E6 c.2.1 m=false then (if (c.2.2.1.length:Int)=40 then (c0,[],8,()) else ((c.1,c.2.1,c.2.2.1++[m],()),[],0,())) else
  ((c.1,(U1 (c.2.2.1.length+1) c.2.1 c.2.2.1 m []).1,(U1 (c.2.2.1.length+1) c.2.1 c.2.2.1 m []).2.1.filter (fun x=>!N8 (U1 (c.2.2.1.length+1) c.2.1 c.2.2.1 m []).1 x),()),(U1 (c.2.2.1.length+1) c.2.1 c.2.2.1 m []).2.2,0,())
def b2j:t5:={ ps:=[.v a0L,.v E7],rs:=[a6c,.d0 true E7,I8],pre:=fun _=>True,fn:=fun x=>a0E x.1 x.2.1,out:=fun _=>() }
noncomputable def a8y:Env:={ P:=Try.prog,tt:=tt,C9:=[(161,a58),(162,a56),(163,a57),(164,a84),(167,a75),(168,b18),(170,b5K),(171,b2d)],res:=[Go.ResultVar.cell 4 106,Go.ResultVar.tmp 5,Go.ResultVar.tmp 6],rs:=[Ty.pair (Ty.int IntKind.i64) (Ty.pair o7 (Ty.pair (Ty.d0 true (Ty.pair (Ty.int IntKind.i64) (Ty.pair o7 (Ty.pair Ty.str Ty.unit)))) Ty.unit)),Ty.d0 true (Ty.pair (Ty.int IntKind.i64) (Ty.pair o7 (Ty.pair Ty.str Ty.unit))),Ty.int IntKind.i64],ps:=[PK.v (Ty.pair (Ty.int IntKind.i64) (Ty.pair o7 (Ty.pair (Ty.d0 false (Ty.pair (Ty.int IntKind.i64) (Ty.pair o7 (Ty.pair Ty.str Ty.unit)))) Ty.unit))),PK.v (Ty.pair (Ty.int IntKind.i64) (Ty.pair o7 (Ty.pair Ty.str Ty.unit)))],C7:=[(15,[(3,none),(4,none),(8,none),(9,some (Ty.d0 true (Ty.pair (Ty.int IntKind.i64) (Ty.pair o7 (Ty.pair Ty.str Ty.unit)))))])],nt:=102 }
theorem a5I:x8 a8y:=C2 q9 ⟨a4D,a4B,a4C,b0J,a3j,b17,b3B,b2c,trivial⟩
theorem a5A:D3 a8y Try.f57:=⟨rfl,rfl⟩
theorem b9A (x0_1:Int) (x0_2_1:List Int) (x0_2_2_1:List (Int×List Int×List UInt8×Unit)) (x1_1:Int) (x1_2_1:List Int) (x1_2_2_1:List UInt8):exec a8y 1000 [.code (d9 Try.prog 57)] (w7 b2j.ps (((x0_1,x0_2_1,x0_2_2_1,()),(x1_1,x1_2_1,x1_2_2_1,()),()))) =
  .f9 (True) (cond (decide (M9 (x0_1,x0_2_1,x0_2_2_1,())≠(0:Int))) (.ret ((((0:Int),[(0:Int),(0:Int),(0:Int),(0:Int),(0:Int),(0:Int)],[],()),[],M9 (x0_1,x0_2_1,x0_2_2_1,()),()))) (.f9 (True) (cond (!formed (x1_1,x1_2_1,x1_2_2_1,())) (.ret ((((0:Int),[(0:Int),(0:Int),(0:Int),(0:Int),(0:Int),(0:Int)],[],()),[],(1:Int),()))) (.f9 (List.length x0_2_2_1≤1048576) (cond (decide (x1_1=x0_1)) (.ret (((x0_1,x0_2_1,x0_2_2_1,()),[],(0:Int),()))) (.f9 ((0:Int)≤x1_1∧x1_1<(↑6:Int)) (.f9 ((0:Int)≤x1_1∧x1_1<(↑6:Int)) (cond (decide (List.getD x1_2_1 (Int.toNat x1_1) (0:Int)≤List.getD x0_2_1 (Int.toNat x1_1) (0:Int))) (.ret (((x0_1,x0_2_1,x0_2_2_1,()),[],(0:Int),()))) (.f9 (a3o x0_2_2_1 (x1_1,x1_2_1,x1_2_2_1,())) (cond (List.any x0_2_2_1 fun y=>B0 y (x1_1,x1_2_1,x1_2_2_1,())) (.ret (((x0_1,x0_2_1,x0_2_2_1,()),[],(0:Int),()))) (.f9 ((0:Int)≤List.getD x0_2_1 (Int.toNat x1_1) (0:Int)∧List.getD x0_2_1 (Int.toNat x1_1) (0:Int)≤(9223372036854775806:Int)) (cond (!E6 x0_2_1 (x1_1,x1_2_1,x1_2_2_1,())) (cond (decide ((↑(List.length x0_2_2_1):Int)=(40:Int))) (.ret ((((0:Int),[(0:Int),(0:Int),(0:Int),(0:Int),(0:Int),(0:Int)],[],()),[],(8:Int),()))) (.f9 (True∧[]++[Step.i9 2]=[]++[Step.i9 2]∧List.length x0_2_2_1+List.length (List.set [((0:Int),[(0:Int),(0:Int),(0:Int),(0:Int),(0:Int),(0:Int)],[],())] (Int.toNat (↑0:Int)) (x1_1,x1_2_1,x1_2_2_1,()))≤140737488355328∧(List.length x0_2_2_1+List.length (List.set [((0:Int),[(0:Int),(0:Int),(0:Int),(0:Int),(0:Int),(0:Int)],[],())] (Int.toNat (↑0:Int)) (x1_1,x1_2_1,x1_2_2_1,())))*Ty.wb (Ty.pair (Ty.int IntKind.i64) (Ty.pair o7 (Ty.pair Ty.str Ty.unit)))≤140737488355328) (.ret (((x0_1,x0_2_1,x0_2_2_1++List.set [((0:Int),[(0:Int),(0:Int),(0:Int),(0:Int),(0:Int),(0:Int)],[],())] (Int.toNat (↑0:Int)) (x1_1,x1_2_1,x1_2_2_1,()),()),[],(0:Int),()))))) (.cut (j7 (d9 Try.prog 57) 15).1 (j7 (d9 Try.prog 57) 15).2 (St.mk [(3,AV.ptr 3 []),(4,AV.ptr 4 []),(8,AV.ptr 8 []),(9,AV.at_ 1000009 [])] [(3,i7.var (Ty.pair (Ty.int IntKind.i64) (Ty.pair o7 (Ty.pair Ty.str Ty.unit))) (x1_1,x1_2_1,x1_2_2_1,())),(4,i7.var (Ty.pair (Ty.int IntKind.i64) (Ty.pair o7 (Ty.pair (Ty.d0 true (Ty.pair (Ty.int IntKind.i64) (Ty.pair o7 (Ty.pair Ty.str Ty.unit)))) Ty.unit))) ((0:Int),[(0:Int),(0:Int),(0:Int),(0:Int),(0:Int),(0:Int)],[],())),(8,i7.var (Ty.pair (Ty.int IntKind.i64) (Ty.pair o7 (Ty.pair (Ty.d0 true (Ty.pair (Ty.int IntKind.i64) (Ty.pair o7 (Ty.pair Ty.str Ty.unit)))) Ty.unit))) (x0_1,x0_2_1,x0_2_2_1,())),(1000009,i7.own (Ty.d0 true (Ty.pair (Ty.int IntKind.i64) (Ty.pair o7 (Ty.pair Ty.str Ty.unit)))) [])])))))))))))))):=by kernel_rfl
def a8x (o3_1:Int) (o3_2_1:List Int) (o3_2_2_1:List UInt8) (o4_1:Int) (o4_2_1:List Int) (o4_2_2_1:List (Int×List Int×List UInt8×Unit)) (o8_1:Int) (o8_2_1:List Int) (o8_2_2_1:List (Int×List Int×List UInt8×Unit)) (o1000009:List (Int×List Int×List UInt8×Unit)):St:=St.mk [(3,AV.ptr 3 []),(4,AV.ptr 4 []),(8,AV.ptr 8 []),(9,AV.at_ 1000009 [])] [(3,i7.var (Ty.pair (Ty.int IntKind.i64) (Ty.pair o7 (Ty.pair Ty.str Ty.unit))) (o3_1,o3_2_1,o3_2_2_1,())),(4,i7.var (Ty.pair (Ty.int IntKind.i64) (Ty.pair o7 (Ty.pair (Ty.d0 true (Ty.pair (Ty.int IntKind.i64) (Ty.pair o7 (Ty.pair Ty.str Ty.unit)))) Ty.unit))) (o4_1,o4_2_1,o4_2_2_1,())),(8,i7.var (Ty.pair (Ty.int IntKind.i64) (Ty.pair o7 (Ty.pair (Ty.d0 true (Ty.pair (Ty.int IntKind.i64) (Ty.pair o7 (Ty.pair Ty.str Ty.unit)))) Ty.unit))) (o8_1,o8_2_1,o8_2_2_1,())),(1000009,i7.own (Ty.d0 true (Ty.pair (Ty.int IntKind.i64) (Ty.pair o7 (Ty.pair Ty.str Ty.unit)))) o1000009)]
theorem b6x (o3_1:Int) (o3_2_1:List Int) (o3_2_2_1:List UInt8) (o4_1:Int) (o4_2_1:List Int) (o4_2_2_1:List (Int×List Int×List UInt8×Unit)) (o8_1:Int) (o8_2_1:List Int) (o8_2_2_1:List (Int×List Int×List UInt8×Unit)) (o1000009:List (Int×List Int×List UInt8×Unit)):exec a8y 1000 (.code (j7 (d9 Try.prog 57) 15).1::.inLoop (j7 (d9 Try.prog 57) 15).1::(j7 (d9 Try.prog 57) 15).2) (a8x o3_1 o3_2_1 o3_2_2_1 o4_1 o4_2_1 o4_2_2_1 o8_1 o8_2_1 o8_2_2_1 o1000009) =
  .f9 ((0:Int)≤o3_1∧o3_1<(↑6:Int)) (.f9 (C1 IntKind.i64 (List.getD o8_2_1 (Int.toNat o3_1) (0:Int)+(1:Int))) (.f9 ((0:Int)≤o3_1∧o3_1<(↑6:Int)) (.f9 (List.length o1000009+List.length (List.set [((0:Int),[(0:Int),(0:Int),(0:Int),(0:Int),(0:Int),(0:Int)],[],())] (Int.toNat (↑0:Int)) (o3_1,o3_2_1,o3_2_2_1,()))≤140737488355328∧(List.length o1000009+List.length (List.set [((0:Int),[(0:Int),(0:Int),(0:Int),(0:Int),(0:Int),(0:Int)],[],())] (Int.toNat (↑0:Int)) (o3_1,o3_2_1,o3_2_2_1,())))*Ty.wb (Ty.pair (Ty.int IntKind.i64) (Ty.pair o7 (Ty.pair Ty.str Ty.unit)))≤140737488355328) (.f9 (∀ (y:n7),y∈o8_2_2_1→a4Y (List.set o8_2_1 (Int.toNat o3_1) (List.getD o8_2_1 (Int.toNat o3_1) (0:Int)+(1:Int))) y) (cond (decide (idxOf (E6 (List.set o8_2_1 (Int.toNat o3_1) (List.getD o8_2_1 (Int.toNat o3_1) (0:Int)+(1:Int)))) o8_2_2_1<(0:Int))) (.f9 (True∧[]++[Step.i9 2]=[]++[Step.i9 2]∧∀ (y:n7),y∈o8_2_2_1→InR y) (.ret (((o8_1,List.set o8_2_1 (Int.toNat o3_1) (List.getD o8_2_1 (Int.toNat o3_1) (0:Int)+(1:Int)),List.filter (fun y=>!N8 (List.set o8_2_1 (Int.toNat o3_1) (List.getD o8_2_1 (Int.toNat o3_1) (0:Int)+(1:Int))) y) o8_2_2_1,()),o1000009++List.set [((0:Int),[(0:Int),(0:Int),(0:Int),(0:Int),(0:Int),(0:Int)],[],())] (Int.toNat (↑0:Int)) (o3_1,o3_2_1,o3_2_2_1,()),(0:Int),())))) (.f9 ((0:Int)≤idxOf (E6 (List.set o8_2_1 (Int.toNat o3_1) (List.getD o8_2_1 (Int.toNat o3_1) (0:Int)+(1:Int)))) o8_2_2_1∧idxOf (E6 (List.set o8_2_1 (Int.toNat o3_1) (List.getD o8_2_1 (Int.toNat o3_1) (0:Int)+(1:Int)))) o8_2_2_1<(↑(List.length o8_2_2_1):Int)) (.f9 (C1 IntKind.i64 (idxOf (E6 (List.set o8_2_1 (Int.toNat o3_1) (List.getD o8_2_1 (Int.toNat o3_1) (0:Int)+(1:Int)))) o8_2_2_1+(1:Int))) (.f9 (True∧[]++[Step.i9 2]=[]++[Step.i9 2]∧(0:Int)≤idxOf (E6 (List.set o8_2_1 (Int.toNat o3_1) (List.getD o8_2_1 (Int.toNat o3_1) (0:Int)+(1:Int)))) o8_2_2_1∧idxOf (E6 (List.set o8_2_1 (Int.toNat o3_1) (List.getD o8_2_1 (Int.toNat o3_1) (0:Int)+(1:Int)))) o8_2_2_1≤idxOf (E6 (List.set o8_2_1 (Int.toNat o3_1) (List.getD o8_2_1 (Int.toNat o3_1) (0:Int)+(1:Int)))) o8_2_2_1+(1:Int)∧idxOf (E6 (List.set o8_2_1 (Int.toNat o3_1) (List.getD o8_2_1 (Int.toNat o3_1) (0:Int)+(1:Int)))) o8_2_2_1+(1:Int)≤(↑(List.length o8_2_2_1):Int)) (.cut (j7 (d9 Try.prog 57) 15).1 (j7 (d9 Try.prog 57) 15).2 (St.mk [(3,AV.ptr 3 []),(4,AV.ptr 4 []),(8,AV.ptr 8 []),(9,AV.at_ 1000009 [])] [(3,i7.var (Ty.pair (Ty.int IntKind.i64) (Ty.pair o7 (Ty.pair Ty.str Ty.unit))) (List.getD o8_2_2_1 (Int.toNat (idxOf (E6 (List.set o8_2_1 (Int.toNat o3_1) (List.getD o8_2_1 (Int.toNat o3_1) (0:Int)+(1:Int)))) o8_2_2_1)) ((0:Int),[(0:Int),(0:Int),(0:Int),(0:Int),(0:Int),(0:Int)],[],()))),(4,i7.var (Ty.pair (Ty.int IntKind.i64) (Ty.pair o7 (Ty.pair (Ty.d0 true (Ty.pair (Ty.int IntKind.i64) (Ty.pair o7 (Ty.pair Ty.str Ty.unit)))) Ty.unit))) (o4_1,o4_2_1,o4_2_2_1,())),(8,i7.var (Ty.pair (Ty.int IntKind.i64) (Ty.pair o7 (Ty.pair (Ty.d0 true (Ty.pair (Ty.int IntKind.i64) (Ty.pair o7 (Ty.pair Ty.str Ty.unit)))) Ty.unit))) (o8_1,List.set o8_2_1 (Int.toNat o3_1) (List.getD o8_2_1 (Int.toNat o3_1) (0:Int)+(1:Int)),List.take (Int.toNat (idxOf (E6 (List.set o8_2_1 (Int.toNat o3_1) (List.getD o8_2_1 (Int.toNat o3_1) (0:Int)+(1:Int)))) o8_2_2_1)) o8_2_2_1++List.drop (Int.toNat (idxOf (E6 (List.set o8_2_1 (Int.toNat o3_1) (List.getD o8_2_1 (Int.toNat o3_1) (0:Int)+(1:Int)))) o8_2_2_1+(1:Int))) o8_2_2_1,())),(1000009,i7.own (Ty.d0 true (Ty.pair (Ty.int IntKind.i64) (Ty.pair o7 (Ty.pair Ty.str Ty.unit)))) (o1000009++List.set [((0:Int),[(0:Int),(0:Int),(0:Int),(0:Int),(0:Int),(0:Int)],[],())] (Int.toNat (↑0:Int)) (o3_1,o3_2_1,o3_2_2_1,())))])))))))))):=by kernel_rfl
theorem b2i:b2j.Valid Try.prog 57:=by
  refine t5.s4 a5I rfl rfl Try.func57 (c:=d9 Try.prog 57) rfl rfl a5A rfl ?_
  rintro ⟨⟨(me:Int),(s:List Int),(h:List n7),⟨⟩⟩,⟨(f:Int),(a:List Int),(t:List UInt8),⟨⟩⟩,⟨⟩⟩ - ⟨⟨-,⟨hsl,-⟩,⟨hl,hlr⟩,-⟩,⟨-,⟨hal,har⟩,-⟩,-⟩
  have hrm:∀ x∈h,RM x:=fun x hx=>b9H (hlr x hx)
  have hmr:RM (f,a,t,()):=⟨hal,fun n hn=>(har n hn).2⟩
  have hsl:s.length=6:=hsl
  refine l5 (n:=1000) a5I a5A ?_
  refine j8 (b9A me s h f a t) ?_
  have key:∀ {y:L9×List n7×Int×Unit},a0E (me,s,h,()) (f,a,t,())=y→y=a0E (me,s,h,()) (f,a,t,()):=fun h=>h.symm
  have hd:a0E (me,s,h,()) (f,a,t,())=if M9 (me,s,h,())≠0 then (c0,[],M9 (me,s,h,()),()) else if formed (f,a,t,())=false then (c0,[],1,()) else
    if f=me then ((me,s,h,()),[],0,()) else if a.getD f.toNat 0≤s.getD f.toNat 0 then ((me,s,h,()),[],0,()) else if h.any (fun y=>B0 y (f,a,t,()))=true then ((me,s,h,()),[],0,()) else
    if E6 s (f,a,t,())=false then (if (h.length:Int)=40 then (c0,[],8,()) else ((me,s,h++[(f,a,t,())],()),[],0,())) else
    ((me,(U1 (h.length+1) s h (f,a,t,()) []).1,(U1 (h.length+1) s h (f,a,t,()) []).2.1.filter (fun x=>!N8 (U1 (h.length+1) s h (f,a,t,()) []).1 x),()),(U1 (h.length+1) s h (f,a,t,()) []).2.2,0,()):=rfl
  have hw:Ty.wb (.pair (.int .i64) (.pair (.arr 6 (.int .i64)) (.pair .str .unit)))=72:=rfl
  simp only [p8,Tree.holds,true_and,true_implies,decide_eq_true_eq,decide_eq_false_iff_not,Bool.not_eq_true',Bool.not_eq_false',Int.toNat_natCast,u6,List.length_set,List.length_cons,List.length_nil,hw]
  refine ⟨fun e=>key (by rw [hd,if_pos e]<;>rfl),fun e=>?_⟩
  have p9:=a2j.1 (Decidable.not_not.1 e)
  have hlen:h.length≤40:=p9.len
  have hnn:∀ i,0≤s.getD i 0:=a6a p9.nn
  rw [if_neg e] at hd
  refine ⟨fun e1=>key (by rw [hd,if_pos e1]<;>rfl),fun e1=>⟨by omega,fun _=>?_⟩⟩
  have hin:InR (f,a,t,()):=S9 e1
  have hf1:0≤f:=hin.1
  have hf2:f≤5:=hin.2
  rw [if_neg (tnf e1)] at hd
  refine ⟨fun e2=>key (by rw [hd,if_pos e2]<;>rfl),fun e2=>⟨by omega,fun _=>⟨by omega,fun _=>?_⟩⟩⟩
  rw [if_neg e2] at hd
  have hmx:a.getD f.toNat 0≤9223372036854775807:=hmr.get f.toNat
  have hnf:=hnn f.toNat
  refine ⟨fun e3=>key (by rw [hd,if_pos e3]<;>rfl),fun e3=>⟨⟨fun x hx=>S9 (p9.mem hx).1,hin⟩,fun _=>?_⟩⟩
  rw [if_neg e3] at hd
  refine ⟨fun e4=>key (by rw [hd,if_pos e4]<;>rfl),fun e4=>⟨⟨hnf,by omega⟩,fun _=>?_⟩⟩
  rw [if_neg (by rw [e4]; simp)] at hd
  refine ⟨fun e5=>?_,fun e5=>?_⟩
  · rw [if_pos e5] at hd
    refine ⟨fun e6=>key (by rw [hd,if_pos e6]<;>rfl),fun e6=>⟨⟨by omega,by omega⟩,fun _=>key (by rw [hd,if_neg e6]<;>rfl)⟩⟩
  rw [if_neg (tnf e5)] at hd
  have hheld:a2T s h (f,a,t,()):=p9.held hsl hrm e1 hmr e5 e4
  refine Reach.V1 a5I a5A (fun x:n7×List Int×List n7×List n7=>a8x x.1.1 x.1.2.1 x.1.2.2.1 0 [0,0,0,0,0,0] [] me x.2.1 x.2.2.1 x.2.2.2) (fun x=>a2T x.2.1 x.2.2.1 x.1∧x.2.2.2.length+x.2.2.1.length≤40∧U1 (x.2.2.1.length+1) x.2.1 x.2.2.1 x.1 x.2.2.2=U1 (h.length+1) s h (f,a,t,()) []) (fun x=>x.2.2.1.length) 1000 (fun _=>⟨x7 rfl,x7 rfl⟩) ?_ ((f,a,t,()),s,h,[]) ⟨hheld,by show 0+h.length≤40; omega,rfl⟩
  rintro ⟨m,q,g,l⟩ ⟨k1,k2,k3⟩ - ih
  have k1:a2T q g m:=k1
  have k2:l.length+g.length≤40:=k2
  have k3:U1 (g.length+1) q g m l=U1 (h.length+1) s h (f,a,t,()) []:=k3
  refine j8 (b6x ..) ?_
  obtain ⟨mf,ma,mt,⟨⟩⟩:=m
  have hmin:=S9 k1.mok.1
  have hm1:0≤mf:=hmin.1
  have hm2:mf≤5:=hmin.2
  have hnum:ma.getD mf.toNat 0=q.getD mf.toNat 0+1:=k1.num
  have hmx2:ma.getD mf.toNat 0≤9223372036854775807:=k1.mok.2.get mf.toNat
  have hq0:=k1.nn mf.toNat
  have hbump:q.set mf.toNat (q.getD mf.toNat 0+1)=U6 q (mf,ma,mt,()):=rfl
  rw [← k3,a6Y] at hd
  simp only [p8,Tree.holds,true_and,true_implies,decide_eq_true_eq,decide_eq_false_iff_not,Bool.not_eq_true',Bool.not_eq_false',Int.toNat_natCast,u6,List.length_set,List.length_cons,List.length_nil,hw,hbump]
  refine ⟨by omega,fun _=>⟨by omega,fun _=>⟨by omega,fun _=>⟨⟨by omega,by omega⟩,fun _=>⟨fun y hy=>?_,fun _=>⟨fun c=>⟨fun y hy=>S9 (k1.p9 y hy).1,fun _=>key ?_⟩,fun c=>?_⟩⟩⟩⟩⟩⟩
  · have h1:(U6 q (mf,ma,mt,())).getD y.1.toNat 0<y.2.1.getD y.1.toNat 0:=k1.b94 hy
    have h2:=(k1.p9 y hy).2.1.get y.1.toNat
    refine ⟨?_,by omega⟩
    rw [a62 k1.len hmin]
    have:=k1.nn y.1.toNat
    split<;>omega
  · rw [hd,if_pos c]<;>rfl
  · obtain ⟨k,hk,hkl,hdk,_⟩:=a6W (p:=E6 (U6 q (mf,ma,mt,()))) (d:=I6) (l:=g) (j:=0) (by show idxOf _ g≠-1; omega)
    have hk:idxOf (E6 (U6 q (mf,ma,mt,()))) g=(k:Int):=by rw [idxOf,hk]; omega
    rw [hk] at hd ⊢
    rw [if_neg (by omega)] at hd
    have hlen2:(g.take k++g.drop (k+1)).length+1=g.length:=by rw [List.length_append,List.length_take,List.length_drop]; omega
    have next:=ih (g.getD k I6,U6 q (mf,ma,mt,()),g.take k++g.drop (k+1),l++[(mf,ma,mt,())]) ⟨k1.next hkl hdk,by show (l++[(mf,ma,mt,())]).length+(g.take k++g.drop (k+1)).length≤40; rw [List.length_append,List.length_singleton]; omega,by
      show U1 ((g.take k++g.drop (k+1)).length+1) (U6 q (mf,ma,mt,())) (g.take k++g.drop (k+1)) (g.getD k I6) (l++[(mf,ma,mt,())])=_
      rw [hlen2,← k3,a6Y,hk,if_neg (by omega),show ((k:Int)+1).toNat=k+1 by omega]; rfl⟩ (by show (g.take k++g.drop (k+1)).length<g.length; omega)
    rw [show ((k:Int)+1).toNat=k+1 by omega]
    exact ⟨by omega,fun _=>⟨by omega,fun _=>⟨by omega,fun _=>next⟩⟩⟩
end Go.Proofs.Ytekbamiaenbhjaa
