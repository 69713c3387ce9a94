/- LaneOwn. -/
import Derived.Test.YtekbamiaenbhjaaOwnM
namespace Go.Proofs.Ytekbamiaenbhjaa
open Go.Ex
set_option maxRecDepth 100000
def b2k:t5:=b6S [a4t,ToT,a0L,.str,E7]
abbrev b97:Ty:=.pair I8 (.pair (.s8 .str) .unit)
abbrev ToM:Ty:=.pair I8 (.pair (.s8 C0) .unit)
abbrev c03:Ty:=.pair I8 (.pair o7 (.pair (.s8 E7) .unit))
noncomputable def a7g:Env:={ P:=Try.prog,tt:=tt,C9:=[(51,b5L),(55,a81),(56,b1S),(57,b2j),(58,b5V),(52,b5X),(53,b5Y),(54,b5Z),(59,b1L),(60,b1N),(61,b1P),(65,b9Y),(66,b9Z),(67,b90),(62,b1Q),(63,b0U),(64,b5J),(68,b5Q),(69,b5R),(70,b5S)],res:=[Go.ResultVar.tmp 10],rs:=[Ty.bool],ps:=[PK.v (Ty.pair (Ty.int IntKind.i64) (Ty.pair (Ty.d0 false Ty.str) Ty.unit)),PK.v (Ty.pair (Ty.int IntKind.i64) (Ty.pair (Ty.d0 false (Ty.pair (Ty.int IntKind.i64) (Ty.pair Ty.str Ty.unit))) Ty.unit)),PK.v (Ty.pair (Ty.int IntKind.i64) (Ty.pair o7 (Ty.pair (Ty.d0 false (Ty.pair (Ty.int IntKind.i64) (Ty.pair o7 (Ty.pair Ty.str Ty.unit)))) Ty.unit))),PK.v Ty.str,PK.v (Ty.pair (Ty.int IntKind.i64) (Ty.pair o7 (Ty.pair Ty.str Ty.unit)))],C7:=[(999999,[(0,some b97)]),(998055,[(13,some b97),(14,some ToM),(15,some c03)])],nt:=192 }
theorem a6E:x8 a7g:=C2 q9 ⟨b3C,b0G,b1R,b2i,b3J,b3L,b3M,b3N,b1K,b1M,b1O,b3v,b3w,b3x,a4h,a6v,a7X,a70,a71,a72,trivial⟩
theorem a6D:D3 a7g Try.f8:=⟨rfl,rfl⟩
theorem b6E (x0_1:Int) (x0_2_1:List (List UInt8)) (x1_1:Int) (x1_2_1:List (Int×List UInt8×Unit)) (x2_1:Int) (x2_2_1:List Int) (x2_2_2_1:List (Int×List Int×List UInt8×Unit)) (x3:List UInt8) (x4_1:Int) (x4_2_1:List Int) (x4_2_2_1:List UInt8):exec a7g 1000 [.code (d9 Try.prog 8)] (w7 b2k.ps (((x0_1,x0_2_1,()),(x1_1,x1_2_1,()),(x2_1,x2_2_1,x2_2_2_1,()),x3,(x4_1,x4_2_1,x4_2_2_1,()),()))) =
  .f9 (True) (.f9 (List.length x0_2_1≤1048576) (.f9 (List.length x1_2_1≤1048576) (.f9 (List.length x2_2_2_1≤1048576) (.f9 (True) (.f9 (O5 (x0_1,x0_2_1,())=(0:Int)→(0:Int)≤IntKind.wrap IntKind.i64 (x0_1+(1:Int))) (.f9 (True) (.f9 (True) (.f9 (True) (.f9 (3=3∧2≤List.length [Array.toList (ByteArray.data (ByteArray.mk #[(33:UInt8)])),Array.toList (ByteArray.data (ByteArray.mk #[(33:UInt8)])),ez]∧List.length x0_2_1≤1048576) (cond (!(decide (x0_2_1=x0_2_1) && (decide (List.getD [Array.toList (ByteArray.data (ByteArray.mk #[(33:UInt8)])),Array.toList (ByteArray.data (ByteArray.mk #[(33:UInt8)])),ez] 0 ez=Array.toList (ByteArray.data (ByteArray.mk #[(33:UInt8)]))) && decide (List.getD [Array.toList (ByteArray.data (ByteArray.mk #[(33:UInt8)])),Array.toList (ByteArray.data (ByteArray.mk #[(33:UInt8)])),ez] 1 ez=Array.toList (ByteArray.data (ByteArray.mk #[(33:UInt8)])))))) (.ret ((false,()))) (.f9 (3=3∧2≤List.length [((77:Int),[],()),((77:Int),[],()),pz]∧List.length x1_2_1≤1048576) (cond (!(decide (x1_2_1=x1_2_1) && (decide (List.getD [((77:Int),[],()),((77:Int),[],()),pz] 0 pz=((77:Int),[],())) && decide (List.getD [((77:Int),[],()),((77:Int),[],()),pz] 1 pz=((77:Int),[],()))))) (.ret ((false,()))) (.f9 (3=3∧2≤List.length [((77:Int),[(0:Int),(0:Int),(0:Int),(0:Int),(0:Int),(0:Int)],[],()),((77:Int),[(0:Int),(0:Int),(0:Int),(0:Int),(0:Int),(0:Int)],[],()),mz]∧List.length x2_2_2_1≤1048576) (cond (!(decide (x2_2_2_1=x2_2_2_1) && (decide (List.getD [((77:Int),[(0:Int),(0:Int),(0:Int),(0:Int),(0:Int),(0:Int)],[],()),((77:Int),[(0:Int),(0:Int),(0:Int),(0:Int),(0:Int),(0:Int)],[],()),mz] 0 mz=((77:Int),[(0:Int),(0:Int),(0:Int),(0:Int),(0:Int),(0:Int)],[],())) && decide (List.getD [((77:Int),[(0:Int),(0:Int),(0:Int),(0:Int),(0:Int),(0:Int)],[],()),((77:Int),[(0:Int),(0:Int),(0:Int),(0:Int),(0:Int),(0:Int)],[],()),mz] 1 mz=((77:Int),[(0:Int),(0:Int),(0:Int),(0:Int),(0:Int),(0:Int)],[],()))))) (.ret ((false,()))) (.f9 (List.length (Prod.fst (Prod.snd (Prod.fst (a35 (x0_1,x0_2_1,()) x3))))≤1048576) (.f9 (List.length (Prod.fst (Prod.snd (Prod.fst (a1b (x0_1,x0_2_1,()) (IntKind.wrap IntKind.i64 (x0_1+(1:Int)))))))≤1048576) (.f9 (List.length (Prod.fst (Prod.snd (Prod.fst (a2e (x1_1,x1_2_1,()) (x1_1,x3,())))))≤1048576) (.f9 (List.length (Prod.fst (Prod.snd (Prod.snd (Prod.fst (a0E (x2_1,x2_2_1,x2_2_2_1,()) (x4_1,x4_2_1,x4_2_2_1,()))))))≤1048576) (.f9 (List.length (Prod.fst (Prod.snd (a0E (x2_1,x2_2_1,x2_2_2_1,()) (x4_1,x4_2_1,x4_2_2_1,()))))≤1048576) (.f9 (List.length (Prod.fst (Prod.snd (Prod.snd (Prod.fst (a2k (x2_1,x2_2_1,x2_2_2_1,()) x3)))))≤1048576) (.f9 ((1≤2∧2≤2)∧True) (.f9 ((1≤2∧2≤2)∧True) (.f9 ((1≤2∧2≤2)∧True) (.f9 (True) (cond (decide (Prod.fst (Prod.snd (Prod.fst (a35 (x0_1,x0_2_1,()) x3)))=Prod.fst (Prod.snd (Prod.fst (a35 (x0_1,x0_2_1,()) x3))))) (.f9 (True) (cond (decide (Prod.fst (Prod.snd (Prod.fst (a1b (x0_1,x0_2_1,()) (IntKind.wrap IntKind.i64 (x0_1+(1:Int))))))=Prod.fst (Prod.snd (Prod.fst (a1b (x0_1,x0_2_1,()) (IntKind.wrap IntKind.i64 (x0_1+(1:Int)))))))) (.f9 (True) (cond (decide (Prod.fst (Prod.snd (Prod.fst (a2e (x1_1,x1_2_1,()) (x1_1,x3,()))))=Prod.fst (Prod.snd (Prod.fst (a2e (x1_1,x1_2_1,()) (x1_1,x3,())))))) (.f9 (True) (cond (decide (Prod.fst (Prod.snd (Prod.snd (Prod.fst (a0E (x2_1,x2_2_1,x2_2_2_1,()) (x4_1,x4_2_1,x4_2_2_1,())))))=Prod.fst (Prod.snd (Prod.snd (Prod.fst (a0E (x2_1,x2_2_1,x2_2_2_1,()) (x4_1,x4_2_1,x4_2_2_1,()))))))) (.f9 (True) (cond (decide (Prod.fst (Prod.snd (a0E (x2_1,x2_2_1,x2_2_2_1,()) (x4_1,x4_2_1,x4_2_2_1,())))=Prod.fst (Prod.snd (a0E (x2_1,x2_2_1,x2_2_2_1,()) (x4_1,x4_2_1,x4_2_2_1,()))))) (.f9 (True) (.ret ((decide (Prod.fst (Prod.snd (Prod.snd (Prod.fst (a2k (x2_1,x2_2_1,x2_2_2_1,()) x3))))=Prod.fst (Prod.snd (Prod.snd (Prod.fst (a2k (x2_1,x2_2_1,x2_2_2_1,()) x3))))),())))) (.ret ((false,()))))) (.ret ((false,()))))) (.ret ((false,()))))) (.ret ((false,()))))) (.ret ((false,())))))))))))))))))))))))))))):=by kernel_rfl
theorem a29 {α:Type} {f:α→Nat} (h:∀ x,1≤f x):∀ l:List α,l.length≤P7 f l
  | []=>by simp [P7]
  | x::l=>by have h1:=h x; have h2:=a29 h l; simp only [P7,List.length_cons]; omega
theorem a85:b2k.Valid Try.prog 8:=by
  refine t5.s4 a6E rfl rfl Try.func8 (c:=d9 Try.prog 8) rfl rfl a6D rfl ?_
  rintro ⟨⟨(b:Int),(l:List (List UInt8)),⟨⟩⟩,⟨(r:Int),(e:List n9),⟨⟩⟩,⟨(me:Int),(s:List Int),(h:List n7),⟨⟩⟩,(t:List UInt8),⟨(mf:Int),(ms:List Int),(mt:List UInt8),⟨⟩⟩,⟨⟩⟩ hs -
  have hb:Ty.H6 a4t (b,l,())+(Ty.H6 ToT (r,e,())+(Ty.H6 a0L (me,s,h,())+(Ty.H6 .str t+(Ty.H6 E7 (mf,ms,mt,())+0))))≤1048576:=hs
  have b1:Ty.H6 a4t (b,l,())=Ty.H6 I8 b+((P7 (Ty.H6 .str) l+1)+Ty.H6 .unit ()):=rfl
  have b2:Ty.H6 ToT (r,e,())=Ty.H6 I8 r+((P7 (Ty.H6 C0) e+1)+Ty.H6 .unit ()):=rfl
  have b3:Ty.H6 a0L (me,s,h,())=Ty.H6 I8 me+(Ty.H6 o7 s+((P7 (Ty.H6 E7) h+1)+Ty.H6 .unit ())):=rfl
  have l1:=a29 (f:=Ty.H6 .str) (fun x=>by show 1≤List.length (α:=UInt8) x+1; omega) l
  have l2:=a29 (f:=Ty.H6 C0) (fun x=>by show 1≤1+_; omega) e
  have l3:=a29 (f:=Ty.H6 E7) (fun x=>by show 1≤1+_; omega) h
  have h1:l.length≤1048576:=by omega
  have h2:e.length≤1048576:=by omega
  have h3:h.length≤1048576:=by omega
  have hw:O5 (b,l,())=0→0≤IntKind.wrap IntKind.i64 (b+1):=fun q=>by
    have:=(a2K q).1
    simp only at this
    rw [N3 (u6.2 (by omega))]; omega
  refine l5 (n:=1000) a6E a6D ?_
  refine j8 (b6E b l r e me s h t mf ms mt) ?_
  have q1:=b8F (b,l,()) t
  have q2:=b5r (b,l,()) (IntKind.wrap IntKind.i64 (b+1))
  have q3:=b65 (r,e,()) (r,t,())
  have q4:=b7E (me,s,h,()) (mf,ms,mt,())
  have q5:=b82 (me,s,h,()) t
  have three:(3:Nat)=3:=rfl
  simp only [p8,Tree.holds,true_and,true_implies,decide_eq_true_eq,decide_eq_false_iff_not,Bool.not_eq_true',Bool.not_eq_false',Int.toNat_natCast,u6,List.length_set,List.length_cons,List.length_nil]
  have big:(41:Nat)≤1048576:=by omega
  have two:(1≤2∧2≤2)∧True:=⟨⟨by omega,Nat.le_refl 2⟩,trivial⟩
  exact ⟨h1,fun _=>⟨h2,fun _=>⟨h3,fun _=>⟨hw,fun _=>⟨⟨by omega,h1⟩,fun _=>⟨fun q=>absurd q (by decide),fun _=>⟨⟨by omega,h2⟩,fun _=>⟨fun q=>absurd q (by decide),fun _=>⟨⟨by omega,h3⟩,fun _=>⟨fun q=>absurd q (by decide),fun _ =>
    ⟨Nat.le_trans q1 big,fun _=>⟨Nat.le_trans q2 big,fun _=>⟨Nat.le_trans q3 big,fun _=>⟨Nat.le_trans q4.1 big,fun _=>⟨Nat.le_trans q4.2 big,fun _=>⟨Nat.le_trans q5 big,fun _=>⟨two,fun _=>⟨two,fun _=>⟨two,fun _ =>
      ⟨⟨⟨⟨⟨congrArg (fun b=>(b,())) (decide_eq_true trivial),fun q=>absurd trivial q⟩,fun q=>absurd trivial q⟩,fun q=>absurd trivial q⟩,fun q=>absurd trivial q⟩,fun q=>absurd trivial q⟩⟩⟩⟩⟩⟩⟩⟩⟩⟩⟩⟩⟩⟩⟩⟩⟩⟩⟩⟩
end Go.Proofs.Ytekbamiaenbhjaa
