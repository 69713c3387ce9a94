/- Quorum systems: Votes, Grid, Dual, Has, Meets. No condition but those named. -/
import Derived.Test.YtekbamiaenbhjaaQM
namespace Go.Proofs.Ytekbamiaenbhjaa
open Go.Ex Go.Sort
set_option maxRecDepth 100000
def a0A (v:List Int) (d8:Int):List Int×Int×Unit :=
  if (1≤v.length∧v.length≤10)∧(1≤d8∧d8≤16777215)∧(∀ y∈v,0≤y∧y≤16777215) then (c2J v d8,0,()) else ([],1,())
def b6j:p7:={ ps:=[.v (.b7 false y8),.s8 205 []],rs:=[y8],pre:=fun x=>True,fn:=fun x=>(idxOf (Z7) x.1,()),out:=fun _=>() }
noncomputable def b0C:Env:={ P:=Try.prog,tt:=tt,A3:=[(205,b54)],res:=[Go.ResultVar.tmp 4],rs:=[Ty.int IntKind.i64],ps:=[PK.v (Ty.b7 false (Ty.int IntKind.i64)),PK.s8 205 []],x7:=[(2,[(0,none),(1,none),(7,none),(8,none)])],nt:=19 }
theorem a6W:u5 b0C:=w7 p9 ⟨b3I,trivial⟩
theorem a6Q:y9 b0C Try.f270:=⟨rfl,rfl⟩
theorem c2m (x0:List Int):exec b0C 1000 [.code (b8 Try.prog 270)] (s6 b6j.ps ((x0,(),()))) =
  .cut (e8 (b8 Try.prog 270) 2).1 (e8 (b8 Try.prog 270) 2).2 (St.mk [(0,AV.val (Ty.b7 false (Ty.int IntKind.i64)) x0),(1,AV.s8 205 AV.nil),(7,AV.val (Ty.int IntKind.i64) (↑(List.length x0):Int)),(8,AV.val (Ty.int IntKind.i64) (0:Int))] []):=by kernel_rfl
def b23 (v0:List Int) (v7:Int) (v8:Int):St:=St.mk [(0,AV.val (Ty.b7 false (Ty.int IntKind.i64)) v0),(1,AV.s8 205 AV.nil),(7,AV.val (Ty.int IntKind.i64) v7),(8,AV.val (Ty.int IntKind.i64) v8)] []
theorem c0x (v0:List Int) (v7:Int) (v8:Int):exec b0C 1000 (.code (e8 (b8 Try.prog 270) 2).1::.inLoop (e8 (b8 Try.prog 270) 2).1::(e8 (b8 Try.prog 270) 2).2) (b23 v0 v7 v8) =
  cond (decide (v8<v7)) (.d8 ((0:Int)≤v8∧v8<(↑(List.length v0):Int)) (.d8 (True) (cond (Z7 (List.getD v0 (Int.toNat v8) (0:Int))) (.ret ((v8,()))) (.d8 (u7 IntKind.i64 (v8+(1:Int))) (.cut (e8 (b8 Try.prog 270) 2).1 (e8 (b8 Try.prog 270) 2).2 (St.mk [(0,AV.val (Ty.b7 false (Ty.int IntKind.i64)) v0),(1,AV.s8 205 AV.nil),(7,AV.val (Ty.int IntKind.i64) v7),(8,AV.val (Ty.int IntKind.i64) (v8+(1:Int)))] [])))))) (.ret (((-1:Int),()))):=by kernel_rfl
theorem b3W:b6j.Valid Try.prog 270:=by
  refine p7.o8 a6W rfl rfl Try.func270 (c:=b8 Try.prog 270) rfl rfl a6Q rfl ?_
  rintro ⟨(l:List (Int)),⟨⟩,⟨⟩⟩ - ⟨⟨hl,-⟩,-⟩
  have hl:l.length≤9223372036854775807:=hl
  refine j8 (n:=1000) a6W a6Q ?_
  refine g9 (c2m l ) ?_
  refine Reach.K9 a6W a6Q (fun i:Nat=>b23 l  (l.length:Int) (i:Int)) (fun i=>i≤l.length∧idxOf (Z7) l=Q5 (Z7) (l.drop i) i)
    (fun i=>l.length - i) 1000 (fun _=>⟨u3 rfl,u3 rfl⟩) ?_ 0 ⟨by omega,rfl⟩
  rintro i ⟨k1,k2⟩ - ih
  refine g9 (c0x ..) ?_
  simp only [o5,Tree.holds,true_and,true_implies,decide_eq_true_eq,decide_eq_false_iff_not,Bool.not_eq_true',Bool.not_eq_false',Int.toNat_natCast,q8,List.length_set,List.length_cons,List.length_nil]
  refine ⟨fun h=>?_,fun h=>?_⟩
  · rw [S9 (show i<l.length by omega) 0,Q5] at k2
    refine ⟨by omega,fun _=>⟨fun c=>?_,fun c=>⟨by omega,fun _=>ih (i+1) ⟨by omega,?_⟩ (by omega)⟩⟩⟩
    · show (((i:Int),()):Int×Unit)=(idxOf (Z7) l,())
      rw [k2,if_pos (show (Z7) (l.getD i 0)=true from c)]
    · rw [k2,if_neg (show ¬ (Z7) (l.getD i 0)=true from fun h9=>Bool.noConfusion (Eq.trans (Eq.symm h9) c))]
  · rw [List.drop_eq_nil_of_le (by omega)] at k2
    show (((-1:Int),()):Int×Unit)=(idxOf (Z7) l,())
    rw [k2]; rfl
def b6t:p7:={ ps:=[.v (.b7 false y8),.s8 205 []],rs:=[.bool],pre:=fun x=>True,fn:=fun x=>(List.any (α:=Int) x.1 (Z7),()),out:=fun _=>() }
noncomputable def b7i:Env:={ P:=Try.prog,tt:=tt,A3:=[(270,b6j)],res:=[Go.ResultVar.tmp 4],rs:=[Ty.bool],ps:=[PK.v (Ty.b7 false (Ty.int IntKind.i64)),PK.s8 205 []],x7:=[],nt:=9 }
theorem b3c:u5 b7i:=w7 p9 ⟨b3W,trivial⟩
theorem b2C:y9 b7i Try.f204:=⟨rfl,rfl⟩
theorem c2x (x0:List Int):exec b7i 1000 [.code (b8 Try.prog 204)] (s6 b6t.ps ((x0,(),()))) =
  .d8 (True) (.ret ((decide ((0:Int)≤idxOf Z7 x0),()))):=by kernel_rfl
theorem b33:b6t.Valid Try.prog 204:=by
  refine p7.o8 b3c rfl rfl Try.func204 (c:=b8 Try.prog 204) rfl rfl b2C rfl ?_
  rintro ⟨(l:List (Int)),⟨⟩,⟨⟩⟩ - -
  refine j8 (n:=1000) b3c b2C ?_
  refine g9 (c2x l ) ?_
  refine ⟨trivial,fun _=>?_⟩
  show ((decide (0≤idxOf (Z7) l),()):Bool×Unit)=(l.any (Z7),())
  rw [a5L]
def b1D:p7:={ ps:=[.v (.b7 false y8),.v y8],rs:=[.b7 true D3,y8],pre:=fun _=>True,fn:=fun x=>a0A x.1 x.2.1,out:=fun _=>() }
noncomputable def b2N:Env:={ P:=Try.prog,tt:=tt,A3:=[(203,b1Q),(204,b6t),(200,b6g)],res:=[Go.ResultVar.tmp 4,Go.ResultVar.tmp 5],rs:=[Ty.b7 true (Ty.int IntKind.u16),Ty.int IntKind.i64],ps:=[PK.v (Ty.b7 false (Ty.int IntKind.i64)),PK.v (Ty.int IntKind.i64)],x7:=[],nt:=24 }
theorem a9Q:u5 b2N:=w7 p9 ⟨a38,b33,b3S,trivial⟩
theorem a9I:y9 b2N Try.f110:=⟨rfl,rfl⟩
theorem c0m (x0:List Int) (x1:Int):exec b2N 1000 [.code (b8 Try.prog 110)] (s6 b1D.ps ((x0,x1,()))) =
  .d8 (True) (cond (!R7 (↑(List.length x0):Int) (1:Int) (10:Int)) (.ret (([],(1:Int),()))) (.d8 (True) (cond (!R7 x1 (1:Int) (16777215:Int)) (.ret (([],(1:Int),()))) (.d8 (True) (cond (List.any x0 Z7) (.ret (([],(1:Int),()))) (.d8 ((1:Int)≤(↑(List.length x0):Int)∧(↑(List.length x0):Int)≤(10:Int)∧b0H x0) (.ret ((a0I (Int.toNat (↑(List.length x0):Int)) (M0 x0 x1),(0:Int),()))))))))):=by kernel_rfl

set_option maxHeartbeats 4000000 in
theorem b1C:b1D.Valid Try.prog 110:=by
  refine p7.o8 a9Q rfl rfl Try.func110 (c:=b8 Try.prog 110) rfl rfl a9I rfl ?_
  rintro ⟨(v:List Int),(d8:Int),⟨⟩⟩ - -
  refine j8 (n:=1000) a9Q a9I ?_
  refine g9 (c0m v d8) ?_
  simp only [o5,Tree.holds,true_and,true_implies,decide_eq_true_eq,decide_eq_false_iff_not,Bool.not_eq_true',Bool.not_eq_false',Int.toNat_natCast,q8,List.length_set,List.length_cons,List.length_nil]
  have no:¬ ((1≤v.length∧v.length≤10)∧(1≤d8∧d8≤16777215)∧(∀ y∈v,0≤y∧y≤16777215))→(([],1,()):List Int×Int×Unit)=a0A v d8:=fun h=>by rw [a0A,if_neg h]
  refine ⟨fun a=>no (fun h=>?_),fun a=>⟨fun b=>no (fun h=>?_),fun b=>⟨fun c=>no (fun h=>?_),fun c=>?_⟩⟩⟩
  · rw [a5K] at a; omega
  · rw [a5K] at b; omega
  · obtain ⟨y,h1,h2⟩:=List.any_eq_true.1 c
    have:=h.2.2 y h1
    rw [Z7,Bool.not_eq_true',a5K] at h2; omega
  · rw [Z3] at a b
    have hv:∀ y∈v,0≤y∧y≤16777215:=fun y hy=>by
      have:=List.any_eq_false.1 c y hy
      rw [Z7,Bool.not_eq_true',Bool.not_eq_false] at this
      exact Z3.1 this
    refine ⟨⟨by omega,by omega,by omega,hv⟩,fun _=>?_⟩
    show ((a0I v.length (M0 v d8),0,()):List Int×Int×Unit)=a0A v d8
    rw [a0A,if_pos ⟨by omega,b,hv⟩]; rfl















































































def a1Z (n:Int) (l:List Int):List Int×Int×Unit:=if K7 n l≠0 then ([],K7 n l,()) else (c3Y n.toNat l,0,())
def b6r:p7:={ ps:=[.v y8,.v (.b7 false D3)],rs:=[.b7 true D3,y8],pre:=fun _=>True,fn:=fun x=>a1Z x.1 x.2.1,out:=fun _=>() }
noncomputable def b7g:Env:={ P:=Try.prog,tt:=tt,A3:=[(199,a8D),(200,b6h)],res:=[Go.ResultVar.tmp 4,Go.ResultVar.tmp 5],rs:=[Ty.b7 true (Ty.int IntKind.u16),Ty.int IntKind.i64],ps:=[PK.v (Ty.int IntKind.i64),PK.v (Ty.b7 false (Ty.int IntKind.u16))],x7:=[],nt:=16 }
theorem b3a:u5 b7g:=w7 p9 ⟨b0k,b3T,trivial⟩
theorem b2A:y9 b7g Try.f105:=⟨rfl,rfl⟩
theorem c2v (x0:Int) (x1:List Int):exec b7g 1000 [.code (b8 Try.prog 105)] (s6 b6r.ps ((x0,x1,()))) =
  .d8 (True) (cond (decide (K7 x0 x1≠(0:Int))) (.ret (([],K7 x0 x1,()))) (.d8 ((1:Int)≤x0∧x0≤(10:Int)∧True) (.ret ((a0I (Int.toNat x0) (P7 x1),(0:Int),()))))):=by kernel_rfl

theorem b31:b6r.Valid Try.prog 105:=by
  refine p7.o8 b3a rfl rfl Try.func105 (c:=b8 Try.prog 105) rfl rfl b2A rfl ?_
  rintro ⟨(n:Int),(l:List Int),⟨⟩⟩ - ⟨-,⟨-,hr⟩,-⟩
  refine j8 (n:=1000) b3a b2A ?_
  refine g9 (c2v n l) ?_
  simp only [o5,Tree.holds,true_and,true_implies,decide_eq_true_eq,decide_eq_false_iff_not,Bool.not_eq_true',Bool.not_eq_false',Int.toNat_natCast,q8,List.length_set,List.length_cons,List.length_nil]
  refine ⟨fun a=>?_,fun a=>?_⟩
  · show (([],K7 n l,()):List Int×Int×Unit)=a1Z n l
    rw [a1Z,if_pos a]
  · obtain ⟨m,rfl,hq,-⟩:=b74 (fun s hs=>a5J.1 (hr s hs)) (Decidable.not_not.1 a)
    have:=hq.n1
    refine ⟨⟨by omega,by omega,trivial⟩,fun _=>?_⟩
    show ((a0I (Int.toNat (m:Int)) (P7 l),0,()):List Int×Int×Unit)=a1Z (m:Int) l
    rw [a1Z,if_neg a]; rfl
end Go.Proofs.Ytekbamiaenbhjaa
