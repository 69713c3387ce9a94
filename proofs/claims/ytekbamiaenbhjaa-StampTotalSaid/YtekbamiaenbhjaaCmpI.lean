/- cmp.Compare and cmp.Or at int. No condition. -/
import Derived.Test.YtekbamiaenbhjaaBase
namespace Go.Proofs.Ytekbamiaenbhjaa
open Go.Ex
set_option maxRecDepth 100000
def a2Q (x y:Int):Int:=if x<y then -1 else if y<x then 1 else 0
def b4l:D7:={ ps:=[.v C8],rs:=[.bool],pre:=fun _=>True,fn:=fun _=>(false,()),out:=fun _=>() }
noncomputable def b4T:Env:={ P:=Try.prog,tt:=tt,H8:=[],res:=[Go.ResultVar.tmp 2],rs:=[Ty.bool],ps:=[PK.v (Ty.int IntKind.i64)],K0:=[],nt:=6 }
theorem b1F:I6 b4T:=L6 y7 trivial
theorem b1v:M3 b4T Try.f223:=⟨rfl,rfl⟩
theorem b81 (x0:Int):exec b4T 1000 [.code (d9 Try.prog 223)] (H7 b4l.ps ((x0,()))) =
  .ret ((decide (x0≠x0),())):=by kernel_rfl
theorem b2j:b4l.Valid Try.prog 223:=by
  refine D7.E6 b1F rfl rfl Try.func223 (c:=d9 Try.prog 223) rfl rfl b1v rfl ?_
  rintro ⟨(x:Int),⟨⟩⟩ - -
  refine s4 (n:=1000) b1F b1v ?_
  refine n9 (b81 x) ?_
  show ((decide (x≠x),()):Bool×Unit)=(false,())
  simp
def b4s:D7:={ ps:=[.v C8,.v C8],rs:=[C8],pre:=fun _=>True,fn:=fun x=>(a2Q x.1 x.2.1,()),out:=fun _=>() }
noncomputable def b4X:Env:={ P:=Try.prog,tt:=tt,H8:=[(223,b4l)],res:=[Go.ResultVar.tmp 4],rs:=[Ty.int IntKind.i64],ps:=[PK.v (Ty.int IntKind.i64),PK.v (Ty.int IntKind.i64)],K0:=[],nt:=20 }
theorem b1M:I6 b4X:=L6 y7 ⟨b2j,trivial⟩
theorem b1y:M3 b4X Try.f132:=⟨rfl,rfl⟩
theorem b87 (x0:Int) (x1:Int):exec b4X 1000 [.code (d9 Try.prog 132)] (H7 b4s.ps ((x0,x1,()))) =
  .i5 (True) (.i5 (True) (cond (decide (x0<x1)) (.ret (((-1:Int),()))) (cond (decide (x1<x0)) (.ret (((1:Int),()))) (.ret (((0:Int),())))))):=by kernel_rfl
theorem b2q:b4s.Valid Try.prog 132:=by
  refine D7.E6 b1M rfl rfl Try.func132 (c:=d9 Try.prog 132) rfl rfl b1y rfl ?_
  rintro ⟨(x:Int),(y:Int),⟨⟩⟩ - -
  refine s4 (n:=1000) b1M b1y ?_
  refine n9 (b87 x y) ?_
  simp only [q8,Tree.holds,true_and,true_implies,decide_eq_true_eq,decide_eq_false_iff_not,Bool.not_eq_true',Bool.not_eq_false',Int.toNat_natCast,w7,List.length_set,List.length_cons,List.length_nil]
  repeat' first|exact trivial|(refine And.intro ?_ ?_)|(intro _)
  all_goals (show ((_,()):Int×Unit)=(a2Q x y,()); simp [a2Q, *])
def orF:List Int→Int
  | []=>0
  | x::l=>if x≠0 then x else orF l
def b7n:D7:={ ps:=[.v (.d0 false C8)],rs:=[C8],pre:=fun _=>True,fn:=fun x=>(orF x.1,()),out:=fun _=>() }
noncomputable def b4S:Env:={ P:=Try.prog,tt:=tt,H8:=[],res:=[Go.ResultVar.tmp 2],rs:=[Ty.int IntKind.i64],ps:=[PK.v (Ty.d0 false (Ty.int IntKind.i64))],K0:=[(3,[(3,none),(6,none),(7,none),(8,none)])],nt:=18 }
theorem a8K:I6 b4S:=L6 y7 trivial
theorem a8I:M3 b4S Try.f131:=⟨rfl,rfl⟩
theorem b9I (x0:List Int):exec b4S 1000 [.code (d9 Try.prog 131)] (H7 b7n.ps ((x0,()))) =
  .cut (e8 (d9 Try.prog 131) 3).1 (e8 (d9 Try.prog 131) 3).2 (St.mk [(3,AV.val (Ty.int IntKind.i64) (0:Int)),(6,AV.val (Ty.d0 false (Ty.int IntKind.i64)) x0),(7,AV.val (Ty.int IntKind.i64) (↑(List.length x0):Int)),(8,AV.val (Ty.int IntKind.i64) (0:Int))] []):=by kernel_rfl
def b3p (v3:Int) (v6:List Int) (v7:Int) (v8:Int):St:=St.mk [(3,AV.val (Ty.int IntKind.i64) v3),(6,AV.val (Ty.d0 false (Ty.int IntKind.i64)) v6),(7,AV.val (Ty.int IntKind.i64) v7),(8,AV.val (Ty.int IntKind.i64) v8)] []
theorem b80 (v3:Int) (v6:List Int) (v7:Int) (v8:Int):exec b4S 1000 (.code (e8 (d9 Try.prog 131) 3).1::.inLoop (e8 (d9 Try.prog 131) 3).1::(e8 (d9 Try.prog 131) 3).2) (b3p v3 v6 v7 v8) =
  cond (decide (v8<v7)) (.i5 ((0:Int)≤v8∧v8<(↑(List.length v6):Int)) (cond (decide (List.getD v6 (Int.toNat v8) (0:Int)≠v3)) (.ret ((List.getD v6 (Int.toNat v8) (0:Int),()))) (.i5 (v5 IntKind.i64 (v8+(1:Int))) (.cut (e8 (d9 Try.prog 131) 3).1 (e8 (d9 Try.prog 131) 3).2 (St.mk [(3,AV.val (Ty.int IntKind.i64) v3),(6,AV.val (Ty.d0 false (Ty.int IntKind.i64)) v6),(7,AV.val (Ty.int IntKind.i64) v7),(8,AV.val (Ty.int IntKind.i64) (v8+(1:Int)))] []))))) (.ret ((v3,()))):=by kernel_rfl
theorem b4j:b7n.Valid Try.prog 131:=by
  refine D7.E6 a8K rfl rfl Try.func131 (c:=d9 Try.prog 131) rfl rfl a8I rfl ?_
  rintro ⟨(l:List Int),⟨⟩⟩ - ⟨⟨hl,-⟩,-⟩
  have hl:l.length≤9223372036854775807:=hl
  refine s4 (n:=1000) a8K a8I ?_
  refine n9 (b9I l) ?_
  refine Reach.K1 a8K a8I (fun i:Nat=>b3p (0:Int) l (l.length:Int) (i:Int)) (fun i=>i≤l.length∧orF l=orF (l.drop i)) (fun i=>l.length - i) 1000 (fun _=>⟨s6 rfl,s6 rfl⟩) ?_ 0 ⟨Nat.zero_le _,rfl⟩
  rintro i ⟨k1,k2⟩ - ih
  refine n9 (b80 ..) ?_
  simp only [q8,Tree.holds,true_and,true_implies,decide_eq_true_eq,decide_eq_false_iff_not,Bool.not_eq_true',Bool.not_eq_false',Int.toNat_natCast,w7,List.length_set,List.length_cons,List.length_nil]
  refine ⟨fun c=>⟨by omega,fun _=>⟨fun d=>?_,fun d=>⟨by omega,fun _=>ih (i+1) ⟨by omega,?_⟩ (by omega)⟩⟩⟩,fun c=>?_⟩
  · rw [V9 (show i<l.length by omega) 0,orF,if_pos d] at k2
    show ((l.getD i 0,()):Int×Unit)=(orF l,())
    rw [k2]
  · rw [V9 (show i<l.length by omega) 0,orF,if_neg (by simpa using d)] at k2
    exact k2
  · rw [List.drop_eq_nil_of_le (by omega)] at k2
    show ((0,()):Int×Unit)=(orF l,())
    rw [k2]; rfl
end Go.Proofs.Ytekbamiaenbhjaa
