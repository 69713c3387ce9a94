/- cmp.Compare and cmp.Or at int. No condition. -/
import Derived.Test.YtekbamiaenbhjaaBase
namespace Go.Proofs.Ytekbamiaenbhjaa
open Go.Ex
set_option maxRecDepth 100000
def W9 (x y:Int):Int:=if x<y then -1 else if y<x then 1 else 0
def b49:w6:={ ps:=[.v s6],rs:=[.bool],pre:=fun _=>True,fn:=fun _=>(false,()),out:=fun _=>() }
noncomputable def b5Y:Env:={ P:=Try.prog,tt:=tt,C7:=[],res:=[Go.ResultVar.tmp 2],rs:=[Ty.bool],ps:=[PK.v (Ty.int IntKind.i64)],C5:=[],nt:=6 }
theorem b2b:B0 b5Y:=B9 t8 trivial
theorem b1M:D0 b5Y Try.f223:=⟨rfl,rfl⟩
theorem c0t (x0:Int):exec b5Y 1000 [.code (d9 Try.prog 223)] (y8 b49.ps ((x0,()))) =
  .ret ((decide (x0≠x0),())):=by kernel_rfl
theorem b21:b49.Valid Try.prog 223:=by
  refine w6.t6 b2b rfl rfl Try.func223 (c:=d9 Try.prog 223) rfl rfl b1M rfl ?_
  rintro ⟨(x:Int),⟨⟩⟩ - -
  refine l8 (n:=1000) b2b b1M ?_
  refine j9 (c0t x) ?_
  show ((decide (x≠x),()):Bool×Unit)=(false,())
  simp
def b5r:w6:={ ps:=[.v s6,.v s6],rs:=[s6],pre:=fun _=>True,fn:=fun x=>(W9 x.1 x.2.1,()),out:=fun _=>() }
noncomputable def b57:Env:={ P:=Try.prog,tt:=tt,C7:=[(223,b49)],res:=[Go.ResultVar.tmp 4],rs:=[Ty.int IntKind.i64],ps:=[PK.v (Ty.int IntKind.i64),PK.v (Ty.int IntKind.i64)],C5:=[],nt:=20 }
theorem b2w:B0 b57:=B9 t8 ⟨b21,trivial⟩
theorem b1U:D0 b57 Try.f132:=⟨rfl,rfl⟩
theorem c0L (x0:Int) (x1:Int):exec b57 1000 [.code (d9 Try.prog 132)] (y8 b5r.ps ((x0,x1,()))) =
  .f9 (True) (.f9 (True) (cond (decide (x0<x1)) (.ret (((-1:Int),()))) (cond (decide (x1<x0)) (.ret (((1:Int),()))) (.ret (((0:Int),())))))):=by kernel_rfl
theorem b3j:b5r.Valid Try.prog 132:=by
  refine w6.t6 b2w rfl rfl Try.func132 (c:=d9 Try.prog 132) rfl rfl b1U rfl ?_
  rintro ⟨(x:Int),(y:Int),⟨⟩⟩ - -
  refine l8 (n:=1000) b2w b1U ?_
  refine j9 (c0L x y) ?_
  simp only [s4,Tree.holds,true_and,true_implies,decide_eq_true_eq,decide_eq_false_iff_not,Bool.not_eq_true',Bool.not_eq_false',Int.toNat_natCast,x5,List.length_set,List.length_cons,List.length_nil]
  repeat' first|exact trivial|(refine And.intro ?_ ?_)|(intro _)
  all_goals (show ((_,()):Int×Unit)=(W9 x y,()); simp [W9, *])
def orF:List Int→Int
  | []=>0
  | x::l=>if x≠0 then x else orF l
def b8n:w6:={ ps:=[.v (.d0 false s6)],rs:=[s6],pre:=fun _=>True,fn:=fun x=>(orF x.1,()),out:=fun _=>() }
noncomputable def b5V:Env:={ P:=Try.prog,tt:=tt,C7:=[],res:=[Go.ResultVar.tmp 2],rs:=[Ty.int IntKind.i64],ps:=[PK.v (Ty.d0 false (Ty.int IntKind.i64))],C5:=[(3,[(3,none),(6,none),(7,none),(8,none)])],nt:=18 }
theorem a8A:B0 b5V:=B9 t8 trivial
theorem a8v:D0 b5V Try.f131:=⟨rfl,rfl⟩
theorem c1q (x0:List Int):exec b5V 1000 [.code (d9 Try.prog 131)] (y8 b8n.ps ((x0,()))) =
  .cut (i5 (d9 Try.prog 131) 3).1 (i5 (d9 Try.prog 131) 3).2 (St.mk [(3,AV.val (Ty.int IntKind.i64) (0:Int)),(6,AV.val (Ty.d0 false (Ty.int IntKind.i64)) x0),(7,AV.val (Ty.int IntKind.i64) (↑(List.length x0):Int)),(8,AV.val (Ty.int IntKind.i64) (0:Int))] []):=by kernel_rfl
def b4g (v3:Int) (v6:List Int) (v7:Int) (v8:Int):St:=St.mk [(3,AV.val (Ty.int IntKind.i64) v3),(6,AV.val (Ty.d0 false (Ty.int IntKind.i64)) v6),(7,AV.val (Ty.int IntKind.i64) v7),(8,AV.val (Ty.int IntKind.i64) v8)] []
theorem c0q (v3:Int) (v6:List Int) (v7:Int) (v8:Int):exec b5V 1000 (.code (i5 (d9 Try.prog 131) 3).1::.inLoop (i5 (d9 Try.prog 131) 3).1::(i5 (d9 Try.prog 131) 3).2) (b4g v3 v6 v7 v8) =
  cond (decide (v8<v7)) (.f9 ((0:Int)≤v8∧v8<(↑(List.length v6):Int)) (cond (decide (List.getD v6 (Int.toNat v8) (0:Int)≠v3)) (.ret ((List.getD v6 (Int.toNat v8) (0:Int),()))) (.f9 (C3 IntKind.i64 (v8+(1:Int))) (.cut (i5 (d9 Try.prog 131) 3).1 (i5 (d9 Try.prog 131) 3).2 (St.mk [(3,AV.val (Ty.int IntKind.i64) v3),(6,AV.val (Ty.d0 false (Ty.int IntKind.i64)) v6),(7,AV.val (Ty.int IntKind.i64) v7),(8,AV.val (Ty.int IntKind.i64) (v8+(1:Int)))] []))))) (.ret ((v3,()))):=by kernel_rfl
theorem b46:b8n.Valid Try.prog 131:=by
  refine w6.t6 a8A rfl rfl Try.func131 (c:=d9 Try.prog 131) rfl rfl a8v rfl ?_
  rintro ⟨(l:List Int),⟨⟩⟩ - ⟨⟨hl,-⟩,-⟩
  have hl:l.length≤9223372036854775807:=hl
  refine l8 (n:=1000) a8A a8v ?_
  refine j9 (c1q l) ?_
  refine Reach.N1 a8A a8v (fun i:Nat=>b4g (0:Int) l (l.length:Int) (i:Int)) (fun i=>i≤l.length∧orF l=orF (l.drop i)) (fun i=>l.length - i) 1000 (fun _=>⟨x4 rfl,x4 rfl⟩) ?_ 0 ⟨Nat.zero_le _,rfl⟩
  rintro i ⟨k1,k2⟩ - ih
  refine j9 (c0q ..) ?_
  simp only [s4,Tree.holds,true_and,true_implies,decide_eq_true_eq,decide_eq_false_iff_not,Bool.not_eq_true',Bool.not_eq_false',Int.toNat_natCast,x5,List.length_set,List.length_cons,List.length_nil]
  refine ⟨fun c=>⟨by omega,fun _=>⟨fun d=>?_,fun d=>⟨by omega,fun _=>ih (i+1) ⟨by omega,?_⟩ (by omega)⟩⟩⟩,fun c=>?_⟩
  · rw [P0 (show i<l.length by omega) 0,orF,if_pos d] at k2
    show ((l.getD i 0,()):Int×Unit)=(orF l,())
    rw [k2]
  · rw [P0 (show i<l.length by omega) 0,orF,if_neg (by simpa using d)] at k2
    exact k2
  · rw [List.drop_eq_nil_of_le (by omega)] at k2
    show ((0,()):Int×Unit)=(orF l,())
    rw [k2]; rfl
end Go.Proofs.Ytekbamiaenbhjaa
