/- cmp.Compare and cmp.Or at int. No condition. -/
import Derived.Test.YtekbamiaenbhjaaBase
namespace Go.Proofs.Ytekbamiaenbhjaa
open Go.Ex
set_option maxRecDepth 100000
def a1T (x y:Int):Int:=if x<y then -1 else if y<x then 1 else 0
def b7X:w9:={ ps:=[.v i5],rs:=[.bool],pre:=fun _=>True,fn:=fun _=>(false,()),out:=fun _=>() }
noncomputable def b8E:Env:={ P:=Try.prog,tt:=tt,F2:=[],res:=[Go.ResultVar.tmp 2],rs:=[Ty.bool],ps:=[PK.v i5],D8:=[],nt:=6 }
theorem b4A:B6 b8E:=D0 w5 trivial
theorem b4m:E3 b8E Try.f223:=⟨rfl,rfl⟩
theorem c4b (x0:Int):exec b8E 1000 [.code (d8 Try.prog 223)] (A5 b7X.ps ((x0,()))) =
  .ret ((decide (x0≠x0),())):=by kernel_rfl
theorem b5l:b7X.Valid Try.prog 223:=by
  refine w9.u7 b4A rfl rfl Try.func223 (c:=d8 Try.prog 223) rfl rfl b4m rfl ?_
  rintro ⟨(x:Int),⟨⟩⟩ - -
  refine n7 (n:=1000) b4A b4m ?_
  refine g9 (c4b x) ?_
  show ((decide (x≠x),()):Bool×Unit)=(false,())
  simp
def b2F:w9:={ ps:=[.v i5,.v i5],rs:=[i5],pre:=fun _=>True,fn:=fun x=>(a1T x.1 x.2.1,()),out:=fun _=>() }
noncomputable def b8I:Env:={ P:=Try.prog,tt:=tt,F2:=[(223,b7X)],res:=[Go.ResultVar.tmp 4],rs:=[Ty.int IntKind.i64],ps:=[PK.v i5,PK.v i5],D8:=[],nt:=20 }
theorem b4N:B6 b8I:=D0 w5 ⟨b5l,trivial⟩
theorem b4p:E3 b8I Try.f132:=⟨rfl,rfl⟩
theorem c4j (x0:Int) (x1:Int):exec b8I 1000 [.code (d8 Try.prog 132)] (A5 b2F.ps ((x0,x1,()))) =
  .e8 (True) (.e8 (True) (cond (decide (x0<x1)) (.ret (((-1:Int),()))) (cond (decide (x1<x0)) (.ret (((1:Int),()))) (.ret (((0:Int),())))))):=by kernel_rfl
theorem a71:b2F.Valid Try.prog 132:=by
  refine w9.u7 b4N rfl rfl Try.func132 (c:=d8 Try.prog 132) rfl rfl b4p rfl ?_
  rintro ⟨(x:Int),(y:Int),⟨⟩⟩ - -
  refine n7 (n:=1000) b4N b4p ?_
  refine g9 (c4j x y) ?_
  simp only [i9,Tree.holds,true_and,true_implies,decide_eq_true_eq,decide_eq_false_iff_not,Bool.not_eq_true',Bool.not_eq_false',Int.toNat_natCast,l7,List.length_set,List.length_cons,List.length_nil]
  repeat' first|exact trivial|(refine And.intro ?_ ?_)|(intro _)
  all_goals (show ((_,()):Int×Unit)=(a1T x y,()); simp [a1T, *])
def orF:List Int→Int
  | []=>0
  | x::l=>if x≠0 then x else orF l
def c1N:w9:={ ps:=[.v (.d0 false i5)],rs:=[i5],pre:=fun _=>True,fn:=fun x=>(orF x.1,()),out:=fun _=>() }
noncomputable def b8D:Env:={ P:=Try.prog,tt:=tt,F2:=[],res:=[Go.ResultVar.tmp 2],rs:=[Ty.int IntKind.i64],ps:=[PK.v (Ty.d0 false i5)],D8:=[(3,[(3,none),(6,none),(7,none),(8,none)])],nt:=18 }
theorem b0Y:B6 b8D:=D0 w5 trivial
theorem b0U:E3 b8D Try.f131:=⟨rfl,rfl⟩
theorem c4Y (x0:List Int):exec b8D 1000 [.code (d8 Try.prog 131)] (A5 c1N.ps ((x0,()))) =
  .ctL (d9 (d8 Try.prog 131) 3) (St.mk [(3,vI (0:Int)),(6,AV.val (Ty.d0 false i5) x0),(7,vI (↑(List.length x0):Int)),(8,vI (0:Int))] []):=by kernel_rfl
def b6G (v3:Int) (v6:List Int) (v7:Int) (v8:Int):St:=St.mk [(3,vI v3),(6,AV.val (Ty.d0 false i5) v6),(7,vI v7),(8,vI v8)] []
theorem c4a (v3:Int) (v6:List Int) (v7:Int) (v8:Int):exec b8D 1000 (.code (d9 (d8 Try.prog 131) 3).1::.inLoop (d9 (d8 Try.prog 131) 3).1::(d9 (d8 Try.prog 131) 3).2) (b6G v3 v6 v7 v8) =
  cond (decide (v8<v7)) (.e8 ((0:Int)≤v8∧v8<(↑(List.length v6):Int)) (cond (decide (List.getD v6 (Int.toNat v8) (0:Int)≠v3)) (.ret ((List.getD v6 (Int.toNat v8) (0:Int),()))) (.e8 (r9 IntKind.i64 (v8+(1:Int))) (.ctL (d9 (d8 Try.prog 131) 3) (St.mk [(3,vI v3),(6,AV.val (Ty.d0 false i5) v6),(7,vI v7),(8,vI (v8+(1:Int)))] []))))) (.ret ((v3,()))):=by kernel_rfl
theorem b7V:c1N.Valid Try.prog 131:=by
  refine w9.u7 b0Y rfl rfl Try.func131 (c:=d8 Try.prog 131) rfl rfl b0U rfl ?_
  rintro ⟨(l:List Int),⟨⟩⟩ - ⟨⟨hl,-⟩,-⟩
  have hl:l.length≤9223372036854775807:=hl
  refine n7 (n:=1000) b0Y b0U ?_
  refine g9 (c4Y l) ?_
  refine Reach.C1 b0Y b0U (fun i:Nat=>b6G (0:Int) l (l.length:Int) (i:Int)) (fun i=>i≤l.length∧orF l=orF (l.drop i)) (fun i=>l.length - i) 1000 (fun _=>⟨j7 rfl,j7 rfl⟩) ?_ 0 ⟨Nat.zero_le _,rfl⟩
  rintro i ⟨k1,k2⟩ - ih
  refine g9 (c4a ..) ?_
  simp only [i9,Tree.holds,true_and,true_implies,decide_eq_true_eq,decide_eq_false_iff_not,Bool.not_eq_true',Bool.not_eq_false',Int.toNat_natCast,l7,List.length_set,List.length_cons,List.length_nil]
  refine ⟨fun c=>⟨by omega,fun _=>⟨fun d=>?_,fun d=>⟨by omega,fun _=>ih (i+1) ⟨by omega,?_⟩ (by omega)⟩⟩⟩,fun c=>?_⟩
  · rw [S3 (show i<l.length by omega) 0,orF,if_pos d] at k2
    show ((l.getD i 0,()):Int×Unit)=(orF l,())
    rw [k2]
  · rw [S3 (show i<l.length by omega) 0,orF,if_neg (by simpa using d)] at k2
    exact k2
  · rw [List.drop_eq_nil_of_le (by omega)] at k2
    show ((0,()):Int×Unit)=(orF l,())
    rw [k2]; rfl
end Go.Proofs.Ytekbamiaenbhjaa
