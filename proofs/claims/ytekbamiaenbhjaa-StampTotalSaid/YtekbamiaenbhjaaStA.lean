/- stamp.Total's comparison. -/
import Derived.Test.YtekbamiaenbhjaaCmpI
import Derived.Test.YtekbamiaenbhjaaStamp
import Derived.Test.YtekbamiaenbhjaaSymP
namespace Go.Proofs.Ytekbamiaenbhjaa
open Go.Ex Go.Sort
set_option maxRecDepth 100000
abbrev I5:=Int×Int×Int×Unit
abbrev ev0:I5:=(0,0,0,())
def a3j (l:List Int) (h:List I5) (a b:Int):Int:=if a2Q (l.getD a.toNat 0) (l.getD b.toNat 0)≠0 then a2Q (l.getD a.toNat 0) (l.getD b.toNat 0) else a2Q (h.getD a.toNat ev0).1 (h.getD b.toNat ev0).1
def a9U:D7:={ ps:=[.v C8,.v C8,.rd (.d0 false C8),.rd (.d0 false Event)],rs:=[C8],pre:=fun x=>((LE.le (α:=Int) 0 x.1∧LT.lt (α:=Int) x.1 (List.length (α:=Int) x.2.2.1))∧(LE.le (α:=Int) 0 x.2.1∧LT.lt (α:=Int) x.2.1 (List.length (α:=Int) x.2.2.1)))∧List.length (α:=Int) x.2.2.1=List.length (α:=I5) x.2.2.2.1,fn:=fun x=>(a3j x.2.2.1 x.2.2.2.1 x.1 x.2.1,()),out:=fun _=>() }
noncomputable def b4P:Env:={ P:=Try.prog,tt:=tt,H8:=[(132,b4s),(131,b7n)],res:=[Go.ResultVar.tmp 6],rs:=[Ty.int IntKind.i64],ps:=[PK.v (Ty.int IntKind.i64),PK.v (Ty.int IntKind.i64),PK.rd (Ty.d0 false (Ty.int IntKind.i64)),PK.rd (Ty.d0 false p7)],K0:=[],nt:=29 }
theorem b1z:I6 b4P:=L6 y7 ⟨b2q,b4j,trivial⟩
theorem b1u:M3 b4P Try.f130:=⟨rfl,rfl⟩
theorem b8W (x0:Int) (x1:Int) (x2:List Int) (x3:List (Int×Int×Int×Unit)):exec b4P 1000 [.code (d9 Try.prog 130)] (H7 a9U.ps ((x0,x1,x2,x3,()))) =
  .i5 ((0:Int)≤x0∧x0<(↑(List.length x2):Int)) (.i5 ((0:Int)≤x1∧x1<(↑(List.length x2):Int)) (.i5 (True) (.i5 ((0:Int)≤x0∧x0<(↑(List.length x3):Int)) (.i5 ((0:Int)≤x1∧x1<(↑(List.length x3):Int)) (.i5 (True) (.i5 (True) (.ret ((orF (List.set (List.set [(0:Int),(0:Int)] (Int.toNat (↑0:Int)) (a2Q (List.getD x2 (Int.toNat x0) (0:Int)) (List.getD x2 (Int.toNat x1) (0:Int)))) (Int.toNat (↑1:Int)) (a2Q (Prod.fst (List.getD x3 (Int.toNat x0) ((0:Int),(0:Int),(0:Int),()))) (Prod.fst (List.getD x3 (Int.toNat x1) ((0:Int),(0:Int),(0:Int),()))))),()))))))))):=by kernel_rfl
theorem a6z:a9U.Valid Try.prog 130:=by
  refine D7.E6 b1z rfl rfl Try.func130 (c:=d9 Try.prog 130) rfl rfl b1u rfl ?_
  rintro ⟨(a:Int),(b:Int),(l:List Int),(h:List I5),⟨⟩⟩ ⟨⟨(ha:0≤a∧a<(l.length:Int)),(hb:0≤b∧b<(l.length:Int))⟩,(hl:l.length=h.length)⟩ -
  refine s4 (n:=1000) b1z b1u ?_
  refine n9 (b8W a b l h) ?_
  simp only [q8,Tree.holds,true_and,true_implies,decide_eq_true_eq,decide_eq_false_iff_not,Bool.not_eq_true',Bool.not_eq_false',Int.toNat_natCast,w7,List.length_set,List.length_cons,List.length_nil]
  refine ⟨ha,fun _=>⟨hb,fun _=>⟨by omega,fun _=>⟨by omega,fun _=>?_⟩⟩⟩⟩
  generalize hx:a2Q (l.getD a.toNat 0) (l.getD b.toNat 0)=x
  generalize hy:a2Q (h.getD a.toNat ev0).1 (h.getD b.toNat ev0).1=y
  show ((orF [x,y],()):Int×Unit)=(a3j l h a b,())
  rw [a3j,hx,hy]
  by_cases c:x=0
  · subst c
    by_cases d:y=0
    · subst d; rfl
    · simp [orF,d]
  · simp [orF,c]
end Go.Proofs.Ytekbamiaenbhjaa
