/- stamp.Total's comparison. -/
import Derived.Test.YtekbamiaenbhjaaCmpI
import Derived.Test.YtekbamiaenbhjaaStamp
import Derived.Test.YtekbamiaenbhjaaSymP
namespace Go.Proofs.Ytekbamiaenbhjaa
open Go.Ex Go.Sort
set_option maxRecDepth 100000
abbrev y8:=Int×Int×Int×Unit
abbrev V5:y8:=(0,0,0,())
def a4k (l:List Int) (h:List y8) (a b:Int):Int:=if a1T (l.getD a.toNat 0) (l.getD b.toNat 0)≠0 then a1T (l.getD a.toNat 0) (l.getD b.toNat 0) else a1T (h.getD a.toNat V5).1 (h.getD b.toNat V5).1
def b2B:w9:={ ps:=[.v i5,.v i5,.rd (.d0 false i5),.rd (.d0 false Event)],rs:=[i5],pre:=fun x=>((LE.le (α:=Int) 0 x.1∧LT.lt (α:=Int) x.1 (List.length (α:=Int) x.2.2.1))∧(LE.le (α:=Int) 0 x.2.1∧LT.lt (α:=Int) x.2.1 (List.length (α:=Int) x.2.2.1)))∧List.length (α:=Int) x.2.2.1=List.length (α:=y8) x.2.2.2.1,fn:=fun x=>(a4k x.2.2.1 x.2.2.2.1 x.1 x.2.1,()),out:=fun _=>() }
noncomputable def b8v:Env:={ P:=Try.prog,tt:=tt,F2:=[(132,b2F),(131,c1N)],res:=[Go.ResultVar.tmp 6],rs:=[Ty.int IntKind.i64],ps:=[PK.v i5,PK.v i5,PK.rd (Ty.d0 false i5),PK.rd (Ty.d0 false r8)],D8:=[],nt:=29 }
theorem b4t:B6 b8v:=D0 w5 ⟨a71,b7V,trivial⟩
theorem b4l:E3 b8v Try.f130:=⟨rfl,rfl⟩
theorem c34 (x0:Int) (x1:Int) (x2:List Int) (x3:List (Int×Int×Int×Unit)):exec b8v 1000 [.code (d8 Try.prog 130)] (A5 b2B.ps ((x0,x1,x2,x3,()))) =
  .e8 ((0:Int)≤x0∧x0<(↑(List.length x2):Int)) (.e8 ((0:Int)≤x1∧x1<(↑(List.length x2):Int)) (.e8 (True) (.e8 ((0:Int)≤x0∧x0<(↑(List.length x3):Int)) (.e8 ((0:Int)≤x1∧x1<(↑(List.length x3):Int)) (.e8 (True) (.e8 (True) (.ret ((orF (List.set (List.set [(0:Int),(0:Int)] (Int.toNat (↑0:Int)) (a1T (List.getD x2 (Int.toNat x0) (0:Int)) (List.getD x2 (Int.toNat x1) (0:Int)))) (Int.toNat (↑1:Int)) (a1T (Prod.fst (List.getD x3 (Int.toNat x0) ((0:Int),(0:Int),(0:Int),()))) (Prod.fst (List.getD x3 (Int.toNat x1) ((0:Int),(0:Int),(0:Int),()))))),()))))))))):=by kernel_rfl
theorem a7U:b2B.Valid Try.prog 130:=by
  refine w9.u7 b4t rfl rfl Try.func130 (c:=d8 Try.prog 130) rfl rfl b4l rfl ?_
  rintro ⟨(a:Int),(b:Int),(l:List Int),(h:List y8),⟨⟩⟩ ⟨⟨(ha:0≤a∧a<(l.length:Int)),(hb:0≤b∧b<(l.length:Int))⟩,(hl:l.length=h.length)⟩ -
  refine n7 (n:=1000) b4t b4l ?_
  refine g9 (c34 a b l h) ?_
  simp only [i9,Tree.holds,true_and,true_implies,decide_eq_true_eq,decide_eq_false_iff_not,Bool.not_eq_true',Bool.not_eq_false',Int.toNat_natCast,l7,List.length_set,List.length_cons,List.length_nil]
  refine ⟨ha,fun _=>⟨hb,fun _=>⟨by omega,fun _=>⟨by omega,fun _=>?_⟩⟩⟩⟩
  generalize hx:a1T (l.getD a.toNat 0) (l.getD b.toNat 0)=x
  generalize hy:a1T (h.getD a.toNat V5).1 (h.getD b.toNat V5).1=y
  show ((orF [x,y],()):Int×Unit)=(a4k l h a b,())
  rw [a4k,hx,hy]
  by_cases c:x=0
  · subst c
    by_cases d:y=0
    · subst d; rfl
    · simp [orF,d]
  · simp [orF,c]
end Go.Proofs.Ytekbamiaenbhjaa
