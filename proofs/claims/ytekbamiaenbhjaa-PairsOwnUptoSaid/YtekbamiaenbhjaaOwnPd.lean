/- Contracts of match and poset whose answers are not looked into. -/
import Derived.Test.YtekbamiaenbhjaaOwnPa
namespace Go.Proofs.Ytekbamiaenbhjaa
open Go.Ex
set_option maxRecDepth 100000
noncomputable def a1g:{ f:Int→Int→List l6→List l6×Int×Unit // f=M2 }:=Classical.choice ⟨⟨M2,rfl⟩⟩
def c1G (g:Int→Int→List l6→List l6×Int×Unit):w8:={ ps:=[.v A4,.v A4,.v (.d0 false l5)],rs:=[.d0 true l5,A4],pre:=fun _=>True,fn:=fun x=>g x.1 x.2.1 x.2.2.1,out:=fun _=>() }
noncomputable def a8i:w8:={ ps:=[.v A4,.v A4,.v (.d0 false l5)],rs:=[.d0 true l5,A4],pre:=fun _=>True,fn:=fun x=>a1g.1 x.1 x.2.1 x.2.2.1,out:=fun _=>() }
theorem b2h:a8i.Valid Try.prog 96:=by
  have e:a8i=a8h:=(show a8i=c1G a1g.1 from rfl).trans (by rw [a1g.2]; rfl)
  rw [e]; exact a5z
noncomputable def M1:{ f:Int→Int→List l6→List Int×List Int×Int×Unit // f=a1r }:=Classical.choice ⟨⟨a1r,rfl⟩⟩
def c1c (g:Int→Int→List l6→List Int×List Int×Int×Unit):w8:={ ps:=[.v A4,.v A4,.v (.d0 false l5)],rs:=[.d0 true A4,.d0 true A4,A4],pre:=fun _=>True,fn:=fun x=>g x.1 x.2.1 x.2.2.1,out:=fun _=>() }
noncomputable def a6f:w8:={ ps:=[.v A4,.v A4,.v (.d0 false l5)],rs:=[.d0 true A4,.d0 true A4,A4],pre:=fun _=>True,fn:=fun x=>M1.1 x.1 x.2.1 x.2.2.1,out:=fun _=>() }
theorem b0K:a6f.Valid Try.prog 98:=by
  have e:a6f=b2k:=(show a6f=c1c M1.1 from rfl).trans (by rw [M1.2]; rfl)
  rw [e]; exact b2j
noncomputable def Q8:{ f:Int→List l6→List l6×Int×Unit // f=a0N }:=Classical.choice ⟨⟨a0N,rfl⟩⟩
def c1e (g:Int→List l6→List l6×Int×Unit):w8:={ ps:=[.v Pos],rs:=[.d0 true l5,A4],pre:=fun _=>True,fn:=fun x=>g x.1.1 x.1.2.1,out:=fun _=>() }
noncomputable def a6g:w8:={ ps:=[.v Pos],rs:=[.d0 true l5,A4],pre:=fun _=>True,fn:=fun x=>Q8.1 x.1.1 x.1.2.1,out:=fun _=>() }
theorem b0N:a6g.Valid Try.prog 99:=by
  have e:a6g=a9c:=(show a6g=c1e Q8.1 from rfl).trans (by rw [Q8.2]; rfl)
  rw [e]; exact b0M
noncomputable def N6:{ f:Int→List l6→List (List Int)×Int×Unit // f=Z2 }:=Classical.choice ⟨⟨Z2,rfl⟩⟩
def c0i (g:Int→List l6→List (List Int)×Int×Unit):w8:={ ps:=[.v Pos],rs:=[.d0 true (.d0 true A4),A4],pre:=fun _=>True,fn:=fun x=>g x.1.1 x.1.2.1,out:=fun _=>() }
noncomputable def a4F:w8:={ ps:=[.v Pos],rs:=[.d0 true (.d0 true A4),A4],pre:=fun _=>True,fn:=fun x=>N6.1 x.1.1 x.1.2.1,out:=fun _=>() }
theorem a9d:a4F.Valid Try.prog 29:=by
  have e:a4F=a9e:=(show a4F=c0i N6.1 from rfl).trans (by rw [N6.2]; rfl)
  rw [e]; exact b0O
end Go.Proofs.Ytekbamiaenbhjaa
