/- SetsOwn: the walk. -/
import Derived.Test.YtekbamiaenbhjaaOwnT
namespace Go.Proofs.Ytekbamiaenbhjaa
open Go.Ex
set_option maxRecDepth 100000
theorem a1E {α:Type} {f:α→Nat} (h:∀ x,1≤f x):∀ l:List α,l.length≤M5 f l
  | []=>by simp [M5]
  | x::l=>by have h1:=h x; have h2:=a1E h l; simp only [M5,List.length_cons]; omega
theorem a8G:b17.Valid Try.prog 13:=by
  refine p7.o8 a6r rfl rfl Try.func13 (c:=b8 Try.prog 13) rfl rfl a6p rfl ?_
  rintro ⟨(n:Int),(l:List Int),(v:List Int),⟨(V:List r8),(R:List j9),⟨⟩⟩,⟨(a1:Int),(a2:Int),(a3:Int),(a4:List UInt8),⟨⟩⟩,⟨⟩⟩ hs -
  have hb:Ty.G4 y8 n+(Ty.G4 (.b7 false D3) l+(Ty.G4 (.b7 false y8) v+(Ty.G4 U3 (V,R,())+(Ty.G4 Act (a1,a2,a3,a4,())+0))))≤1048576:=hs
  have b1:Ty.G4 (.b7 false D3) l=M5 (Ty.G4 D3) l+1:=rfl
  have b2:Ty.G4 (.b7 false y8) v=M5 (Ty.G4 y8) v+1:=rfl
  have b3:Ty.G4 U3 (V,R,())=(M5 (Ty.G4 R9) V+1)+((M5 (Ty.G4 Round) R+1)+Ty.G4 .unit ()):=rfl
  have l1:=a1E (f:=Ty.G4 D3) (fun x=>by show 1≤1; omega) l
  have l2:=a1E (f:=Ty.G4 y8) (fun x=>by show 1≤1; omega) v
  have l3:=a1E (f:=Ty.G4 R9) (fun x=>by show 1≤1+_; omega) V
  have l4:=a1E (f:=Ty.G4 Round) (fun x=>by show 1≤1+_; omega) R
  have h1:l.length≤1048576:=by omega
  have h2:v.length≤1048576:=by omega
  have h3:V.length≤1048576:=by omega
  have h4:R.length≤1048576:=by omega
  refine j8 (n:=1000) a6r a6p ?_
  refine g9 (b7r n l v V R a1 a2 a3 a4) ?_
  have q1:=b8v n l
  have q2:=b5p v 2
  have q3:=b3Z (V,R,())
  generalize a1s n l=d at *
  generalize a0b v 2=w at *
  generalize X1 (V,R,())=c at *
  generalize a1Q (V,R,()) (a1,a2,a3,a4,())=u at *
  simp only [o5,Tree.holds,true_and,true_implies,decide_eq_true_eq,decide_eq_false_iff_not,Bool.not_eq_true',Bool.not_eq_false',Int.toNat_natCast,q8,List.length_set,List.length_cons,List.length_nil]
  have two:(1≤2∧2≤2)∧True:=⟨⟨by omega,Nat.le_refl 2⟩,trivial⟩
  exact ⟨h1,fun _=>⟨h2,fun _=>⟨h3,fun _=>⟨h4,fun _=>⟨⟨by omega,h1⟩,fun _=>⟨fun q=>absurd q (by decide),fun _=>⟨⟨by omega,h2⟩,fun _=>⟨fun q=>absurd q (by decide),fun _=>⟨⟨by omega,h3⟩,fun _=>⟨fun q=>absurd q (by decide),fun _=>⟨⟨by omega,h4⟩,fun _=>⟨fun q=>absurd q (by decide),fun _ =>
    ⟨q1,fun _=>⟨q2,fun _=>⟨q3,fun _=>⟨two,fun _=>⟨two,fun _=>⟨⟨⟨congrArg (fun b=>(b,())) (Bool.and_eq_true_iff.2 ⟨decide_eq_true trivial,decide_eq_true trivial⟩),fun q=>absurd trivial q⟩,fun q=>absurd trivial q⟩,fun q=>absurd trivial q⟩⟩⟩⟩⟩⟩⟩⟩⟩⟩⟩⟩⟩⟩⟩⟩⟩⟩
end Go.Proofs.Ytekbamiaenbhjaa
