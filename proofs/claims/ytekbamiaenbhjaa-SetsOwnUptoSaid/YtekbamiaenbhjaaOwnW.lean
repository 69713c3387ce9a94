/- How long the answers of quorum and synod are; quorum.Dual at one set. -/
import Derived.Test.YtekbamiaenbhjaaQT
import Derived.Test.YtekbamiaenbhjaaSynD
import Derived.Test.YtekbamiaenbhjaaOwnV
namespace Go.Proofs.Ytekbamiaenbhjaa
open Go.Ex Go.Sort
set_option maxRecDepth 100000
theorem a4R:∀ (l out:List Int),(N9 l out).length≤l.length+out.length
  | [],out=>by simp [N9]
  | s::l,out=>by
    rw [N9]
    split
    · have:=a4R l out; simp only [List.length_cons]; omega
    · have:=a4R l (out++[s]); simp only [List.length_cons,List.length_append,List.length_nil] at this ⊢; omega
theorem b1b {n:Nat} (hn:n≤10) (p:Int→Bool):(a0I n p).length≤1048576:=by
  have h1:=a4R (E4 (G1 G5) (a1k n p)) []
  rw [(T6 (G1 G5) (a1k n p)).length_eq] at h1
  have h2:(a1k n p).length≤2^n:=by
    refine Nat.le_trans (List.length_filter_le ..) ?_
    rw [List.length_map,List.length_range]; exact Nat.le_refl _
  have h3:2^n≤2^10:=Nat.pow_le_pow_right (by omega) hn
  have h4:(2:Nat)^10=1024:=rfl
  rw [a0I]
  simp only [List.length_nil] at h1
  omega
theorem b9V (n:Int) (l:List Int):(a1Z n l).1.length≤1048576:=by
  unfold a1Z
  split
  · show 0≤1048576; omega
  · rename_i a
    have a:=Decidable.not_not.1 a
    unfold K7 at a
    split at a
    · omega
    · rename_i b
      have b:=Decidable.not_not.1 b
      exact b1b (by omega) _
theorem b7y (v:List Int) (d8:Int):(a0A v d8).1.length≤1048576:=by
  unfold a0A
  split
  · rename_i h
    exact b1b h.1.2 _
  · show 0≤1048576; omega
theorem a6J:∀ (f:Nat) (l:List (List UInt8)) (k j:Nat),(a1f f l k j).1.length=l.length
  | 0,l,k,j=>rfl
  | f+1,l,k,j=>by
    rw [a1f]
    split
    · split
      · exact a6J f l k (j+1)
      · rw [a6J f,List.length_set]
    · rfl
theorem b1v:∀ (f:Nat) (l:List (List UInt8)) (k:Nat),(a2X f l k).length≤l.length
  | 0,l,k=>Nat.le_refl _
  | f+1,l,k=>by
    rw [a2X]
    split
    · split
      · rw [List.length_take,a6J]; omega
      · exact b1v f l (k+1)
    · exact Nat.le_refl _
theorem b6m (s:G6):(Z5 s).1.length≤1048576:=by
  unfold Z5
  split
  · show 0≤1048576; omega
  · rename_i a
    obtain ⟨V,R,⟨⟩⟩:=s
    have h1:=a51 (Decidable.not_not.1 a)
    have h2:=b1v (N6 (X0 (V,R,()))).length (N6 (X0 (V,R,()))) 1
    rw [a89] at h2
    have h3:(X0 (V,R,())).length≤R.length:=by rw [X0,List.length_map]; exact List.length_filter_le ..
    show (a2X (N6 (X0 (V,R,()))).length (N6 (X0 (V,R,()))) 1).length≤1048576
    rw [a89]
    omega
@[irreducible] def a1s (n:Int) (l:List Int):List Int×Int×Unit:=a1Z n l
@[irreducible] def a0b (v:List Int) (d8:Int):List Int×Int×Unit:=a0A v d8
@[irreducible] def a1Q (s:G6) (a:a5x):G6×Int×Unit:=a3C s a
@[irreducible] def X1 (s:G6):List (List UInt8)×Int×Unit:=Z5 s
def c3l (g:Int→List Int→List Int×Int×Unit):p7:={ ps:=[.v y8,.v (.b7 false D3)],rs:=[.b7 true D3,y8],pre:=fun _=>True,fn:=fun x=>g x.1 x.2.1,out:=fun _=>() }
def a7J:p7:={ ps:=[.v y8,.v (.b7 false D3)],rs:=[.b7 true D3,y8],pre:=fun _=>True,fn:=fun x=>a1s x.1 x.2.1,out:=fun _=>() }
def c1H (g:List Int→Int→List Int×Int×Unit):p7:={ ps:=[.v (.b7 false y8),.v y8],rs:=[.b7 true D3,y8],pre:=fun _=>True,fn:=fun x=>g x.1 x.2.1,out:=fun _=>() }
def a5S:p7:={ ps:=[.v (.b7 false y8),.v y8],rs:=[.b7 true D3,y8],pre:=fun _=>True,fn:=fun x=>a0b x.1 x.2.1,out:=fun _=>() }
def c3h (g:G6→a5x→G6×Int×Unit):p7:={ ps:=[.v U3,.v Act],rs:=[a7Q,y8],pre:=fun _=>True,fn:=fun x=>g x.1 x.2.1,out:=fun _=>() }
def a7G:p7:={ ps:=[.v U3,.v Act],rs:=[a7Q,y8],pre:=fun _=>True,fn:=fun x=>a1Q x.1 x.2.1,out:=fun _=>() }
def b97 (g:G6→List (List UInt8)×Int×Unit):p7:={ ps:=[.v U3],rs:=[.b7 true .str,y8],pre:=fun _=>True,fn:=fun x=>g x.1,out:=fun _=>() }
def a4a:p7:={ ps:=[.v U3],rs:=[.b7 true .str,y8],pre:=fun _=>True,fn:=fun x=>X1 x.1,out:=fun _=>() }
theorem b1Y:a7J.Valid Try.prog 105:=by
  have e:@a1s=@a1Z:=by unfold a1s; rfl
  have e2:a7J=b6r:=(show a7J=c3l @a1s from rfl).trans (by rw [e]; rfl)
  rw [e2]; exact b31
theorem b0g:a5S.Valid Try.prog 110:=by
  have e:@a0b=@a0A:=by unfold a0b; rfl
  have e2:a5S=b1D:=(show a5S=c1H @a0b from rfl).trans (by rw [e]; rfl)
  rw [e2]; exact b1C
theorem b1E:a7G.Valid Try.prog 111:=by
  have e:@a1Q=@a3C:=by unfold a1Q; rfl
  have e2:a7G=b56:=(show a7G=c3h @a1Q from rfl).trans (by rw [e]; rfl)
  rw [e2]; exact b3K
theorem a8E:a4a.Valid Try.prog 112:=by
  have e:@X1=@Z5:=by unfold X1; rfl
  have e2:a4a=a8F:=(show a4a=b97 @X1 from rfl).trans (by rw [e]; rfl)
  rw [e2]; exact b0m
theorem b8v (n:Int) (l:List Int):(a1s n l).1.length≤1048576:=by rw [a1s]; exact b9V n l
theorem b5p (v:List Int) (d8:Int):(a0b v d8).1.length≤1048576:=by rw [a0b]; exact b7y v d8
theorem b3Z (s:G6):(X1 s).1.length≤1048576:=by rw [X1]; exact b6m s
end Go.Proofs.Ytekbamiaenbhjaa
