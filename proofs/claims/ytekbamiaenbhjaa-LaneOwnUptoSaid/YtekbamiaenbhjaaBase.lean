/- Small contracts: Rest, few, equality and search in lists of numbers; what deleting leaves. No condition but those named. -/
import Derived.Test.YtekbamiaenbhjaaUtil
namespace Go.Proofs.Ytekbamiaenbhjaa
open Go.Ex
set_option maxRecDepth 100000
def Z7 (n a b:Int):Bool:=decide (a≤n) && decide (n≤b)
theorem a0B {n a b:Int}:Z7 n a b=true↔a≤n∧n≤b:=by simp [Z7]
def M8 (f:Nat→Int):Nat→Int
  | 0=>0
  | k+1=>if M8 f k≠0 then M8 f k else f k
theorem a6p {f:Nat→Int} {k:Nat} (h0:M8 f k=0) (h1:f k≠0):∀ {n:Nat},k<n→M8 f n=f k
  | 0,h=>by omega
  | n+1,h=>by
    by_cases e:k=n
    · subst e; simp [M8,h0]
    · have:=a6p h0 h1 (n:=n) (by omega)
      simp [M8,this,h1]
theorem a6q {f:Nat→Int} {k:Nat} (h0:M8 f k=0) (h1:f k=0):M8 f (k+1)=0:=by simp [M8,h0,h1]
theorem a1O {f:Nat→Int}:∀ {n:Nat},M8 f n=0↔∀ k,k<n→f k=0
  | 0=>by simp [M8]
  | n+1=>by
    constructor
    · intro h k hk
      have h2:M8 f n=0:=by
        by_cases e:M8 f n=0
        · exact e
        · rw [M8,if_pos e] at h; exact absurd h e
      by_cases e:k=n
      · subst e; simpa [M8,h2] using h
      · exact a1O.1 h2 k (by omega)
    · intro h
      exact a6q (a1O.2 (fun k hk=>h k (by omega))) (h n (by omega))
theorem a8Z {α:Type} {l:List α} {i j:Int} (h0:0≤i) (h1:i≤j) (h2:j≤(l.length:Int)):s5 j (l.length:Int) l=l.drop j.toNat:=by
  rw [s5]; exact List.take_of_length_le (by rw [List.length_drop]; omega)
theorem b4z {α:Type} {l:List α} {i j:Int} (h0:0≤i) (h1:i≤j) (h2:j≤(l.length:Int)):((s5 j (l.length:Int) l).length:Int)=(l.length:Int) - j∧(List.take i.toNat l++s5 j (l.length:Int) l++List.drop (i.toNat+(s5 j (l.length:Int) l).length) l).length=l.length:=by
  rw [a8Z h0 h1 h2]
  simp only [List.length_append,List.length_take,List.length_drop]
  omega
theorem c0v {α:Type} {l:List α} {d:List α} {i j:Int} (h0:0≤i) (h1:i≤j) (h2:j≤(l.length:Int)) {r:Nat} :
    s5 (0:Int) (i+(↑(List.length (s5 j (↑(List.length l):Int) l)):Int)) (List.take (Int.toNat ((0:Int)+(i+(↑(List.length (s5 j (↑(List.length l):Int) l)):Int) - (0:Int)))) (List.take (Int.toNat i) l++s5 j (↑(List.length l):Int) l++List.drop (Int.toNat i+List.length (s5 j (↑(List.length l):Int) l)) l)++d++List.drop r (List.take (Int.toNat i) l++s5 j (↑(List.length l):Int) l++List.drop (Int.toNat i+List.length (s5 j (↑(List.length l):Int) l)) l))=List.take i.toNat l++List.drop j.toNat l:=by
  obtain ⟨e1,e2⟩:=b4z h0 h1 h2 (l:=l)
  rw [a8Z h0 h1 h2] at e1 e2 ⊢
  generalize hX:List.take i.toNat l++List.drop j.toNat l++List.drop (i.toNat+(List.drop j.toNat l).length) l=X at e2 ⊢
  have em:(0+(i+((List.drop j.toNat l).length:Int) - 0)).toNat=(List.take i.toNat l++List.drop j.toNat l).length:=by
    simp only [List.length_append,List.length_take]; omega
  have en:(i+((List.drop j.toNat l).length:Int) - 0).toNat=(List.take i.toNat l++List.drop j.toNat l).length:=by
    simp only [List.length_append,List.length_take]; omega
  rw [s5,em,en,Int.toNat_zero,List.drop_zero,List.append_assoc,List.take_append_of_le_length (by
    rw [List.length_take,e2]
    simp only [List.length_append,List.length_take,List.length_drop]; omega),List.take_take,Nat.min_self,← hX,List.take_left]

end Go.Proofs.Ytekbamiaenbhjaa
