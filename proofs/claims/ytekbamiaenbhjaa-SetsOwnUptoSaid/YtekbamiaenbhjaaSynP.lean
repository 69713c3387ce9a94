/- A synod's states: what its check says, and that steps keep it: the plain law. No condition but those named. -/
import Derived.Test.YtekbamiaenbhjaaSynC
namespace Go.Proofs.Ytekbamiaenbhjaa
open Go.Ex
set_option maxRecDepth 100000
/-! ### bits of a byte -/
theorem b4y (k:Int):u7 .u8 (a2R k):=W7 _ _
theorem b9m {k j:Nat} (hk:k<8):bit (a2R (k:Int)) j=decide (j=k):=by
  by_cases hj:j<8
  · have key:∀ (k j:Fin 8),bit (a2R ((k.val:Nat):Int)) j.val=decide (j.val=k.val):=by decide +kernel
    exact key ⟨k,hk⟩ ⟨j,hj⟩
  · rw [c1N u8s (b4y _) (show IntKind.bits .u8≤j by show 8≤j; omega),decide_eq_false (by omega)]
theorem b77:∀ n:Nat,n≤6→R5 ((2:Int)^n - 1)=n:=by
  intro n hn
  have key:∀ n:Fin 7,R5 ((2:Int)^n.val - 1)=(n.val:Int):=by decide +kernel
  exact key ⟨n,by omega⟩
theorem b1k {n k:Nat} (hn:n≤6) (hk:k<n):bit ((2:Int)^n - 1) k=true:=by
  have key:∀ (n:Fin 7) (k:Fin 6),k.val<n.val→bit ((2:Int)^n.val - 1) k.val=true:=by decide +kernel
  exact key ⟨n,by omega⟩ ⟨k,by omega⟩ hk
theorem b9D {a b:Int} {n:Nat} (hn:n≤6) (ha:∀ k,bit a k=true→k<n) (hb:∀ k,bit b k=true→k<n) (h1:(n:Int)<2*R5 a) (h2:(n:Int)<2*R5 b):∃ k,bit a k=true∧bit b k=true:=by
  refine Classical.byContradiction (fun hno=>?_)
  have:=b9w (a:=a) (b:=b) (c:=(2:Int)^n - 1) (fun i=>⟨fun h=>b1k hn (ha i h),fun h=>b1k hn (hb i h),fun h=>by
    cases e:bit b i with
    | false=>rfl
    | true=>exact absurd ⟨i,h,e⟩ hno⟩)
  rw [b77 n hn] at this
  omega
theorem b76:R5 0=0:=by decide
theorem b8d {v:Int} {n:Int} (h0:0≤n) (h:n<2*R5 v):v≠0:=by
  rintro rfl; rw [b76] at h; omega
theorem c3r {v:Int} {k:Nat} (h:bit v k=true):v≠0:=by
  rintro rfl; simp [bit] at h
/-! ### what the check says -/
structure VOk (R:List j9) (v:r8) (k:Nat):Prop where
  pos:0≤v.2.1∧v.2.1≤v.1
  prom:0<v.1→∃ r∈R,r.1=v.1
  le:∀ r∈R,bit r.2.2.1 k=true∨bit r.2.2.2.1 k=true→r.1≤v.1
  vle:∀ r∈R,bit r.2.2.2.1 k=true→r.1≤v.2.1
  last:0<v.2.1→∃ r∈R,r.1=v.2.1∧bit r.2.2.2.1 k=true∧r.2.2.2.2.2.1=v.2.2.1
  none:v.2.1=0→v.2.2.1=[]
structure SOk (V:List r8) (R:List j9):Prop where
  n1:1≤V.length∧V.length≤6
  r30:R.length≤30
  u8:∀ r∈R,u7 .u8 r.2.2.1∧u7 .u8 r.2.2.2.1
  B5:∀ r∈R,(1≤r.1∧r.1≤16777215)∧0≤r.2.1∧r.2.1<r.1
  one:R.Pairwise (fun a b=>a.1≠b.1)
  bits:∀ r∈R,∀ k,bit r.2.2.1 k=true∨bit r.2.2.2.1 k=true→k<V.length
  b9d:∀ r∈R,r.2.2.2.1≠0→r.2.2.2.2.1=true
  c3u:∀ r∈R,r.2.2.2.2.1=true→(V.length:Int)<2*R5 r.2.2.1
  vot:∀ k,k<V.length→VOk R (V.getD k W4) k
theorem b05 {R:List j9} (h:R.Pairwise (fun a b=>a.1≠b.1)) {a b:j9} (ha:a∈R) (hb:b∈R) (e:a.1=b.1):a=b:=by
  obtain ⟨i,hi,e1⟩:=List.getElem_of_mem ha
  obtain ⟨j,hj,e2⟩:=List.getElem_of_mem hb
  have key:i=j:=by
    refine Classical.byContradiction (fun hne=>?_)
    rcases Nat.lt_or_ge i j with hlt|hge
    · have:=List.pairwise_iff_getElem.1 h i j hi hj hlt
      rw [e1,e2] at this; exact this e
    · have:=List.pairwise_iff_getElem.1 h j i hj hi (by omega)
      rw [e1,e2] at this; exact this e.symm
  subst key
  rw [← e1,← e2]
theorem c2Z {x y:Int} (hx:u7 .u8 x) (hy:u7 .u8 y) (k:Nat):bit (I5 .u8 x y) k=true↔bit x k=true∨bit y k=true:=by
  rw [c3p u8s hx hy,Bool.or_eq_true]
end Go.Proofs.Ytekbamiaenbhjaa
