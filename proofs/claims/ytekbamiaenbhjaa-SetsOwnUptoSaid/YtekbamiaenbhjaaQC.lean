/- Quorum systems: duality, votes: the plain laws. No condition but those named. -/
import Derived.Test.YtekbamiaenbhjaaQB
namespace Go.Proofs.Ytekbamiaenbhjaa
open Go.Ex Go.Sort
set_option maxRecDepth 100000
def a7u (s:Int) (l:List Int):Bool:=!l.any (fun t=>decide (Q7 .u16 s t=0))
def c3Y (n:Nat) (l:List Int):List Int:=a0I n (fun s=>a7u s l)
structure c4u (n:Nat) (x y:Int):Prop where
  xr:0≤x∧x<2^n
  yr:0≤y∧y<2^n
  is:∀ i,i<n→hasB y i=!hasB x i
def a2c (v:List Int) (s:Int):Nat→Int
  | 0=>0
  | k+1=>a2c v s k+(if hasB s k=true then v.getD k 0 else 0)
theorem a5Y {v:List Int} (hv:∀ x∈v,0≤x) {a:Int}:∀ k,k≤v.length→0≤a2c v a k
  | 0,_=>by simp [a2c]
  | k+1,hk=>by
    have ih:=a5Y hv (a:=a) k (by omega)
    have h0:=hv _ (M8 (d:=0) (show k<v.length by omega))
    rw [a2c]; split<;>omega
theorem b4n {v:List Int} (hv:∀ x∈v,0≤x∧x≤16777215) {a:Int}:∀ k,k≤v.length→a2c v a k≤16777215*k
  | 0,_=>by simp [a2c]
  | k+1,hk=>by
    have ih:=b4n hv (a:=a) k (by omega)
    have h0:=hv _ (M8 (d:=0) (show k<v.length by omega))
    rw [a2c]; split<;>omega
def c2J (v:List Int) (d8:Int):List Int:=a0I v.length (fun s=>decide (d8≤a2c v s v.length))
end Go.Proofs.Ytekbamiaenbhjaa
