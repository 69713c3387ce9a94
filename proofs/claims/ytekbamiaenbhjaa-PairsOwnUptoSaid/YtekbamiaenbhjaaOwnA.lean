/- ample, stays, spoil at int. -/
import Derived.Test.YtekbamiaenbhjaaBase
namespace Go.Proofs.Ytekbamiaenbhjaa
open Go.Ex
set_option maxRecDepth 100000
theorem c0t {α:Type} (l:List α) (x d:α):List.take l.length (List.replicate (Int.toNat 0) d++l++[x,x]++List.drop 2 (List.drop l.length (List.replicate (Int.toNat ((l.length:Int)+3) - Int.toNat 0) d)))=l ∧
    List.drop l.length (List.replicate (Int.toNat 0) d++l++[x,x]++List.drop 2 (List.drop l.length (List.replicate (Int.toNat ((l.length:Int)+3) - Int.toNat 0) d)))=[x,x,d]:=by
  have e:Int.toNat ((l.length:Int)+3) - Int.toNat 0=l.length+3:=by omega
  rw [e,Int.toNat_zero,List.drop_drop,List.drop_replicate,show l.length+3 - (l.length+2)=1 by omega]
  show List.take l.length ([]++l++[x,x]++[d])=l∧List.drop l.length ([]++l++[x,x]++[d])=[x,x,d]
  rw [List.nil_append,List.append_assoc,List.take_left',List.drop_left']
  · exact ⟨rfl,rfl⟩
  · rfl
  · rfl
theorem b8d {w:Nat} {k:Int} (h:w≤1024) (hk:k≤1048579) (h0:0≤k:=by omega):k*(w:Int)≤140737488355328:=by
  have h1:k*(w:Int)≤1048579*(w:Int):=Int.mul_le_mul_of_nonneg_right hk (by omega)
  omega
theorem b8j {α:Type} {l m:List α} {d:α} (h2:2≤m.length):(B6 0 ((l.length:Int)+2) (l++m)).length=l.length+2∧(B6 0 ((l.length:Int)+2) (l++m)).getD l.length d=m.getD 0 d∧(B6 0 ((l.length:Int)+2) (l++m)).getD (l.length+1) d=m.getD 1 d:=by
  have e:B6 0 ((l.length:Int)+2) (l++m)=l++m.take 2:=by
    rw [B6,show ((l.length:Int)+2 - 0).toNat=l.length+2 by omega,Int.toNat_zero,List.drop_zero,List.take_append,List.take_of_length_le (by omega),show l.length+2 - l.length=2 by omega]
  rw [e]
  refine ⟨by rw [List.length_append,List.length_take]; omega,?_,?_⟩
  · rw [a3V (Nat.le_refl _),Nat.sub_self,List.getD_eq_getElem?_getD,List.getD_eq_getElem?_getD,List.getElem?_take_of_lt (by decide)]
  · rw [a3V (by omega),show l.length+1 - l.length=1 by omega,List.getD_eq_getElem?_getD,List.getD_eq_getElem?_getD,List.getElem?_take_of_lt (by decide)]
def b9I:w8:=a7C A4
theorem b3s:b9I.Valid Try.prog 23:=by
  refine b3a (S:=24) (I:=3) (T:=3) (e:=c02 (d8 Try.prog 23) [5,6,7,8,0,9,10,11,12,13,4,14,15,16,17,19,18,20]) (by kernel_rfl) (by kernel_rfl) (by kernel_rfl) Try.func23 (by kernel_rfl) rfl rfl rfl
theorem c0g {P:Prop} [Decidable P] {b:Bool} (h:b=true↔P):b=(true && (true && decide P)):=by
  cases b with
  | true=>rw [decide_eq_true (h.1 rfl)]; rfl
  | false=>rw [decide_eq_false (fun c=>by have:=h.2 c; cases this)]; rfl
abbrev ez:List UInt8:=[]
end Go.Proofs.Ytekbamiaenbhjaa
