/- ample, stays, spoil at int. -/
import Derived.Test.YtekbamiaenbhjaaBase
namespace Go.Proofs.Ytekbamiaenbhjaa
open Go.Ex
set_option maxRecDepth 100000
def b9t:w6:={ ps:=[.v (.d0 false s6),.v s6],rs:=[.r7 s6],pre:=fun x=>List.length (α:=Int) x.1≤1048576,fn:=fun x=>((2,x.1,[x.2.1,x.2.1,0]),()),out:=fun _=>() }
noncomputable def b58:Env:={ P:=Try.prog,tt:=tt,C7:=[],res:=[Go.ResultVar.tmp 4],rs:=[Ty.r7 (Ty.int IntKind.i64)],ps:=[PK.v (Ty.d0 false (Ty.int IntKind.i64)),PK.v (Ty.int IntKind.i64)],C5:=[],nt:=20 }
theorem b2y:B0 b58:=B9 t8 trivial
theorem b1V:D0 b58 Try.f20:=⟨rfl,rfl⟩
theorem c0M (x0:List Int) (x1:Int):exec b58 1000 [.code (d9 Try.prog 20)] (y8 b9t.ps ((x0,x1,()))) =
  .f9 (C3 IntKind.i64 ((↑(List.length x0):Int)+(3:Int))) (.f9 ((1:Int)≤(↑(List.length x0):Int)+(3:Int)∧(0:Int)≤(0:Int)∧(0:Int)≤(↑(List.length x0):Int)+(3:Int)∧(↑(List.length x0):Int)+(3:Int)≤(140737488355328:Int)∧((↑(List.length x0):Int)+(3:Int))*(↑(Ty.wb (Ty.int IntKind.i64)):Int)≤(140737488355328:Int)) (.f9 (2=2∧List.length x0≤List.length (List.replicate (Int.toNat ((↑(List.length x0):Int)+(3:Int)) - Int.toNat (0:Int)) (0:Int))) (.f9 (2=2∧List.length (List.set (List.set [(0:Int),(0:Int)] (Int.toNat (↑0:Int)) x1) (Int.toNat (↑1:Int)) x1)≤List.length (List.drop (List.length x0) (List.replicate (Int.toNat ((↑(List.length x0):Int)+(3:Int)) - Int.toNat (0:Int)) (0:Int)))) (.f9 (2=2∧(0:Int)≤(↑(List.length x0):Int)∧(↑(List.length x0):Int)≤(↑(List.length (List.replicate (Int.toNat (0:Int)) (0:Int)++x0++List.set (List.set [(0:Int),(0:Int)] (Int.toNat (↑0:Int)) x1) (Int.toNat (↑1:Int)) x1)+List.length (List.drop (List.length (List.set (List.set [(0:Int),(0:Int)] (Int.toNat (↑0:Int)) x1) (Int.toNat (↑1:Int)) x1)) (List.drop (List.length x0) (List.replicate (Int.toNat ((↑(List.length x0):Int)+(3:Int)) - Int.toNat (0:Int)) (0:Int))))):Int)) (.ret (((2,List.take (Int.toNat (↑(List.length x0):Int)) (List.replicate (Int.toNat (0:Int)) (0:Int)++x0++List.set (List.set [(0:Int),(0:Int)] (Int.toNat (↑0:Int)) x1) (Int.toNat (↑1:Int)) x1++List.drop (List.length (List.set (List.set [(0:Int),(0:Int)] (Int.toNat (↑0:Int)) x1) (Int.toNat (↑1:Int)) x1)) (List.drop (List.length x0) (List.replicate (Int.toNat ((↑(List.length x0):Int)+(3:Int)) - Int.toNat (0:Int)) (0:Int)))),List.drop (Int.toNat (↑(List.length x0):Int)) (List.replicate (Int.toNat (0:Int)) (0:Int)++x0++List.set (List.set [(0:Int),(0:Int)] (Int.toNat (↑0:Int)) x1) (Int.toNat (↑1:Int)) x1++List.drop (List.length (List.set (List.set [(0:Int),(0:Int)] (Int.toNat (↑0:Int)) x1) (Int.toNat (↑1:Int)) x1)) (List.drop (List.length x0) (List.replicate (Int.toNat ((↑(List.length x0):Int)+(3:Int)) - Int.toNat (0:Int)) (0:Int))))),()))))))):=by kernel_rfl
theorem b38 {α:Type} (l:List α) (x d:α):List.take l.length (List.replicate (Int.toNat 0) d++l++[x,x]++List.drop 2 (List.drop l.length (List.replicate (Int.toNat ((l.length:Int)+3) - Int.toNat 0) d)))=l ∧
    List.drop l.length (List.replicate (Int.toNat 0) d++l++[x,x]++List.drop 2 (List.drop l.length (List.replicate (Int.toNat ((l.length:Int)+3) - Int.toNat 0) d)))=[x,x,d]:=by
  have e:Int.toNat ((l.length:Int)+3) - Int.toNat 0=l.length+3:=by omega
  rw [e,Int.toNat_zero,List.drop_drop,List.drop_replicate,show l.length+3 - (l.length+2)=1 by omega]
  show List.take l.length ([]++l++[x,x]++[d])=l∧List.drop l.length ([]++l++[x,x]++[d])=[x,x,d]
  rw [List.nil_append,List.append_assoc,List.take_left',List.drop_left']
  · exact ⟨rfl,rfl⟩
  · rfl
  · rfl
theorem a26:b9t.Valid Try.prog 20:=by
  refine w6.t6 b2y rfl rfl Try.func20 (c:=d9 Try.prog 20) rfl rfl b1V rfl ?_
  rintro ⟨(l:List Int),(x:Int),⟨⟩⟩ (hp:l.length≤1048576) -
  refine l8 (n:=1000) b2y b1V ?_
  refine j9 (c0M l x) ?_
  obtain ⟨e1,e2⟩:=b38 l x (0:Int)
  have e0:List.set (List.set [(0:Int),0] (Int.toNat ((0:Nat):Int)) x) (Int.toNat ((1:Nat):Int)) x=[x,x]:=rfl
  have er:(List.replicate (Int.toNat ((l.length:Int)+3) - Int.toNat 0) (0:Int)).length=l.length+3:=by rw [List.length_replicate]; omega
  have ez:(List.replicate (Int.toNat 0) (0:Int)).length=0:=rfl
  have ew:Ty.wb (Ty.int .i64)=8:=rfl
  simp only [e0]
  refine ⟨x5.2 (by omega),fun _=>⟨⟨by omega,by omega,by omega,by omega,by rw [ew]; omega⟩,fun _=>⟨⟨trivial,by rw [er]; omega⟩,fun _=>⟨⟨trivial,by rw [List.length_drop,er]; show 2≤_; omega⟩,fun _=>⟨⟨trivial,by omega,?_⟩,fun _=>?_⟩⟩⟩⟩⟩
  · simp only [List.length_append,List.length_drop,er,ez]
    show (l.length:Int)≤((0+l.length+2+(l.length+3 - l.length - 2):Nat):Int)
    omega
  · exact congrArg (fun y=>(y,())) (Prod.ext rfl (Prod.ext e1 e2))
theorem b7G {w:Nat} {k:Int} (h:w≤1024) (hk:k≤1048579) (h0:0≤k:=by omega):k*(w:Int)≤140737488355328:=by
  have h1:k*(w:Int)≤1048579*(w:Int):=Int.mul_le_mul_of_nonneg_right hk (by omega)
  omega
def b1d:w6:={ ps:=[.v (.r7 s6),.v (.d0 false s6),.v s6],rs:=[.bool],pre:=fun x=>x.1.1=(3:Nat)∧2≤List.length (α:=Int) x.1.2.2∧List.length (α:=Int) x.1.2.1≤1048576,fn:=fun x=>(decide ((show List Int from x.1.2.1)=(show List Int from x.2.1)) && (decide ((show Int from List.getD (α:=Int) x.1.2.2 0 0)=(show Int from x.2.2.1)) && decide ((show Int from List.getD (α:=Int) x.1.2.2 1 0)=(show Int from x.2.2.1))),()),out:=fun _=>() }
noncomputable def b17:Env:={ P:=Try.prog,tt:=tt,C7:=[(19,a8m)],res:=[Go.ResultVar.tmp 6],rs:=[Ty.bool],ps:=[PK.v (Ty.r7 (Ty.int IntKind.i64)),PK.v (Ty.d0 false (Ty.int IntKind.i64)),PK.v (Ty.int IntKind.i64)],C5:=[],nt:=35 }
theorem a9u:B0 b17:=B9 t8 ⟨a19,trivial⟩
theorem a9l:D0 b17 Try.f22:=⟨rfl,rfl⟩
theorem b8H (x0_n:Nat) (x0_l:List Int) (x0_m:List Int) (x1:List Int) (x2:Int):exec b17 1000 [.code (d9 Try.prog 22)] (y8 b1d.ps (((x0_n,x0_l,x0_m),x1,x2,()))) =
  .f9 (C3 IntKind.i64 ((↑(List.length x0_l):Int)+(2:Int))) (.f9 (x0_n=3∧(0:Int)≤(0:Int)∧(0:Int)≤(↑(List.length x0_l):Int)+(2:Int)∧(↑(List.length x0_l):Int)+(2:Int)≤(↑(List.length x0_l+List.length x0_m):Int)) (.f9 (True) (cond (decide (x0_l=x1)) (.f9 ((0:Int)≤(↑(List.length x0_l):Int)∧(↑(List.length x0_l):Int)<(↑(List.length (B3 (0:Int) ((↑(List.length x0_l):Int)+(2:Int)) (x0_l++x0_m))):Int)) (cond (decide (List.getD (B3 (0:Int) ((↑(List.length x0_l):Int)+(2:Int)) (x0_l++x0_m)) (Int.toNat (↑(List.length x0_l):Int)) (0:Int)=x2)) (.f9 (C3 IntKind.i64 ((↑(List.length x0_l):Int)+(1:Int))) (.f9 ((0:Int)≤(↑(List.length x0_l):Int)+(1:Int)∧(↑(List.length x0_l):Int)+(1:Int)<(↑(List.length (B3 (0:Int) ((↑(List.length x0_l):Int)+(2:Int)) (x0_l++x0_m))):Int)) (.ret ((decide (List.getD (B3 (0:Int) ((↑(List.length x0_l):Int)+(2:Int)) (x0_l++x0_m)) (Int.toNat ((↑(List.length x0_l):Int)+(1:Int))) (0:Int)=x2),()))))) (.ret ((false,()))))) (.ret ((false,())))))):=by kernel_rfl
theorem b0o {α:Type} {l m:List α} {d:α} (h2:2≤m.length):(B3 0 ((l.length:Int)+2) (l++m)).length=l.length+2∧(B3 0 ((l.length:Int)+2) (l++m)).getD l.length d=m.getD 0 d∧(B3 0 ((l.length:Int)+2) (l++m)).getD (l.length+1) d=m.getD 1 d:=by
  have e:B3 0 ((l.length:Int)+2) (l++m)=l++m.take 2:=by
    rw [B3,show ((l.length:Int)+2 - 0).toNat=l.length+2 by omega,Int.toNat_zero,List.drop_zero,List.take_append,List.take_of_length_le (by omega),show l.length+2 - l.length=2 by omega]
  rw [e]
  refine ⟨by rw [List.length_append,List.length_take]; omega,?_,?_⟩
  · rw [a1r (Nat.le_refl _),Nat.sub_self,List.getD_eq_getElem?_getD,List.getD_eq_getElem?_getD,List.getElem?_take_of_lt (by decide)]
  · rw [a1r (by omega),show l.length+1 - l.length=1 by omega,List.getD_eq_getElem?_getD,List.getD_eq_getElem?_getD,List.getElem?_take_of_lt (by decide)]
theorem b1c:b1d.Valid Try.prog 22:=by
  refine w6.t6 a9u rfl rfl Try.func22 (c:=d9 Try.prog 22) rfl rfl a9l rfl ?_
  rintro ⟨⟨(n:Nat),(l:List Int),(m:List Int)⟩,(was:List Int),(x:Int),⟨⟩⟩ ⟨(h3:n=3),(h2:2≤m.length),(hlen:l.length≤1048576)⟩ -
  subst h3
  refine l8 (n:=1000) a9u a9l ?_
  refine j9 (b8H 3 l m was x) ?_
  obtain ⟨c1,c2,c3⟩:=b0o (l:=l) (d:=(0:Int)) h2
  have en:Int.toNat ((l.length:Int)+1)=l.length+1:=by omega
  simp only [Tree.holds,true_and,true_implies,s4,decide_eq_true_eq,decide_eq_false_iff_not,Int.toNat_natCast,c1,c2,en,c3]
  refine ⟨x5.2 (by omega),fun _=>⟨by omega,fun _=>⟨fun a=>⟨by omega,fun _=>⟨fun b=>⟨x5.2 (by omega),fun _=>⟨by omega,fun _=>?_⟩⟩,fun b=>?_⟩⟩,fun a=>?_⟩⟩⟩
  · show ((_,()):Bool×Unit)=(_,())
    rw [decide_eq_true a,decide_eq_true b]; rfl
  · show ((_,()):Bool×Unit)=(_,())
    rw [decide_eq_true a,decide_eq_false b]; rfl
  · show ((_,()):Bool×Unit)=(_,())
    rw [decide_eq_false a]; rfl
def b9r:w6:=a6Z s6
theorem b2Y:b9r.Valid Try.prog 23:=by
  refine b2G (S:=24) (I:=3) (T:=3) (e:=c02 (d9 Try.prog 23) [5,6,7,8,0,9,10,11,12,13,4,14,15,16,17,19,18,20]) (by kernel_rfl) (by kernel_rfl) (by kernel_rfl) Try.func23 (by kernel_rfl) rfl rfl rfl
theorem b98 {P:Prop} [Decidable P] {b:Bool} (h:b=true↔P):b=(true && (true && decide P)):=by
  cases b with
  | true=>rw [decide_eq_true (h.1 rfl)]; rfl
  | false=>rw [decide_eq_false (fun c=>by have:=h.2 c; cases this)]; rfl
abbrev ez:List UInt8:=[]
end Go.Proofs.Ytekbamiaenbhjaa
