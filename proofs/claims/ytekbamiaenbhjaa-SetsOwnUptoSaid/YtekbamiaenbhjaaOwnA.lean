/- ample, stays, spoil at int. -/
import Derived.Test.YtekbamiaenbhjaaBase
namespace Go.Proofs.Ytekbamiaenbhjaa
open Go.Ex
set_option maxRecDepth 100000
def b6A:p7:={ ps:=[.v (.b7 false y8),.v y8],rs:=[.s4 y8],pre:=fun x=>List.length (α:=Int) x.1≤1048576,fn:=fun x=>((2,x.1,[x.2.1,x.2.1,0]),()),out:=fun _=>() }
noncomputable def b7q:Env:={ P:=Try.prog,tt:=tt,A3:=[],res:=[Go.ResultVar.tmp 4],rs:=[Ty.s4 (Ty.int IntKind.i64)],ps:=[PK.v (Ty.b7 false (Ty.int IntKind.i64)),PK.v (Ty.int IntKind.i64)],x7:=[],nt:=20 }
theorem b3m:u5 b7q:=w7 p9 trivial
theorem b2J:y9 b7q Try.f20:=⟨rfl,rfl⟩
theorem c2E (x0:List Int) (x1:Int):exec b7q 1000 [.code (b8 Try.prog 20)] (s6 b6A.ps ((x0,x1,()))) =
  .d8 (u7 IntKind.i64 ((↑(List.length x0):Int)+(3:Int))) (.d8 ((1:Int)≤(↑(List.length x0):Int)+(3:Int)∧(0:Int)≤(0:Int)∧(0:Int)≤(↑(List.length x0):Int)+(3:Int)∧(↑(List.length x0):Int)+(3:Int)≤(140737488355328:Int)∧((↑(List.length x0):Int)+(3:Int))*(↑(Ty.wb (Ty.int IntKind.i64)):Int)≤(140737488355328:Int)) (.d8 (2=2∧List.length x0≤List.length (List.replicate (Int.toNat ((↑(List.length x0):Int)+(3:Int)) - Int.toNat (0:Int)) (0:Int))) (.d8 (2=2∧List.length (List.set (List.set [(0:Int),(0:Int)] (Int.toNat (↑0:Int)) x1) (Int.toNat (↑1:Int)) x1)≤List.length (List.drop (List.length x0) (List.replicate (Int.toNat ((↑(List.length x0):Int)+(3:Int)) - Int.toNat (0:Int)) (0:Int)))) (.d8 (2=2∧(0:Int)≤(↑(List.length x0):Int)∧(↑(List.length x0):Int)≤(↑(List.length (List.replicate (Int.toNat (0:Int)) (0:Int)++x0++List.set (List.set [(0:Int),(0:Int)] (Int.toNat (↑0:Int)) x1) (Int.toNat (↑1:Int)) x1)+List.length (List.drop (List.length (List.set (List.set [(0:Int),(0:Int)] (Int.toNat (↑0:Int)) x1) (Int.toNat (↑1:Int)) x1)) (List.drop (List.length x0) (List.replicate (Int.toNat ((↑(List.length x0):Int)+(3:Int)) - Int.toNat (0:Int)) (0:Int))))):Int)) (.ret (((2,List.take (Int.toNat (↑(List.length x0):Int)) (List.replicate (Int.toNat (0:Int)) (0:Int)++x0++List.set (List.set [(0:Int),(0:Int)] (Int.toNat (↑0:Int)) x1) (Int.toNat (↑1:Int)) x1++List.drop (List.length (List.set (List.set [(0:Int),(0:Int)] (Int.toNat (↑0:Int)) x1) (Int.toNat (↑1:Int)) x1)) (List.drop (List.length x0) (List.replicate (Int.toNat ((↑(List.length x0):Int)+(3:Int)) - Int.toNat (0:Int)) (0:Int)))),List.drop (Int.toNat (↑(List.length x0):Int)) (List.replicate (Int.toNat (0:Int)) (0:Int)++x0++List.set (List.set [(0:Int),(0:Int)] (Int.toNat (↑0:Int)) x1) (Int.toNat (↑1:Int)) x1++List.drop (List.length (List.set (List.set [(0:Int),(0:Int)] (Int.toNat (↑0:Int)) x1) (Int.toNat (↑1:Int)) x1)) (List.drop (List.length x0) (List.replicate (Int.toNat ((↑(List.length x0):Int)+(3:Int)) - Int.toNat (0:Int)) (0:Int))))),()))))))):=by kernel_rfl
theorem a5V {α:Type} (l:List α) (x d:α):List.take l.length (List.replicate (Int.toNat 0) d++l++[x,x]++List.drop 2 (List.drop l.length (List.replicate (Int.toNat ((l.length:Int)+3) - Int.toNat 0) d)))=l ∧
    List.drop l.length (List.replicate (Int.toNat 0) d++l++[x,x]++List.drop 2 (List.drop l.length (List.replicate (Int.toNat ((l.length:Int)+3) - Int.toNat 0) d)))=[x,x,d]:=by
  have e:Int.toNat ((l.length:Int)+3) - Int.toNat 0=l.length+3:=by omega
  rw [e,Int.toNat_zero,List.drop_drop,List.drop_replicate,show l.length+3 - (l.length+2)=1 by omega]
  show List.take l.length ([]++l++[x,x]++[d])=l∧List.drop l.length ([]++l++[x,x]++[d])=[x,x,d]
  rw [List.nil_append,List.append_assoc,List.take_left',List.drop_left']
  · exact ⟨rfl,rfl⟩
  · rfl
  · rfl
theorem b4a:b6A.Valid Try.prog 20:=by
  refine p7.o8 b3m rfl rfl Try.func20 (c:=b8 Try.prog 20) rfl rfl b2J rfl ?_
  rintro ⟨(l:List Int),(x:Int),⟨⟩⟩ (hp:l.length≤1048576) -
  refine j8 (n:=1000) b3m b2J ?_
  refine g9 (c2E l x) ?_
  obtain ⟨e1,e2⟩:=a5V l x (0:Int)
  have e0:List.set (List.set [(0:Int),0] (Int.toNat ((0:Nat):Int)) x) (Int.toNat ((1:Nat):Int)) x=[x,x]:=rfl
  have er:(List.replicate (Int.toNat ((l.length:Int)+3) - Int.toNat 0) (0:Int)).length=l.length+3:=by rw [List.length_replicate]; omega
  have ez:(List.replicate (Int.toNat 0) (0:Int)).length=0:=rfl
  have ew:Ty.wb (Ty.int .i64)=8:=rfl
  simp only [e0]
  refine ⟨q8.2 (by omega),fun _=>⟨⟨by omega,by omega,by omega,by omega,by rw [ew]; omega⟩,fun _=>⟨⟨trivial,by rw [er]; omega⟩,fun _=>⟨⟨trivial,by rw [List.length_drop,er]; show 2≤_; omega⟩,fun _=>⟨⟨trivial,by omega,?_⟩,fun _=>?_⟩⟩⟩⟩⟩
  · simp only [List.length_append,List.length_drop,er,ez]
    show (l.length:Int)≤((0+l.length+2+(l.length+3 - l.length - 2):Nat):Int)
    omega
  · exact congrArg (fun y=>(y,())) (Prod.ext rfl (Prod.ext e1 e2))
theorem a6s {w:Nat} {k:Int} (h:w≤1024) (hk:k≤1048579) (h0:0≤k:=by omega):k*(w:Int)≤140737488355328:=by
  have h1:k*(w:Int)≤1048579*(w:Int):=Int.mul_le_mul_of_nonneg_right hk (by omega)
  omega
def b1I:p7:={ ps:=[.v (.s4 y8),.v (.b7 false y8),.v y8],rs:=[.bool],pre:=fun x=>x.1.1=(3:Nat)∧2≤List.length (α:=Int) x.1.2.2∧List.length (α:=Int) x.1.2.1≤1048576,fn:=fun x=>(decide ((show List Int from x.1.2.1)=(show List Int from x.2.1)) && (decide ((show Int from List.getD (α:=Int) x.1.2.2 0 0)=(show Int from x.2.2.1)) && decide ((show Int from List.getD (α:=Int) x.1.2.2 1 0)=(show Int from x.2.2.1))),()),out:=fun _=>() }
noncomputable def b2T:Env:={ P:=Try.prog,tt:=tt,A3:=[(19,b96)],res:=[Go.ResultVar.tmp 6],rs:=[Ty.bool],ps:=[PK.v (Ty.s4 (Ty.int IntKind.i64)),PK.v (Ty.b7 false (Ty.int IntKind.i64)),PK.v (Ty.int IntKind.i64)],x7:=[],nt:=35 }
theorem a9S:u5 b2T:=w7 p9 ⟨b6p,trivial⟩
theorem a9K:y9 b2T Try.f22:=⟨rfl,rfl⟩
theorem c0p (x0_n:Nat) (x0_l:List Int) (x0_m:List Int) (x1:List Int) (x2:Int):exec b2T 1000 [.code (b8 Try.prog 22)] (s6 b1I.ps (((x0_n,x0_l,x0_m),x1,x2,()))) =
  .d8 (u7 IntKind.i64 ((↑(List.length x0_l):Int)+(2:Int))) (.d8 (x0_n=3∧(0:Int)≤(0:Int)∧(0:Int)≤(↑(List.length x0_l):Int)+(2:Int)∧(↑(List.length x0_l):Int)+(2:Int)≤(↑(List.length x0_l+List.length x0_m):Int)) (.d8 (True) (cond (decide (x0_l=x1)) (.d8 ((0:Int)≤(↑(List.length x0_l):Int)∧(↑(List.length x0_l):Int)<(↑(List.length (y6 (0:Int) ((↑(List.length x0_l):Int)+(2:Int)) (x0_l++x0_m))):Int)) (cond (decide (List.getD (y6 (0:Int) ((↑(List.length x0_l):Int)+(2:Int)) (x0_l++x0_m)) (Int.toNat (↑(List.length x0_l):Int)) (0:Int)=x2)) (.d8 (u7 IntKind.i64 ((↑(List.length x0_l):Int)+(1:Int))) (.d8 ((0:Int)≤(↑(List.length x0_l):Int)+(1:Int)∧(↑(List.length x0_l):Int)+(1:Int)<(↑(List.length (y6 (0:Int) ((↑(List.length x0_l):Int)+(2:Int)) (x0_l++x0_m))):Int)) (.ret ((decide (List.getD (y6 (0:Int) ((↑(List.length x0_l):Int)+(2:Int)) (x0_l++x0_m)) (Int.toNat ((↑(List.length x0_l):Int)+(1:Int))) (0:Int)=x2),()))))) (.ret ((false,()))))) (.ret ((false,())))))):=by kernel_rfl
theorem a3D {α:Type} {l m:List α} {d:α} (h2:2≤m.length):(y6 0 ((l.length:Int)+2) (l++m)).length=l.length+2∧(y6 0 ((l.length:Int)+2) (l++m)).getD l.length d=m.getD 0 d∧(y6 0 ((l.length:Int)+2) (l++m)).getD (l.length+1) d=m.getD 1 d:=by
  have e:y6 0 ((l.length:Int)+2) (l++m)=l++m.take 2:=by
    rw [y6,show ((l.length:Int)+2 - 0).toNat=l.length+2 by omega,Int.toNat_zero,List.drop_zero,List.take_append,List.take_of_length_le (by omega),show l.length+2 - l.length=2 by omega]
  rw [e]
  refine ⟨by rw [List.length_append,List.length_take]; omega,?_,?_⟩
  · rw [a3m (Nat.le_refl _),Nat.sub_self,List.getD_eq_getElem?_getD,List.getD_eq_getElem?_getD,List.getElem?_take_of_lt (by decide)]
  · rw [a3m (by omega),show l.length+1 - l.length=1 by omega,List.getD_eq_getElem?_getD,List.getD_eq_getElem?_getD,List.getElem?_take_of_lt (by decide)]
theorem b1H:b1I.Valid Try.prog 22:=by
  refine p7.o8 a9S rfl rfl Try.func22 (c:=b8 Try.prog 22) rfl rfl a9K rfl ?_
  rintro ⟨⟨(n:Nat),(l:List Int),(m:List Int)⟩,(was:List Int),(x:Int),⟨⟩⟩ ⟨(h3:n=3),(h2:2≤m.length),(hlen:l.length≤1048576)⟩ -
  subst h3
  refine j8 (n:=1000) a9S a9K ?_
  refine g9 (c0p 3 l m was x) ?_
  obtain ⟨c1,c2,c3⟩:=a3D (l:=l) (d:=(0:Int)) h2
  have en:Int.toNat ((l.length:Int)+1)=l.length+1:=by omega
  simp only [Tree.holds,true_and,true_implies,o5,decide_eq_true_eq,decide_eq_false_iff_not,Int.toNat_natCast,c1,c2,en,c3]
  refine ⟨q8.2 (by omega),fun _=>⟨by omega,fun _=>⟨fun a=>⟨by omega,fun _=>⟨fun b=>⟨q8.2 (by omega),fun _=>⟨by omega,fun _=>?_⟩⟩,fun b=>?_⟩⟩,fun a=>?_⟩⟩⟩
  · show ((_,()):Bool×Unit)=(_,())
    rw [decide_eq_true a,decide_eq_true b]; rfl
  · show ((_,()):Bool×Unit)=(_,())
    rw [decide_eq_true a,decide_eq_false b]; rfl
  · show ((_,()):Bool×Unit)=(_,())
    rw [decide_eq_false a]; rfl
def c09:p7:=a3a y8
theorem b3M:c09.Valid Try.prog 23:=by
  refine a5Z (S:=24) (I:=3) (T:=3) (e:=b5L (b8 Try.prog 23) [5,6,7,8,0,9,10,11,12,13,4,14,15,16,17,19,18,20]) (by kernel_rfl) (by kernel_rfl) (by kernel_rfl) Try.func23 (by kernel_rfl) rfl rfl rfl
theorem b4V {P:Prop} [Decidable P] {b:Bool} (h:b=true↔P):b=(true && (true && decide P)):=by
  cases b with
  | true=>rw [decide_eq_true (h.1 rfl)]; rfl
  | false=>rw [decide_eq_false (fun c=>by have:=h.2 c; cases this)]; rfl
abbrev ez:List UInt8:=[]
end Go.Proofs.Ytekbamiaenbhjaa
