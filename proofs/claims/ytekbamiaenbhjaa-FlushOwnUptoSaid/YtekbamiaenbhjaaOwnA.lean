/- ample, stays, spoil at int. -/
import Derived.Test.YtekbamiaenbhjaaFluA
namespace Go.Proofs.Ytekbamiaenbhjaa
open Go.Ex
set_option maxRecDepth 100000
def campI:Ctr:={ ps:=[.v (.slc false I64),.v I64],rs:=[.msl I64],pre:=fun x=>List.length (α:=Int) x.1≤1048576,fn:=fun x=>((2,x.1,[x.2.1,x.2.1,0]),()),out:=fun _=>() }
noncomputable def EampI:Env:={ P:=Try.prog,tt:=tt,ctr:=[],res:=[Go.ResultVar.tmp 4],rs:=[Ty.msl (Ty.int IntKind.i64)],ps:=[PK.v (Ty.slc false (Ty.int IntKind.i64)),PK.v (Ty.int IntKind.i64)],cuts:=[],nt:=20 }
theorem EampI_ok:EnvOk EampI:=envOk tt_ok trivial
theorem FampI_ok:FnOk EampI Try.f20:=⟨rfl,rfl⟩
theorem EampI_t (x0:List Int) (x1:Int):exec EampI 1000 [.code (bodyOf Try.prog 20)] (initSt campI.ps ((x0,x1,()))) =
  .need (inK IntKind.i64 ((↑(List.length x0):Int)+(3:Int))) (.need ((1:Int)≤(↑(List.length x0):Int)+(3:Int)∧(0:Int)≤(0:Int)∧(0:Int)≤(↑(List.length x0):Int)+(3:Int)∧(↑(List.length x0):Int)+(3:Int)≤(140737488355328:Int)∧((↑(List.length x0):Int)+(3:Int))*(↑(Ty.wb (Ty.int IntKind.i64)):Int)≤(140737488355328:Int)) (.need (2=2∧List.length x0≤List.length (List.replicate (Int.toNat ((↑(List.length x0):Int)+(3:Int)) - Int.toNat (0:Int)) (0:Int))) (.need (2=2∧List.length (List.set (List.set [(0:Int),(0:Int)] (Int.toNat (↑0:Int)) x1) (Int.toNat (↑1:Int)) x1)≤List.length (List.drop (List.length x0) (List.replicate (Int.toNat ((↑(List.length x0):Int)+(3:Int)) - Int.toNat (0:Int)) (0:Int)))) (.need (2=2∧(0:Int)≤(↑(List.length x0):Int)∧(↑(List.length x0):Int)≤(↑(List.length (List.replicate (Int.toNat (0:Int)) (0:Int)++x0++List.set (List.set [(0:Int),(0:Int)] (Int.toNat (↑0:Int)) x1) (Int.toNat (↑1:Int)) x1)+List.length (List.drop (List.length (List.set (List.set [(0:Int),(0:Int)] (Int.toNat (↑0:Int)) x1) (Int.toNat (↑1:Int)) x1)) (List.drop (List.length x0) (List.replicate (Int.toNat ((↑(List.length x0):Int)+(3:Int)) - Int.toNat (0:Int)) (0:Int))))):Int)) (.ret (((2,List.take (Int.toNat (↑(List.length x0):Int)) (List.replicate (Int.toNat (0:Int)) (0:Int)++x0++List.set (List.set [(0:Int),(0:Int)] (Int.toNat (↑0:Int)) x1) (Int.toNat (↑1:Int)) x1++List.drop (List.length (List.set (List.set [(0:Int),(0:Int)] (Int.toNat (↑0:Int)) x1) (Int.toNat (↑1:Int)) x1)) (List.drop (List.length x0) (List.replicate (Int.toNat ((↑(List.length x0):Int)+(3:Int)) - Int.toNat (0:Int)) (0:Int)))),List.drop (Int.toNat (↑(List.length x0):Int)) (List.replicate (Int.toNat (0:Int)) (0:Int)++x0++List.set (List.set [(0:Int),(0:Int)] (Int.toNat (↑0:Int)) x1) (Int.toNat (↑1:Int)) x1++List.drop (List.length (List.set (List.set [(0:Int),(0:Int)] (Int.toNat (↑0:Int)) x1) (Int.toNat (↑1:Int)) x1)) (List.drop (List.length x0) (List.replicate (Int.toNat ((↑(List.length x0):Int)+(3:Int)) - Int.toNat (0:Int)) (0:Int))))),()))))))):=by kernel_rfl
theorem amp_fin {α:Type} (l:List α) (x d:α):List.take l.length (List.replicate (Int.toNat 0) d++l++[x,x]++List.drop 2 (List.drop l.length (List.replicate (Int.toNat ((l.length:Int)+3) - Int.toNat 0) d)))=l ∧
    List.drop l.length (List.replicate (Int.toNat 0) d++l++[x,x]++List.drop 2 (List.drop l.length (List.replicate (Int.toNat ((l.length:Int)+3) - Int.toNat 0) d)))=[x,x,d]:=by
  have e:Int.toNat ((l.length:Int)+3) - Int.toNat 0=l.length+3:=by omega
  rw [e,Int.toNat_zero,List.drop_drop,List.drop_replicate,show l.length+3 - (l.length+2)=1 by omega]
  show List.take l.length ([]++l++[x,x]++[d])=l∧List.drop l.length ([]++l++[x,x]++[d])=[x,x,d]
  rw [List.nil_append,List.append_assoc,List.take_left',List.drop_left']
  · exact ⟨rfl,rfl⟩
  · rfl
  · rfl
theorem campI_valid:campI.Valid Try.prog 20:=by
  refine Ctr.valid_of EampI_ok rfl rfl Try.func20 (c:=bodyOf Try.prog 20) rfl rfl FampI_ok rfl ?_
  rintro ⟨(l:List Int),(x:Int),⟨⟩⟩ (hp:l.length≤1048576) -
  refine exec_sound (n:=1000) EampI_ok FampI_ok ?_
  refine holds_of_eq (EampI_t l x) ?_
  obtain ⟨e1,e2⟩:=amp_fin l x (0:Int)
  have e0:List.set (List.set [(0:Int),0] (Int.toNat ((0:Nat):Int)) x) (Int.toNat ((1:Nat):Int)) x=[x,x]:=rfl
  have er:(List.replicate (Int.toNat ((l.length:Int)+3) - Int.toNat 0) (0:Int)).length=l.length+3:=by rw [List.length_replicate]; omega
  have ez:(List.replicate (Int.toNat 0) (0:Int)).length=0:=rfl
  have ew:Ty.wb (Ty.int .i64)=8:=rfl
  simp only [e0]
  refine ⟨inK_i64.2 (by omega),fun _=>⟨⟨by omega,by omega,by omega,by omega,by rw [ew]; omega⟩,fun _=>⟨⟨trivial,by rw [er]; omega⟩,fun _=>⟨⟨trivial,by rw [List.length_drop,er]; show 2≤_; omega⟩,fun _=>⟨⟨trivial,by omega,?_⟩,fun _=>?_⟩⟩⟩⟩⟩
  · simp only [List.length_append,List.length_drop,er,ez]
    show (l.length:Int)≤((0+l.length+2+(l.length+3 - l.length - 2):Nat):Int)
    omega
  · exact congrArg (fun y=>(y,())) (Prod.ext rfl (Prod.ext e1 e2))
def cstayI:Ctr:={ ps:=[.v (.msl I64),.v (.slc false I64),.v I64],rs:=[.bool],pre:=fun x=>x.1.1=(3:Nat)∧2≤List.length (α:=Int) x.1.2.2∧List.length (α:=Int) x.1.2.1≤1048576,fn:=fun x=>(decide ((show List Int from x.1.2.1)=(show List Int from x.2.1)) && (decide ((show Int from List.getD (α:=Int) x.1.2.2 0 0)=(show Int from x.2.2.1)) && decide ((show Int from List.getD (α:=Int) x.1.2.2 1 0)=(show Int from x.2.2.1))),()),out:=fun _=>() }
noncomputable def EstayI:Env:={ P:=Try.prog,tt:=tt,ctr:=[(19,ceqI)],res:=[Go.ResultVar.tmp 6],rs:=[Ty.bool],ps:=[PK.v (Ty.msl (Ty.int IntKind.i64)),PK.v (Ty.slc false (Ty.int IntKind.i64)),PK.v (Ty.int IntKind.i64)],cuts:=[],nt:=35 }
theorem EstayI_ok:EnvOk EstayI:=envOk tt_ok ⟨ceqI_valid,trivial⟩
theorem FstayI_ok:FnOk EstayI Try.f22:=⟨rfl,rfl⟩
theorem EstayI_t (x0_n:Nat) (x0_l:List Int) (x0_m:List Int) (x1:List Int) (x2:Int):exec EstayI 1000 [.code (bodyOf Try.prog 22)] (initSt cstayI.ps (((x0_n,x0_l,x0_m),x1,x2,()))) =
  .need (inK IntKind.i64 ((↑(List.length x0_l):Int)+(2:Int))) (.need (x0_n=3∧(0:Int)≤(0:Int)∧(0:Int)≤(↑(List.length x0_l):Int)+(2:Int)∧(↑(List.length x0_l):Int)+(2:Int)≤(↑(List.length x0_l+List.length x0_m):Int)) (.need (True) (cond (decide (x0_l=x1)) (.need ((0:Int)≤(↑(List.length x0_l):Int)∧(↑(List.length x0_l):Int)<(↑(List.length (cut2 (0:Int) ((↑(List.length x0_l):Int)+(2:Int)) (x0_l++x0_m))):Int)) (cond (decide (List.getD (cut2 (0:Int) ((↑(List.length x0_l):Int)+(2:Int)) (x0_l++x0_m)) (Int.toNat (↑(List.length x0_l):Int)) (0:Int)=x2)) (.need (inK IntKind.i64 ((↑(List.length x0_l):Int)+(1:Int))) (.need ((0:Int)≤(↑(List.length x0_l):Int)+(1:Int)∧(↑(List.length x0_l):Int)+(1:Int)<(↑(List.length (cut2 (0:Int) ((↑(List.length x0_l):Int)+(2:Int)) (x0_l++x0_m))):Int)) (.ret ((decide (List.getD (cut2 (0:Int) ((↑(List.length x0_l):Int)+(2:Int)) (x0_l++x0_m)) (Int.toNat ((↑(List.length x0_l):Int)+(1:Int))) (0:Int)=x2),()))))) (.ret ((false,()))))) (.ret ((false,())))))):=by kernel_rfl
theorem stay_cut {α:Type} {l m:List α} {d:α} (h2:2≤m.length):(cut2 0 ((l.length:Int)+2) (l++m)).length=l.length+2∧(cut2 0 ((l.length:Int)+2) (l++m)).getD l.length d=m.getD 0 d∧(cut2 0 ((l.length:Int)+2) (l++m)).getD (l.length+1) d=m.getD 1 d:=by
  have e:cut2 0 ((l.length:Int)+2) (l++m)=l++m.take 2:=by
    rw [cut2,show ((l.length:Int)+2 - 0).toNat=l.length+2 by omega,Int.toNat_zero,List.drop_zero,List.take_append,List.take_of_length_le (by omega),show l.length+2 - l.length=2 by omega]
  rw [e]
  refine ⟨by rw [List.length_append,List.length_take]; omega,?_,?_⟩
  · rw [getD_app_right (Nat.le_refl _),Nat.sub_self,List.getD_eq_getElem?_getD,List.getD_eq_getElem?_getD,List.getElem?_take_of_lt (by decide)]
  · rw [getD_app_right (by omega),show l.length+1 - l.length=1 by omega,List.getD_eq_getElem?_getD,List.getD_eq_getElem?_getD,List.getElem?_take_of_lt (by decide)]
theorem cstayI_valid:cstayI.Valid Try.prog 22:=by
  refine Ctr.valid_of EstayI_ok rfl rfl Try.func22 (c:=bodyOf Try.prog 22) rfl rfl FstayI_ok rfl ?_
  rintro ⟨⟨(n:Nat),(l:List Int),(m:List Int)⟩,(was:List Int),(x:Int),⟨⟩⟩ ⟨(h3:n=3),(h2:2≤m.length),(hlen:l.length≤1048576)⟩ -
  subst h3
  refine exec_sound (n:=1000) EstayI_ok FstayI_ok ?_
  refine holds_of_eq (EstayI_t 3 l m was x) ?_
  obtain ⟨c1,c2,c3⟩:=stay_cut (l:=l) (d:=(0:Int)) h2
  have en:Int.toNat ((l.length:Int)+1)=l.length+1:=by omega
  simp only [Tree.holds,true_and,true_implies,holds_cond,decide_eq_true_eq,decide_eq_false_iff_not,Int.toNat_natCast,c1,c2,en,c3]
  refine ⟨inK_i64.2 (by omega),fun _=>⟨by omega,fun _=>⟨fun a=>⟨by omega,fun _=>⟨fun b=>⟨inK_i64.2 (by omega),fun _=>⟨by omega,fun _=>?_⟩⟩,fun b=>?_⟩⟩,fun a=>?_⟩⟩⟩
  · show ((_,()):Bool×Unit)=(_,())
    rw [decide_eq_true a,decide_eq_true b]; rfl
  · show ((_,()):Bool×Unit)=(_,())
    rw [decide_eq_true a,decide_eq_false b]; rfl
  · show ((_,()):Bool×Unit)=(_,())
    rw [decide_eq_false a]; rfl
def cspoI:Ctr:=spoilC I64
theorem cspoI_valid:cspoI.Valid Try.prog 23:=by
  refine spoil_valid (S:=24) (I:=3) (T:=3) (e:=oiOf (bodyOf Try.prog 23) [5,6,7,8,0,9,10,11,12,13,4,14,15,16,17,19,18,20]) rfl (by kernel_rfl) (by kernel_rfl) (by kernel_rfl) Try.func23 (by kernel_rfl) rfl rfl rfl
end Go.Proofs.Ytekbamiaenbhjaa
