/- Quorum systems: the small functions' contracts. No condition but those named. -/
import Derived.Test.YtekbamiaenbhjaaQC
import Derived.Test.YtekbamiaenbhjaaSortC
namespace Go.Proofs.Ytekbamiaenbhjaa
open Go.Ex Go.Sort
set_option maxRecDepth 100000
theorem a69:Ty.wb (Ty.int IntKind.u16)=2:=rfl
def b6f:p7:={ ps:=[.v y8],rs:=[.bool],pre:=fun _=>True,fn:=fun _=>(false,()),out:=fun _=>() }
noncomputable def b69:Env:={ P:=Try.prog,tt:=tt,A3:=[],res:=[Go.ResultVar.tmp 2],rs:=[Ty.bool],ps:=[PK.v (Ty.int IntKind.i64)],x7:=[],nt:=6 }
theorem b2Y:u5 b69:=w7 p9 trivial
theorem b2x:y9 b69 Try.f223:=⟨rfl,rfl⟩
theorem c2i (x0:Int):exec b69 1000 [.code (b8 Try.prog 223)] (s6 b6f.ps ((x0,()))) =
  .ret ((decide (x0≠x0),())):=by kernel_rfl
theorem b3R:b6f.Valid Try.prog 223:=by
  refine p7.o8 b2Y rfl rfl Try.func223 (c:=b8 Try.prog 223) rfl rfl b2x rfl ?_
  rintro ⟨(x:Int),⟨⟩⟩ - -
  refine j8 (n:=1000) b2Y b2x ?_
  refine g9 (c2i x) ?_
  show ((decide (x≠x),()):Bool×Unit)=(false,())
  simp
def b6e:p7:={ ps:=[.v D3],rs:=[.bool],pre:=fun _=>True,fn:=fun _=>(false,()),out:=fun _=>() }
noncomputable def b68:Env:={ P:=Try.prog,tt:=tt,A3:=[],res:=[Go.ResultVar.tmp 2],rs:=[Ty.bool],ps:=[PK.v (Ty.int IntKind.u16)],x7:=[],nt:=6 }
theorem b2X:u5 b68:=w7 p9 trivial
theorem b2w:y9 b68 Try.f334:=⟨rfl,rfl⟩
theorem c2h (x0:Int):exec b68 1000 [.code (b8 Try.prog 334)] (s6 b6e.ps ((x0,()))) =
  .ret ((decide (x0≠x0),())):=by kernel_rfl
theorem b3Q:b6e.Valid Try.prog 334:=by
  refine p7.o8 b2X rfl rfl Try.func334 (c:=b8 Try.prog 334) rfl rfl b2w rfl ?_
  rintro ⟨(x:Int),⟨⟩⟩ - -
  refine j8 (n:=1000) b2X b2w ?_
  refine g9 (c2h x) ?_
  show ((decide (x≠x),()):Bool×Unit)=(false,())
  simp
def b6y:p7:={ ps:=[.v y8,.v y8],rs:=[y8],pre:=fun _=>True,fn:=fun x=>(Z8 x.1 x.2.1,()),out:=fun _=>() }
noncomputable def b7n:Env:={ P:=Try.prog,tt:=tt,A3:=[(223,b6f)],res:=[Go.ResultVar.tmp 4],rs:=[Ty.int IntKind.i64],ps:=[PK.v (Ty.int IntKind.i64),PK.v (Ty.int IntKind.i64)],x7:=[],nt:=20 }
theorem b3i:u5 b7n:=w7 p9 ⟨b3R,trivial⟩
theorem b2H:y9 b7n Try.f132:=⟨rfl,rfl⟩
theorem c2C (x0:Int) (x1:Int):exec b7n 1000 [.code (b8 Try.prog 132)] (s6 b6y.ps ((x0,x1,()))) =
  .d8 (True) (.d8 (True) (cond (decide (x0<x1)) (.ret (((-1:Int),()))) (cond (decide (x1<x0)) (.ret (((1:Int),()))) (.ret (((0:Int),())))))):=by kernel_rfl
theorem b38:b6y.Valid Try.prog 132:=by
  refine p7.o8 b3i rfl rfl Try.func132 (c:=b8 Try.prog 132) rfl rfl b2H rfl ?_
  rintro ⟨(x:Int),(y:Int),⟨⟩⟩ - -
  refine j8 (n:=1000) b3i b2H ?_
  refine g9 (c2C x y) ?_
  simp only [o5,Tree.holds,true_and,true_implies,decide_eq_true_eq,decide_eq_false_iff_not,Bool.not_eq_true',Bool.not_eq_false',Int.toNat_natCast,q8,List.length_set,List.length_cons,List.length_nil]
  repeat' first|exact trivial|(refine And.intro ?_ ?_)|(intro _)
  all_goals (show ((_,()):Int×Unit)=(Z8 x y,()); simp [Z8, *])
def b6x:p7:={ ps:=[.v D3,.v D3],rs:=[y8],pre:=fun _=>True,fn:=fun x=>(Z8 x.1 x.2.1,()),out:=fun _=>() }
noncomputable def b7m:Env:={ P:=Try.prog,tt:=tt,A3:=[(334,b6e)],res:=[Go.ResultVar.tmp 4],rs:=[Ty.int IntKind.i64],ps:=[PK.v (Ty.int IntKind.u16),PK.v (Ty.int IntKind.u16)],x7:=[],nt:=20 }
theorem b3h:u5 b7m:=w7 p9 ⟨b3Q,trivial⟩
theorem b2G:y9 b7m Try.f309:=⟨rfl,rfl⟩
theorem c2B (x0:Int) (x1:Int):exec b7m 1000 [.code (b8 Try.prog 309)] (s6 b6x.ps ((x0,x1,()))) =
  .d8 (True) (.d8 (True) (cond (decide (x0<x1)) (.ret (((-1:Int),()))) (cond (decide (x1<x0)) (.ret (((1:Int),()))) (.ret (((0:Int),())))))):=by kernel_rfl
theorem b37:b6x.Valid Try.prog 309:=by
  refine p7.o8 b3h rfl rfl Try.func309 (c:=b8 Try.prog 309) rfl rfl b2G rfl ?_
  rintro ⟨(x:Int),(y:Int),⟨⟩⟩ - -
  refine j8 (n:=1000) b3h b2G ?_
  refine g9 (c2B x y) ?_
  simp only [o5,Tree.holds,true_and,true_implies,decide_eq_true_eq,decide_eq_false_iff_not,Bool.not_eq_true',Bool.not_eq_false',Int.toNat_natCast,q8,List.length_set,List.length_cons,List.length_nil]
  repeat' first|exact trivial|(refine And.intro ?_ ?_)|(intro _)
  all_goals (show ((_,()):Int×Unit)=(Z8 x y,()); simp [Z8, *])
def orF:List Int→Int
  | []=>0
  | x::l=>if x≠0 then x else orF l
def b91:p7:={ ps:=[.v (.b7 false y8)],rs:=[y8],pre:=fun _=>True,fn:=fun x=>(orF x.1,()),out:=fun _=>() }
noncomputable def b66:Env:={ P:=Try.prog,tt:=tt,A3:=[],res:=[Go.ResultVar.tmp 2],rs:=[Ty.int IntKind.i64],ps:=[PK.v (Ty.b7 false (Ty.int IntKind.i64))],x7:=[(3,[(3,none),(6,none),(7,none),(8,none)])],nt:=18 }
theorem a81:u5 b66:=w7 p9 trivial
theorem a8R:y9 b66 Try.f131:=⟨rfl,rfl⟩
theorem c3G (x0:List Int):exec b66 1000 [.code (b8 Try.prog 131)] (s6 b91.ps ((x0,()))) =
  .cut (e8 (b8 Try.prog 131) 3).1 (e8 (b8 Try.prog 131) 3).2 (St.mk [(3,AV.val (Ty.int IntKind.i64) (0:Int)),(6,AV.val (Ty.b7 false (Ty.int IntKind.i64)) x0),(7,AV.val (Ty.int IntKind.i64) (↑(List.length x0):Int)),(8,AV.val (Ty.int IntKind.i64) (0:Int))] []):=by kernel_rfl
def b5i (v3:Int) (v6:List Int) (v7:Int) (v8:Int):St:=St.mk [(3,AV.val (Ty.int IntKind.i64) v3),(6,AV.val (Ty.b7 false (Ty.int IntKind.i64)) v6),(7,AV.val (Ty.int IntKind.i64) v7),(8,AV.val (Ty.int IntKind.i64) v8)] []
theorem c2f (v3:Int) (v6:List Int) (v7:Int) (v8:Int):exec b66 1000 (.code (e8 (b8 Try.prog 131) 3).1::.inLoop (e8 (b8 Try.prog 131) 3).1::(e8 (b8 Try.prog 131) 3).2) (b5i v3 v6 v7 v8) =
  cond (decide (v8<v7)) (.d8 ((0:Int)≤v8∧v8<(↑(List.length v6):Int)) (cond (decide (List.getD v6 (Int.toNat v8) (0:Int)≠v3)) (.ret ((List.getD v6 (Int.toNat v8) (0:Int),()))) (.d8 (u7 IntKind.i64 (v8+(1:Int))) (.cut (e8 (b8 Try.prog 131) 3).1 (e8 (b8 Try.prog 131) 3).2 (St.mk [(3,AV.val (Ty.int IntKind.i64) v3),(6,AV.val (Ty.b7 false (Ty.int IntKind.i64)) v6),(7,AV.val (Ty.int IntKind.i64) v7),(8,AV.val (Ty.int IntKind.i64) (v8+(1:Int)))] []))))) (.ret ((v3,()))):=by kernel_rfl
theorem b6b:b91.Valid Try.prog 131:=by
  refine p7.o8 a81 rfl rfl Try.func131 (c:=b8 Try.prog 131) rfl rfl a8R rfl ?_
  rintro ⟨(l:List Int),⟨⟩⟩ - ⟨⟨hl,-⟩,-⟩
  have hl:l.length≤9223372036854775807:=hl
  refine j8 (n:=1000) a81 a8R ?_
  refine g9 (c3G l) ?_
  refine Reach.K9 a81 a8R (fun i:Nat=>b5i (0:Int) l (l.length:Int) (i:Int)) (fun i=>i≤l.length∧orF l=orF (l.drop i)) (fun i=>l.length - i) 1000 (fun _=>⟨u3 rfl,u3 rfl⟩) ?_ 0 ⟨Nat.zero_le _,rfl⟩
  rintro i ⟨k1,k2⟩ - ih
  refine g9 (c2f ..) ?_
  simp only [o5,Tree.holds,true_and,true_implies,decide_eq_true_eq,decide_eq_false_iff_not,Bool.not_eq_true',Bool.not_eq_false',Int.toNat_natCast,q8,List.length_set,List.length_cons,List.length_nil]
  refine ⟨fun c=>⟨by omega,fun _=>⟨fun d=>?_,fun d=>⟨by omega,fun _=>ih (i+1) ⟨by omega,?_⟩ (by omega)⟩⟩⟩,fun c=>?_⟩
  · rw [S9 (show i<l.length by omega) 0,orF,if_pos d] at k2
    show ((l.getD i 0,()):Int×Unit)=(orF l,())
    rw [k2]
  · rw [S9 (show i<l.length by omega) 0,orF,if_neg (by simpa using d)] at k2
    exact k2
  · rw [List.drop_eq_nil_of_le (by omega)] at k2
    show ((0,()):Int×Unit)=(orF l,())
    rw [k2]; rfl
def okT (T:List UInt8):Bool:=decide (T.length=256) && (List.range 256).all (fun n=>(T.getD n 0).toNat == V8 n)
theorem b4J {T:List UInt8} (h:okT T=true):T.length=256:=by rw [okT,Bool.and_eq_true] at h; exact of_decide_eq_true h.1
theorem b4K {T:List UInt8} (h:okT T=true) {n:Nat} (hn:n<256):(T.getD n 0).toNat=V8 n:=by
  rw [okT,Bool.and_eq_true] at h
  exact beq_iff_eq.1 (List.all_eq_true.1 h.2 n (List.mem_range.2 hn))
theorem c0V {x:Int} (h:N3 x):x / 2^min (Int.toNat 8) (IntKind.bits .u16)=((x.toNat / 256:Nat):Int):=by
  show x / 256=_
  have:=h.1
  omega
theorem c0U {x:Int} (h:N3 x):Q7 .u16 x 255=((x.toNat % 256:Nat):Int):=by
  have e:Q7 .u16 x 255=a5f x 255:=rfl
  have h2:N3 ((x.toNat % 256:Nat):Int):=⟨by omega,by omega⟩
  refine a8J (a8O x 255) h2 (fun i=>?_)
  have h3:hasB 255 i=decide (i<8):=by
    rw [U7 ⟨by omega,by omega⟩,show (255:Int).toNat=2^8 - 1 from rfl,Nat.testBit_two_pow_sub_one]
  rw [e,b4R,h3,U7 h,U7 h2,Int.toNat_natCast,show (256:Nat)=2^8 from rfl,Nat.testBit_mod_two_pow,Bool.and_comm]
theorem pcL (T:List UInt8) (hT:okT T=true) {x:Int} (h:N3 x):0≤x / 2^min (Int.toNat 8) (IntKind.bits .u16)∧x / 2^min (Int.toNat 8) (IntKind.bits .u16)<(T.length:Int):=by
  rw [c0V h,b4J hT]
  have:=h.2
  have:=h.1
  omega
theorem pcM (T:List UInt8) (hT:okT T=true) {x:Int} (h:N3 x):0≤Q7 .u16 x 255∧Q7 .u16 x 255<(T.length:Int):=by
  rw [c0U h,b4J hT]
  omega
theorem pcR (T:List UInt8) (hT:okT T=true) {x:Int} (h:N3 x):((IntKind.wrap .i64 (IntKind.wrap .u8 (((T.getD (Int.toNat (x / 2^min (Int.toNat 8) (IntKind.bits .u16))) 0).toNat:Int)+((T.getD (Int.toNat (Q7 .u16 x 255)) 0).toNat:Int))),()):Int×Unit)=(pc x,()):=by
  have hx:=h.2
  have hx0:=h.1
  rw [c0V h,c0U h,Int.toNat_natCast,Int.toNat_natCast,b4K hT (by omega),b4K hT (by omega)]
  have h1:=b04 (x.toNat / 256)
  have h2:=b04 (x.toNat % 256)
  rw [J8 (k:=.u8) (u8_in.2 (by omega)),J8 (q8.2 (by omega))]
  simp [pc]
def cpc:p7:={ ps:=[.v D3],rs:=[y8],pre:=fun _=>True,fn:=fun x=>(pc x.1,()),out:=fun _=>() }
noncomputable def Epc:Env:={ P:=Try.prog,tt:=tt,A3:=[],res:=[Go.ResultVar.tmp 2],rs:=[Ty.int IntKind.i64],ps:=[PK.v (Ty.int IntKind.u16)],x7:=[],nt:=11 }
theorem b84:u5 Epc:=w7 p9 trivial
theorem b8X:y9 Epc Try.f308:=⟨rfl,rfl⟩
theorem c36 (x0:Int):exec Epc 1000 [.code (b8 Try.prog 308)] (s6 cpc.ps ((x0,()))) =
  .d8 ((0:Int)≤(8:Int)) (.d8 ((0:Int)≤x0 / (2:Int)^min (Int.toNat (8:Int)) (IntKind.bits IntKind.u16)∧x0 / (2:Int)^min (Int.toNat (8:Int)) (IntKind.bits IntKind.u16)<(↑(List.length (Array.toList (ByteArray.data (ByteArray.mk (List.toArray (List.append (List.append [(0:UInt8),(1:UInt8),(1:UInt8),(2:UInt8),(1:UInt8),(2:UInt8),(2:UInt8),(3:UInt8),(1:UInt8),(2:UInt8),(2:UInt8),(3:UInt8),(2:UInt8),(3:UInt8),(3:UInt8),(4:UInt8),(1:UInt8),(2:UInt8),(2:UInt8),(3:UInt8),(2:UInt8),(3:UInt8),(3:UInt8),(4:UInt8),(2:UInt8),(3:UInt8),(3:UInt8),(4:UInt8),(3:UInt8),(4:UInt8),(4:UInt8),(5:UInt8),(1:UInt8),(2:UInt8),(2:UInt8),(3:UInt8),(2:UInt8),(3:UInt8),(3:UInt8),(4:UInt8),(2:UInt8),(3:UInt8),(3:UInt8),(4:UInt8),(3:UInt8),(4:UInt8),(4:UInt8),(5:UInt8),(2:UInt8),(3:UInt8),(3:UInt8),(4:UInt8),(3:UInt8),(4:UInt8),(4:UInt8),(5:UInt8),(3:UInt8),(4:UInt8),(4:UInt8),(5:UInt8),(4:UInt8),(5:UInt8),(5:UInt8),(6:UInt8)] [(1:UInt8),(2:UInt8),(2:UInt8),(3:UInt8),(2:UInt8),(3:UInt8),(3:UInt8),(4:UInt8),(2:UInt8),(3:UInt8),(3:UInt8),(4:UInt8),(3:UInt8),(4:UInt8),(4:UInt8),(5:UInt8),(2:UInt8),(3:UInt8),(3:UInt8),(4:UInt8),(3:UInt8),(4:UInt8),(4:UInt8),(5:UInt8),(3:UInt8),(4:UInt8),(4:UInt8),(5:UInt8),(4:UInt8),(5:UInt8),(5:UInt8),(6:UInt8),(2:UInt8),(3:UInt8),(3:UInt8),(4:UInt8),(3:UInt8),(4:UInt8),(4:UInt8),(5:UInt8),(3:UInt8),(4:UInt8),(4:UInt8),(5:UInt8),(4:UInt8),(5:UInt8),(5:UInt8),(6:UInt8),(3:UInt8),(4:UInt8),(4:UInt8),(5:UInt8),(4:UInt8),(5:UInt8),(5:UInt8),(6:UInt8),(4:UInt8),(5:UInt8),(5:UInt8),(6:UInt8),(5:UInt8),(6:UInt8),(6:UInt8),(7:UInt8)]) (List.append [(1:UInt8),(2:UInt8),(2:UInt8),(3:UInt8),(2:UInt8),(3:UInt8),(3:UInt8),(4:UInt8),(2:UInt8),(3:UInt8),(3:UInt8),(4:UInt8),(3:UInt8),(4:UInt8),(4:UInt8),(5:UInt8),(2:UInt8),(3:UInt8),(3:UInt8),(4:UInt8),(3:UInt8),(4:UInt8),(4:UInt8),(5:UInt8),(3:UInt8),(4:UInt8),(4:UInt8),(5:UInt8),(4:UInt8),(5:UInt8),(5:UInt8),(6:UInt8),(2:UInt8),(3:UInt8),(3:UInt8),(4:UInt8),(3:UInt8),(4:UInt8),(4:UInt8),(5:UInt8),(3:UInt8),(4:UInt8),(4:UInt8),(5:UInt8),(4:UInt8),(5:UInt8),(5:UInt8),(6:UInt8),(3:UInt8),(4:UInt8),(4:UInt8),(5:UInt8),(4:UInt8),(5:UInt8),(5:UInt8),(6:UInt8),(4:UInt8),(5:UInt8),(5:UInt8),(6:UInt8),(5:UInt8),(6:UInt8),(6:UInt8),(7:UInt8)] [(2:UInt8),(3:UInt8),(3:UInt8),(4:UInt8),(3:UInt8),(4:UInt8),(4:UInt8),(5:UInt8),(3:UInt8),(4:UInt8),(4:UInt8),(5:UInt8),(4:UInt8),(5:UInt8),(5:UInt8),(6:UInt8),(3:UInt8),(4:UInt8),(4:UInt8),(5:UInt8),(4:UInt8),(5:UInt8),(5:UInt8),(6:UInt8),(4:UInt8),(5:UInt8),(5:UInt8),(6:UInt8),(5:UInt8),(6:UInt8),(6:UInt8),(7:UInt8),(3:UInt8),(4:UInt8),(4:UInt8),(5:UInt8),(4:UInt8),(5:UInt8),(5:UInt8),(6:UInt8),(4:UInt8),(5:UInt8),(5:UInt8),(6:UInt8),(5:UInt8),(6:UInt8),(6:UInt8),(7:UInt8),(4:UInt8),(5:UInt8),(5:UInt8),(6:UInt8),(5:UInt8),(6:UInt8),(6:UInt8),(7:UInt8),(5:UInt8),(6:UInt8),(6:UInt8),(7:UInt8),(6:UInt8),(7:UInt8),(7:UInt8),(8:UInt8)]))))))):Int)) (.d8 ((0:Int)≤Q7 IntKind.u16 x0 (255:Int)∧Q7 IntKind.u16 x0 (255:Int)<(↑(List.length (Array.toList (ByteArray.data (ByteArray.mk (List.toArray (List.append (List.append [(0:UInt8),(1:UInt8),(1:UInt8),(2:UInt8),(1:UInt8),(2:UInt8),(2:UInt8),(3:UInt8),(1:UInt8),(2:UInt8),(2:UInt8),(3:UInt8),(2:UInt8),(3:UInt8),(3:UInt8),(4:UInt8),(1:UInt8),(2:UInt8),(2:UInt8),(3:UInt8),(2:UInt8),(3:UInt8),(3:UInt8),(4:UInt8),(2:UInt8),(3:UInt8),(3:UInt8),(4:UInt8),(3:UInt8),(4:UInt8),(4:UInt8),(5:UInt8),(1:UInt8),(2:UInt8),(2:UInt8),(3:UInt8),(2:UInt8),(3:UInt8),(3:UInt8),(4:UInt8),(2:UInt8),(3:UInt8),(3:UInt8),(4:UInt8),(3:UInt8),(4:UInt8),(4:UInt8),(5:UInt8),(2:UInt8),(3:UInt8),(3:UInt8),(4:UInt8),(3:UInt8),(4:UInt8),(4:UInt8),(5:UInt8),(3:UInt8),(4:UInt8),(4:UInt8),(5:UInt8),(4:UInt8),(5:UInt8),(5:UInt8),(6:UInt8)] [(1:UInt8),(2:UInt8),(2:UInt8),(3:UInt8),(2:UInt8),(3:UInt8),(3:UInt8),(4:UInt8),(2:UInt8),(3:UInt8),(3:UInt8),(4:UInt8),(3:UInt8),(4:UInt8),(4:UInt8),(5:UInt8),(2:UInt8),(3:UInt8),(3:UInt8),(4:UInt8),(3:UInt8),(4:UInt8),(4:UInt8),(5:UInt8),(3:UInt8),(4:UInt8),(4:UInt8),(5:UInt8),(4:UInt8),(5:UInt8),(5:UInt8),(6:UInt8),(2:UInt8),(3:UInt8),(3:UInt8),(4:UInt8),(3:UInt8),(4:UInt8),(4:UInt8),(5:UInt8),(3:UInt8),(4:UInt8),(4:UInt8),(5:UInt8),(4:UInt8),(5:UInt8),(5:UInt8),(6:UInt8),(3:UInt8),(4:UInt8),(4:UInt8),(5:UInt8),(4:UInt8),(5:UInt8),(5:UInt8),(6:UInt8),(4:UInt8),(5:UInt8),(5:UInt8),(6:UInt8),(5:UInt8),(6:UInt8),(6:UInt8),(7:UInt8)]) (List.append [(1:UInt8),(2:UInt8),(2:UInt8),(3:UInt8),(2:UInt8),(3:UInt8),(3:UInt8),(4:UInt8),(2:UInt8),(3:UInt8),(3:UInt8),(4:UInt8),(3:UInt8),(4:UInt8),(4:UInt8),(5:UInt8),(2:UInt8),(3:UInt8),(3:UInt8),(4:UInt8),(3:UInt8),(4:UInt8),(4:UInt8),(5:UInt8),(3:UInt8),(4:UInt8),(4:UInt8),(5:UInt8),(4:UInt8),(5:UInt8),(5:UInt8),(6:UInt8),(2:UInt8),(3:UInt8),(3:UInt8),(4:UInt8),(3:UInt8),(4:UInt8),(4:UInt8),(5:UInt8),(3:UInt8),(4:UInt8),(4:UInt8),(5:UInt8),(4:UInt8),(5:UInt8),(5:UInt8),(6:UInt8),(3:UInt8),(4:UInt8),(4:UInt8),(5:UInt8),(4:UInt8),(5:UInt8),(5:UInt8),(6:UInt8),(4:UInt8),(5:UInt8),(5:UInt8),(6:UInt8),(5:UInt8),(6:UInt8),(6:UInt8),(7:UInt8)] [(2:UInt8),(3:UInt8),(3:UInt8),(4:UInt8),(3:UInt8),(4:UInt8),(4:UInt8),(5:UInt8),(3:UInt8),(4:UInt8),(4:UInt8),(5:UInt8),(4:UInt8),(5:UInt8),(5:UInt8),(6:UInt8),(3:UInt8),(4:UInt8),(4:UInt8),(5:UInt8),(4:UInt8),(5:UInt8),(5:UInt8),(6:UInt8),(4:UInt8),(5:UInt8),(5:UInt8),(6:UInt8),(5:UInt8),(6:UInt8),(6:UInt8),(7:UInt8),(3:UInt8),(4:UInt8),(4:UInt8),(5:UInt8),(4:UInt8),(5:UInt8),(5:UInt8),(6:UInt8),(4:UInt8),(5:UInt8),(5:UInt8),(6:UInt8),(5:UInt8),(6:UInt8),(6:UInt8),(7:UInt8),(4:UInt8),(5:UInt8),(5:UInt8),(6:UInt8),(5:UInt8),(6:UInt8),(6:UInt8),(7:UInt8),(5:UInt8),(6:UInt8),(6:UInt8),(7:UInt8),(6:UInt8),(7:UInt8),(7:UInt8),(8:UInt8)]))))))):Int)) (.ret ((IntKind.wrap IntKind.i64 (IntKind.wrap IntKind.u8 ((↑(UInt8.toNat (List.getD (Array.toList (ByteArray.data (ByteArray.mk (List.toArray (List.append (List.append [(0:UInt8),(1:UInt8),(1:UInt8),(2:UInt8),(1:UInt8),(2:UInt8),(2:UInt8),(3:UInt8),(1:UInt8),(2:UInt8),(2:UInt8),(3:UInt8),(2:UInt8),(3:UInt8),(3:UInt8),(4:UInt8),(1:UInt8),(2:UInt8),(2:UInt8),(3:UInt8),(2:UInt8),(3:UInt8),(3:UInt8),(4:UInt8),(2:UInt8),(3:UInt8),(3:UInt8),(4:UInt8),(3:UInt8),(4:UInt8),(4:UInt8),(5:UInt8),(1:UInt8),(2:UInt8),(2:UInt8),(3:UInt8),(2:UInt8),(3:UInt8),(3:UInt8),(4:UInt8),(2:UInt8),(3:UInt8),(3:UInt8),(4:UInt8),(3:UInt8),(4:UInt8),(4:UInt8),(5:UInt8),(2:UInt8),(3:UInt8),(3:UInt8),(4:UInt8),(3:UInt8),(4:UInt8),(4:UInt8),(5:UInt8),(3:UInt8),(4:UInt8),(4:UInt8),(5:UInt8),(4:UInt8),(5:UInt8),(5:UInt8),(6:UInt8)] [(1:UInt8),(2:UInt8),(2:UInt8),(3:UInt8),(2:UInt8),(3:UInt8),(3:UInt8),(4:UInt8),(2:UInt8),(3:UInt8),(3:UInt8),(4:UInt8),(3:UInt8),(4:UInt8),(4:UInt8),(5:UInt8),(2:UInt8),(3:UInt8),(3:UInt8),(4:UInt8),(3:UInt8),(4:UInt8),(4:UInt8),(5:UInt8),(3:UInt8),(4:UInt8),(4:UInt8),(5:UInt8),(4:UInt8),(5:UInt8),(5:UInt8),(6:UInt8),(2:UInt8),(3:UInt8),(3:UInt8),(4:UInt8),(3:UInt8),(4:UInt8),(4:UInt8),(5:UInt8),(3:UInt8),(4:UInt8),(4:UInt8),(5:UInt8),(4:UInt8),(5:UInt8),(5:UInt8),(6:UInt8),(3:UInt8),(4:UInt8),(4:UInt8),(5:UInt8),(4:UInt8),(5:UInt8),(5:UInt8),(6:UInt8),(4:UInt8),(5:UInt8),(5:UInt8),(6:UInt8),(5:UInt8),(6:UInt8),(6:UInt8),(7:UInt8)]) (List.append [(1:UInt8),(2:UInt8),(2:UInt8),(3:UInt8),(2:UInt8),(3:UInt8),(3:UInt8),(4:UInt8),(2:UInt8),(3:UInt8),(3:UInt8),(4:UInt8),(3:UInt8),(4:UInt8),(4:UInt8),(5:UInt8),(2:UInt8),(3:UInt8),(3:UInt8),(4:UInt8),(3:UInt8),(4:UInt8),(4:UInt8),(5:UInt8),(3:UInt8),(4:UInt8),(4:UInt8),(5:UInt8),(4:UInt8),(5:UInt8),(5:UInt8),(6:UInt8),(2:UInt8),(3:UInt8),(3:UInt8),(4:UInt8),(3:UInt8),(4:UInt8),(4:UInt8),(5:UInt8),(3:UInt8),(4:UInt8),(4:UInt8),(5:UInt8),(4:UInt8),(5:UInt8),(5:UInt8),(6:UInt8),(3:UInt8),(4:UInt8),(4:UInt8),(5:UInt8),(4:UInt8),(5:UInt8),(5:UInt8),(6:UInt8),(4:UInt8),(5:UInt8),(5:UInt8),(6:UInt8),(5:UInt8),(6:UInt8),(6:UInt8),(7:UInt8)] [(2:UInt8),(3:UInt8),(3:UInt8),(4:UInt8),(3:UInt8),(4:UInt8),(4:UInt8),(5:UInt8),(3:UInt8),(4:UInt8),(4:UInt8),(5:UInt8),(4:UInt8),(5:UInt8),(5:UInt8),(6:UInt8),(3:UInt8),(4:UInt8),(4:UInt8),(5:UInt8),(4:UInt8),(5:UInt8),(5:UInt8),(6:UInt8),(4:UInt8),(5:UInt8),(5:UInt8),(6:UInt8),(5:UInt8),(6:UInt8),(6:UInt8),(7:UInt8),(3:UInt8),(4:UInt8),(4:UInt8),(5:UInt8),(4:UInt8),(5:UInt8),(5:UInt8),(6:UInt8),(4:UInt8),(5:UInt8),(5:UInt8),(6:UInt8),(5:UInt8),(6:UInt8),(6:UInt8),(7:UInt8),(4:UInt8),(5:UInt8),(5:UInt8),(6:UInt8),(5:UInt8),(6:UInt8),(6:UInt8),(7:UInt8),(5:UInt8),(6:UInt8),(6:UInt8),(7:UInt8),(6:UInt8),(7:UInt8),(7:UInt8),(8:UInt8)])))))) (Int.toNat (x0 / (2:Int)^min (Int.toNat (8:Int)) (IntKind.bits IntKind.u16))) (0:UInt8))):Int)+(↑(UInt8.toNat (List.getD (Array.toList (ByteArray.data (ByteArray.mk (List.toArray (List.append (List.append [(0:UInt8),(1:UInt8),(1:UInt8),(2:UInt8),(1:UInt8),(2:UInt8),(2:UInt8),(3:UInt8),(1:UInt8),(2:UInt8),(2:UInt8),(3:UInt8),(2:UInt8),(3:UInt8),(3:UInt8),(4:UInt8),(1:UInt8),(2:UInt8),(2:UInt8),(3:UInt8),(2:UInt8),(3:UInt8),(3:UInt8),(4:UInt8),(2:UInt8),(3:UInt8),(3:UInt8),(4:UInt8),(3:UInt8),(4:UInt8),(4:UInt8),(5:UInt8),(1:UInt8),(2:UInt8),(2:UInt8),(3:UInt8),(2:UInt8),(3:UInt8),(3:UInt8),(4:UInt8),(2:UInt8),(3:UInt8),(3:UInt8),(4:UInt8),(3:UInt8),(4:UInt8),(4:UInt8),(5:UInt8),(2:UInt8),(3:UInt8),(3:UInt8),(4:UInt8),(3:UInt8),(4:UInt8),(4:UInt8),(5:UInt8),(3:UInt8),(4:UInt8),(4:UInt8),(5:UInt8),(4:UInt8),(5:UInt8),(5:UInt8),(6:UInt8)] [(1:UInt8),(2:UInt8),(2:UInt8),(3:UInt8),(2:UInt8),(3:UInt8),(3:UInt8),(4:UInt8),(2:UInt8),(3:UInt8),(3:UInt8),(4:UInt8),(3:UInt8),(4:UInt8),(4:UInt8),(5:UInt8),(2:UInt8),(3:UInt8),(3:UInt8),(4:UInt8),(3:UInt8),(4:UInt8),(4:UInt8),(5:UInt8),(3:UInt8),(4:UInt8),(4:UInt8),(5:UInt8),(4:UInt8),(5:UInt8),(5:UInt8),(6:UInt8),(2:UInt8),(3:UInt8),(3:UInt8),(4:UInt8),(3:UInt8),(4:UInt8),(4:UInt8),(5:UInt8),(3:UInt8),(4:UInt8),(4:UInt8),(5:UInt8),(4:UInt8),(5:UInt8),(5:UInt8),(6:UInt8),(3:UInt8),(4:UInt8),(4:UInt8),(5:UInt8),(4:UInt8),(5:UInt8),(5:UInt8),(6:UInt8),(4:UInt8),(5:UInt8),(5:UInt8),(6:UInt8),(5:UInt8),(6:UInt8),(6:UInt8),(7:UInt8)]) (List.append [(1:UInt8),(2:UInt8),(2:UInt8),(3:UInt8),(2:UInt8),(3:UInt8),(3:UInt8),(4:UInt8),(2:UInt8),(3:UInt8),(3:UInt8),(4:UInt8),(3:UInt8),(4:UInt8),(4:UInt8),(5:UInt8),(2:UInt8),(3:UInt8),(3:UInt8),(4:UInt8),(3:UInt8),(4:UInt8),(4:UInt8),(5:UInt8),(3:UInt8),(4:UInt8),(4:UInt8),(5:UInt8),(4:UInt8),(5:UInt8),(5:UInt8),(6:UInt8),(2:UInt8),(3:UInt8),(3:UInt8),(4:UInt8),(3:UInt8),(4:UInt8),(4:UInt8),(5:UInt8),(3:UInt8),(4:UInt8),(4:UInt8),(5:UInt8),(4:UInt8),(5:UInt8),(5:UInt8),(6:UInt8),(3:UInt8),(4:UInt8),(4:UInt8),(5:UInt8),(4:UInt8),(5:UInt8),(5:UInt8),(6:UInt8),(4:UInt8),(5:UInt8),(5:UInt8),(6:UInt8),(5:UInt8),(6:UInt8),(6:UInt8),(7:UInt8)] [(2:UInt8),(3:UInt8),(3:UInt8),(4:UInt8),(3:UInt8),(4:UInt8),(4:UInt8),(5:UInt8),(3:UInt8),(4:UInt8),(4:UInt8),(5:UInt8),(4:UInt8),(5:UInt8),(5:UInt8),(6:UInt8),(3:UInt8),(4:UInt8),(4:UInt8),(5:UInt8),(4:UInt8),(5:UInt8),(5:UInt8),(6:UInt8),(4:UInt8),(5:UInt8),(5:UInt8),(6:UInt8),(5:UInt8),(6:UInt8),(6:UInt8),(7:UInt8),(3:UInt8),(4:UInt8),(4:UInt8),(5:UInt8),(4:UInt8),(5:UInt8),(5:UInt8),(6:UInt8),(4:UInt8),(5:UInt8),(5:UInt8),(6:UInt8),(5:UInt8),(6:UInt8),(6:UInt8),(7:UInt8),(4:UInt8),(5:UInt8),(5:UInt8),(6:UInt8),(5:UInt8),(6:UInt8),(6:UInt8),(7:UInt8),(5:UInt8),(6:UInt8),(6:UInt8),(7:UInt8),(6:UInt8),(7:UInt8),(7:UInt8),(8:UInt8)])))))) (Int.toNat (Q7 IntKind.u16 x0 (255:Int))) (0:UInt8))):Int))),()))))):=by kernel_rfl
theorem b8A:cpc.Valid Try.prog 308:=by
  refine p7.o8 b84 rfl rfl Try.func308 (c:=b8 Try.prog 308) rfl rfl b8X rfl ?_
  rintro ⟨(x0:Int),⟨⟩⟩ - ⟨h0,-⟩
  refine j8 (n:=1000) b84 b8X ?_
  refine g9 (c36 x0) ?_
  have h0:N3 x0:=a5J.1 h0
  exact ⟨by decide,fun _=>⟨pcL _ (by decide +kernel) h0,fun _=>⟨pcM _ (by decide +kernel) h0,fun _=>pcR _ (by decide +kernel) h0⟩⟩⟩
def b6a:p7:={ ps:=[.v D3,.v D3],rs:=[y8],pre:=fun _=>True,fn:=fun x=>(G5 x.1 x.2.1,()),out:=fun _=>() }
noncomputable def b64:Env:={ P:=Try.prog,tt:=tt,A3:=[(308,cpc),(132,b6y),(309,b6x),(131,b91)],res:=[Go.ResultVar.tmp 4],rs:=[Ty.int IntKind.i64],ps:=[PK.v (Ty.int IntKind.u16),PK.v (Ty.int IntKind.u16)],x7:=[],nt:=15 }
theorem b2V:u5 b64:=w7 p9 ⟨b8A,b38,b37,b6b,trivial⟩
theorem b2u:y9 b64 Try.f265:=⟨rfl,rfl⟩
theorem c2e (x0:Int) (x1:Int):exec b64 1000 [.code (b8 Try.prog 265)] (s6 b6a.ps ((x0,x1,()))) =
  .d8 (True) (.d8 (True) (.d8 (True) (.d8 (True) (.d8 (True) (.ret ((orF (List.set (List.set [(0:Int),(0:Int)] (Int.toNat (↑0:Int)) (Z8 (pc x0) (pc x1))) (Int.toNat (↑1:Int)) (Z8 x0 x1)),()))))))):=by kernel_rfl
theorem a6h:b6a.Valid Try.prog 265:=by
  refine p7.o8 b2V rfl rfl Try.func265 (c:=b8 Try.prog 265) rfl rfl b2u rfl ?_
  rintro ⟨(a:Int),(b:Int),⟨⟩⟩ - -
  refine j8 (n:=1000) b2V b2u ?_
  refine g9 (c2e a b) ?_
  refine ⟨trivial,fun _=>⟨trivial,fun _=>⟨trivial,fun _=>⟨trivial,fun _=>⟨trivial,fun _=>?_⟩⟩⟩⟩⟩
  show ((orF [Z8 (pc a) (pc b),Z8 a b],()):Int×Unit)=(G5 a b,())
  rw [orF,orF,orF,G5]
  congr 1
  by_cases h1:Z8 (pc a) (pc b)≠0
  · rw [if_pos h1,if_pos h1]
  · rw [if_neg h1,if_neg h1]
    by_cases h2:Z8 a b≠0
    · rw [if_pos h2]
    · rw [if_neg h2]; exact (Decidable.not_not.1 h2).symm
def a8z:p7:={ ps:=[.v D3,.v D3],rs:=[.bool],pre:=fun _=>True,fn:=fun x=>(E9 x.1 x.2.1,()),out:=fun _=>() }
noncomputable def a8V:Env:={ P:=Try.prog,tt:=tt,A3:=[],res:=[Go.ResultVar.tmp 4],rs:=[Ty.bool],ps:=[PK.v (Ty.int IntKind.u16),PK.v (Ty.int IntKind.u16)],x7:=[],nt:=9 }
theorem a7Y:u5 a8V:=w7 p9 trivial
theorem a7U:y9 a8V Try.f311:=⟨rfl,rfl⟩
theorem b8Y (x0:Int) (x1:Int):exec a8V 1000 [.code (b8 Try.prog 311)] (s6 a8z.ps ((x0,x1,()))) =
  .ret ((decide (a1i IntKind.u16 x0 x1=(0:Int)),())):=by kernel_rfl
theorem b0f:a8z.Valid Try.prog 311:=by
  refine p7.o8 a7Y rfl rfl Try.func311 (c:=b8 Try.prog 311) rfl rfl a7U rfl ?_
  rintro ⟨(a:Int),(b:Int),⟨⟩⟩ - -
  refine j8 (n:=1000) a7Y a7U ?_
  refine g9 (b8Y a b) ?_
  rfl
def b6w:p7:={ ps:=[.v D3,.rd D3],rs:=[.bool],pre:=fun _=>True,fn:=fun x=>(E9 x.1 x.2.1,()),out:=fun _=>() }
noncomputable def b7l:Env:={ P:=Try.prog,tt:=tt,A3:=[(311,a8z)],res:=[Go.ResultVar.tmp 3],rs:=[Ty.bool],ps:=[PK.v (Ty.int IntKind.u16),PK.rd (Ty.int IntKind.u16)],x7:=[],nt:=7 }
theorem b3g:u5 b7l:=w7 p9 ⟨b0f,trivial⟩
theorem b2F:y9 b7l Try.f310:=⟨rfl,rfl⟩
theorem c2A (x0:Int) (x1:Int):exec b7l 1000 [.code (b8 Try.prog 310)] (s6 b6w.ps ((x0,x1,()))) =
  .d8 (True) (.ret ((E9 x0 x1,()))):=by kernel_rfl
theorem b36:b6w.Valid Try.prog 310:=by
  refine p7.o8 b3g rfl rfl Try.func310 (c:=b8 Try.prog 310) rfl rfl b2F rfl ?_
  rintro ⟨(t:Int),(s:Int),⟨⟩⟩ - -
  refine j8 (n:=1000) b3g b2F ?_
  refine g9 (c2A t s) ?_
  exact ⟨trivial,fun _=>rfl⟩
def b6k:p7:={ ps:=[.v (.b7 false D3),.s8 310 [D3]],rs:=[y8],pre:=fun x=>True,fn:=fun x=>(idxOf ((fun t=>E9 t x.2.1.1)) x.1,()),out:=fun _=>() }
noncomputable def b0D:Env:={ P:=Try.prog,tt:=tt,A3:=[(310,b6w)],res:=[Go.ResultVar.tmp 4],rs:=[Ty.int IntKind.i64],ps:=[PK.v (Ty.b7 false (Ty.int IntKind.u16)),PK.s8 310 [Ty.int IntKind.u16]],x7:=[(2,[(0,none),(1,none),(7,none),(8,none)])],nt:=19 }
theorem a6X:u5 b0D:=w7 p9 ⟨b36,trivial⟩
theorem a6R:y9 b0D Try.f313:=⟨rfl,rfl⟩
theorem c2n (x0:List Int) (x1c0:Int):exec b0D 1000 [.code (b8 Try.prog 313)] (s6 b6k.ps ((x0,(x1c0,()),()))) =
  .cut (e8 (b8 Try.prog 313) 2).1 (e8 (b8 Try.prog 313) 2).2 (St.mk [(0,AV.val (Ty.b7 false (Ty.int IntKind.u16)) x0),(1,AV.s8 310 (AV.cons (AV.C5 (Ty.int IntKind.u16) x1c0) AV.nil)),(7,AV.val (Ty.int IntKind.i64) (↑(List.length x0):Int)),(8,AV.val (Ty.int IntKind.i64) (0:Int))] []):=by kernel_rfl
def b24 (v0:List Int) (v1a:Int) (v7:Int) (v8:Int):St:=St.mk [(0,AV.val (Ty.b7 false (Ty.int IntKind.u16)) v0),(1,AV.s8 310 (AV.cons (AV.C5 (Ty.int IntKind.u16) v1a) AV.nil)),(7,AV.val (Ty.int IntKind.i64) v7),(8,AV.val (Ty.int IntKind.i64) v8)] []
theorem c0z (v0:List Int) (v1a:Int) (v7:Int) (v8:Int):exec b0D 1000 (.code (e8 (b8 Try.prog 313) 2).1::.inLoop (e8 (b8 Try.prog 313) 2).1::(e8 (b8 Try.prog 313) 2).2) (b24 v0 v1a v7 v8) =
  cond (decide (v8<v7)) (.d8 ((0:Int)≤v8∧v8<(↑(List.length v0):Int)) (.d8 (True) (cond (E9 (List.getD v0 (Int.toNat v8) (0:Int)) v1a) (.ret ((v8,()))) (.d8 (u7 IntKind.i64 (v8+(1:Int))) (.cut (e8 (b8 Try.prog 313) 2).1 (e8 (b8 Try.prog 313) 2).2 (St.mk [(0,AV.val (Ty.b7 false (Ty.int IntKind.u16)) v0),(1,AV.s8 310 (AV.cons (AV.C5 (Ty.int IntKind.u16) v1a) AV.nil)),(7,AV.val (Ty.int IntKind.i64) v7),(8,AV.val (Ty.int IntKind.i64) (v8+(1:Int)))] [])))))) (.ret (((-1:Int),()))):=by kernel_rfl
theorem b3X:b6k.Valid Try.prog 313:=by
  refine p7.o8 a6X rfl rfl Try.func313 (c:=b8 Try.prog 313) rfl rfl a6R rfl ?_
  rintro ⟨(l:List (Int)),⟨(s:Int),⟨⟩⟩,⟨⟩⟩ - ⟨⟨hl,-⟩,-⟩
  have hl:l.length≤9223372036854775807:=hl
  refine j8 (n:=1000) a6X a6R ?_
  refine g9 (c2n l s) ?_
  refine Reach.K9 a6X a6R (fun i:Nat=>b24 l s (l.length:Int) (i:Int)) (fun i=>i≤l.length∧idxOf ((fun t=>E9 t s)) l=Q5 ((fun t=>E9 t s)) (l.drop i) i)
    (fun i=>l.length - i) 1000 (fun _=>⟨u3 rfl,u3 rfl⟩) ?_ 0 ⟨by omega,rfl⟩
  rintro i ⟨k1,k2⟩ - ih
  refine g9 (c0z ..) ?_
  simp only [o5,Tree.holds,true_and,true_implies,decide_eq_true_eq,decide_eq_false_iff_not,Bool.not_eq_true',Bool.not_eq_false',Int.toNat_natCast,q8,List.length_set,List.length_cons,List.length_nil]
  refine ⟨fun h=>?_,fun h=>?_⟩
  · rw [S9 (show i<l.length by omega) 0,Q5] at k2
    refine ⟨by omega,fun _=>⟨fun c=>?_,fun c=>⟨by omega,fun _=>ih (i+1) ⟨by omega,?_⟩ (by omega)⟩⟩⟩
    · show (((i:Int),()):Int×Unit)=(idxOf ((fun t=>E9 t s)) l,())
      rw [k2,if_pos (show ((fun t=>E9 t s)) (l.getD i 0)=true from c)]
    · rw [k2,if_neg (show ¬ ((fun t=>E9 t s)) (l.getD i 0)=true from fun h9=>Bool.noConfusion (Eq.trans (Eq.symm h9) c))]
  · rw [List.drop_eq_nil_of_le (by omega)] at k2
    show (((-1:Int),()):Int×Unit)=(idxOf ((fun t=>E9 t s)) l,())
    rw [k2]; rfl
def b6u:p7:={ ps:=[.v (.b7 false D3),.s8 310 [D3]],rs:=[.bool],pre:=fun x=>True,fn:=fun x=>(List.any (α:=Int) x.1 ((fun t=>E9 t x.2.1.1)),()),out:=fun _=>() }
noncomputable def b7j:Env:={ P:=Try.prog,tt:=tt,A3:=[(313,b6k)],res:=[Go.ResultVar.tmp 4],rs:=[Ty.bool],ps:=[PK.v (Ty.b7 false (Ty.int IntKind.u16)),PK.s8 310 [Ty.int IntKind.u16]],x7:=[],nt:=9 }
theorem b3e:u5 b7j:=w7 p9 ⟨b3X,trivial⟩
theorem b2D:y9 b7j Try.f268:=⟨rfl,rfl⟩
theorem c2y (x0:List Int) (x1c0:Int):exec b7j 1000 [.code (b8 Try.prog 268)] (s6 b6u.ps ((x0,(x1c0,()),()))) =
  .d8 (True) (.ret ((decide ((0:Int)≤idxOf (fun t=>E9 t x1c0) x0),()))):=by kernel_rfl
theorem b34:b6u.Valid Try.prog 268:=by
  refine p7.o8 b3e rfl rfl Try.func268 (c:=b8 Try.prog 268) rfl rfl b2D rfl ?_
  rintro ⟨(l:List (Int)),⟨(s:Int),⟨⟩⟩,⟨⟩⟩ - -
  refine j8 (n:=1000) b3e b2D ?_
  refine g9 (c2y l s) ?_
  refine ⟨trivial,fun _=>?_⟩
  show ((decide (0≤idxOf ((fun t=>E9 t s)) l),()):Bool×Unit)=(l.any ((fun t=>E9 t s)),())
  rw [a5L]
def a1D:p7:={ ps:=[.v D3,.v (.b7 false D3)],rs:=[.bool],pre:=fun _=>True,fn:=fun x=>(a0P x.2.1 x.1,()),out:=fun _=>() }
noncomputable def a5r:Env:={ P:=Try.prog,tt:=tt,A3:=[(268,b6u)],res:=[Go.ResultVar.tmp 4],rs:=[Ty.bool],ps:=[PK.v (Ty.int IntKind.u16),PK.v (Ty.b7 false (Ty.int IntKind.u16))],x7:=[],nt:=8 }
theorem a5q:u5 a5r:=w7 p9 ⟨b34,trivial⟩
theorem a5n:y9 a5r Try.f266:=⟨rfl,rfl⟩
theorem b4m (x0:Int) (x1:List Int):exec a5r 1000 [.code (b8 Try.prog 266)] (s6 a1D.ps ((x0,x1,()))) =
  .d8 (True) (.ret ((List.any x1 fun t=>E9 t x0,()))):=by kernel_rfl
theorem a0T:a1D.Valid Try.prog 266:=by
  refine p7.o8 a5q rfl rfl Try.func266 (c:=b8 Try.prog 266) rfl rfl a5n rfl ?_
  rintro ⟨(s:Int),(l:List Int),⟨⟩⟩ - -
  refine j8 (n:=1000) a5q a5n ?_
  refine g9 (b4m s l) ?_
  exact ⟨trivial,fun _=>rfl⟩
def b1Q:p7:={ ps:=[.v y8,.v y8,.v y8],rs:=[.bool],pre:=fun _=>True,fn:=fun x=>(R7 x.1 x.2.1 x.2.2.1,()),out:=fun _=>() }
noncomputable def c0w:Env:={ P:=Try.prog,tt:=tt,A3:=[],res:=[Go.ResultVar.tmp 6],rs:=[Ty.bool],ps:=[PK.v (Ty.int IntKind.i64),PK.v (Ty.int IntKind.i64),PK.v (Ty.int IntKind.i64)],x7:=[],nt:=15 }
theorem b5k:u5 c0w:=w7 p9 trivial
theorem b5d:y9 c0w Try.f203:=⟨rfl,rfl⟩
theorem c3I (x0:Int) (x1:Int) (x2:Int):exec c0w 1000 [.code (b8 Try.prog 203)] (s6 b1Q.ps ((x0,x1,x2,()))) =
  cond (decide (x1≤x0)) (.ret ((decide (x0≤x2),()))) (.ret ((false,()))):=by kernel_rfl
theorem a38:b1Q.Valid Try.prog 203:=by
  refine p7.o8 b5k rfl rfl Try.func203 (c:=b8 Try.prog 203) rfl rfl b5d rfl ?_
  rintro ⟨(a:Int),(b:Int),(c:Int),⟨⟩⟩ - -
  refine j8 (n:=1000) b5k b5d ?_
  refine g9 (c3I a b c) ?_
  simp only [o5,Tree.holds,true_and,true_implies,decide_eq_true_eq,decide_eq_false_iff_not,Bool.not_eq_true',Bool.not_eq_false',Int.toNat_natCast,q8,List.length_set,List.length_cons,List.length_nil]
  repeat' first|exact trivial|(refine And.intro ?_ ?_)|(intro _)
  all_goals (show ((_,()):Bool×Unit)=(R7 a b c,()); simp [R7, *])
def a8D:p7:={ ps:=[.v y8,.v (.b7 false D3)],rs:=[y8],pre:=fun _=>True,fn:=fun x=>(K7 x.1 x.2.1,()),out:=fun _=>() }
noncomputable def a5W:Env:={ P:=Try.prog,tt:=tt,A3:=[(203,b1Q),(265,b6a),(266,a1D)],res:=[Go.ResultVar.tmp 4],rs:=[Ty.int IntKind.i64],ps:=[PK.v (Ty.int IntKind.i64),PK.v (Ty.b7 false (Ty.int IntKind.u16))],x7:=[(6,[(0,none),(1,none),(15,none),(16,none),(17,none)])],nt:=48 }
theorem a4o:u5 a5W:=w7 p9 ⟨a38,a6h,a0T,trivial⟩
theorem a4k:y9 a5W Try.f199:=⟨rfl,rfl⟩
theorem b83 (x0:Int) (x1:List Int):exec a5W 1000 [.code (b8 Try.prog 199)] (s6 a8D.ps ((x0,x1,()))) =
  .d8 (True) (cond (!R7 x0 (1:Int) (10:Int)) (.ret (((1:Int),()))) (cond (decide ((300:Int)<(↑(List.length x1):Int))) (.ret (((2:Int),()))) (.cut (e8 (b8 Try.prog 199) 6).1 (e8 (b8 Try.prog 199) 6).2 (St.mk [(0,AV.val (Ty.int IntKind.i64) x0),(1,AV.val (Ty.b7 false (Ty.int IntKind.u16)) x1),(15,AV.val (Ty.b7 false (Ty.int IntKind.u16)) x1),(16,AV.val (Ty.int IntKind.i64) (↑(List.length x1):Int)),(17,AV.val (Ty.int IntKind.i64) (0:Int))] [])))):=by kernel_rfl
def a74 (v0:Int) (v1:List Int) (v15:List Int) (v16:Int) (v17:Int):St:=St.mk [(0,AV.val (Ty.int IntKind.i64) v0),(1,AV.val (Ty.b7 false (Ty.int IntKind.u16)) v1),(15,AV.val (Ty.b7 false (Ty.int IntKind.u16)) v15),(16,AV.val (Ty.int IntKind.i64) v16),(17,AV.val (Ty.int IntKind.i64) v17)] []
theorem b65 (v0:Int) (v1:List Int) (v15:List Int) (v16:Int) (v17:Int):exec a5W 1000 (.code (e8 (b8 Try.prog 199) 6).1::.inLoop (e8 (b8 Try.prog 199) 6).1::(e8 (b8 Try.prog 199) 6).2) (a74 v0 v1 v15 v16 v17) =
  cond (decide (v17<v16)) (.d8 ((0:Int)≤v17∧v17<(↑(List.length v15):Int)) (.d8 ((0:Int)≤v0) (cond (decide (List.getD v15 (Int.toNat v17) (0:Int) / (2:Int)^min (Int.toNat v0) (IntKind.bits IntKind.u16)≠(0:Int))) (.ret (((1:Int),()))) (cond (decide ((0:Int)<v17)) (.d8 (u7 IntKind.i64 (v17 - (1:Int))) (.d8 ((0:Int)≤v17 - (1:Int)∧v17 - (1:Int)<(↑(List.length v1):Int)) (.d8 (True) (cond (decide ((0:Int)≤G5 (List.getD v1 (Int.toNat (v17 - (1:Int))) (0:Int)) (List.getD v15 (Int.toNat v17) (0:Int)))) (.ret (((4:Int),()))) (.d8 ((0:Int)≤(0:Int)∧(0:Int)≤v17∧v17≤(↑(List.length v1):Int)) (.d8 (True) (cond (a0P (y6 (0:Int) v17 v1) (List.getD v15 (Int.toNat v17) (0:Int))) (.ret (((4:Int),()))) (.d8 (u7 IntKind.i64 (v17+(1:Int))) (.cut (e8 (b8 Try.prog 199) 6).1 (e8 (b8 Try.prog 199) 6).2 (St.mk [(0,AV.val (Ty.int IntKind.i64) v0),(1,AV.val (Ty.b7 false (Ty.int IntKind.u16)) v1),(15,AV.val (Ty.b7 false (Ty.int IntKind.u16)) v15),(16,AV.val (Ty.int IntKind.i64) v16),(17,AV.val (Ty.int IntKind.i64) (v17+(1:Int)))] [])))))))))) (.d8 ((0:Int)≤(0:Int)∧(0:Int)≤v17∧v17≤(↑(List.length v1):Int)) (.d8 (True) (cond (a0P (y6 (0:Int) v17 v1) (List.getD v15 (Int.toNat v17) (0:Int))) (.ret (((4:Int),()))) (.d8 (u7 IntKind.i64 (v17+(1:Int))) (.cut (e8 (b8 Try.prog 199) 6).1 (e8 (b8 Try.prog 199) 6).2 (St.mk [(0,AV.val (Ty.int IntKind.i64) v0),(1,AV.val (Ty.b7 false (Ty.int IntKind.u16)) v1),(15,AV.val (Ty.b7 false (Ty.int IntKind.u16)) v15),(16,AV.val (Ty.int IntKind.i64) v16),(17,AV.val (Ty.int IntKind.i64) (v17+(1:Int)))] [])))))))))) (.ret (((0:Int),()))):=by kernel_rfl
theorem b0k:a8D.Valid Try.prog 199:=by
  refine p7.o8 a4o rfl rfl Try.func199 (c:=b8 Try.prog 199) rfl rfl a4k rfl ?_
  rintro ⟨(n:Int),(l:List Int),⟨⟩⟩ - ⟨-,⟨hl,-⟩,-⟩
  have hl:l.length≤9223372036854775807:=hl
  refine j8 (n:=1000) a4o a4k ?_
  refine g9 (b83 n l) ?_
  simp only [o5,Tree.holds,true_and,true_implies,decide_eq_true_eq,decide_eq_false_iff_not,Bool.not_eq_true',Bool.not_eq_false',Int.toNat_natCast,q8,List.length_set,List.length_cons,List.length_nil]
  refine ⟨fun c=>?_,fun c1=>⟨fun c=>?_,fun c2=>?_⟩⟩
  · rw [a5K] at c
    show ((1,()):Int×Unit)=(K7 n l,()); rw [K7,if_pos c]
  · rw [Z3] at c1
    show ((2,()):Int×Unit)=(K7 n l,()); rw [K7,if_neg (by omega),if_pos (by omega)]
  rw [Z3] at c1
  obtain ⟨m,rfl⟩:∃ m:Nat,n=m:=⟨n.toNat,by omega⟩
  have hm:1≤m∧m≤10:=by omega
  have hq:K7 (m:Int) l=qgo m l l.length 0:=by rw [K7,if_neg (by omega),if_neg (by omega),Int.toNat_natCast]
  have emin:min m (IntKind.bits .u16)=m:=by show min m 16=m; omega
  refine Reach.K9 a4o a4k (fun i:Nat=>a74 (m:Int) l l (l.length:Int) (i:Int)) (fun i=>i≤l.length∧qgo m l l.length 0=qgo m l (l.length - i) i) (fun i=>l.length - i) 1000 (fun _=>⟨u3 rfl,u3 rfl⟩) ?_ 0 ⟨Nat.zero_le _,rfl⟩
  rintro i ⟨k1,k2⟩ - ih
  refine g9 (b65 ..) ?_
  simp only [o5,Tree.holds,true_and,true_implies,decide_eq_true_eq,decide_eq_false_iff_not,Bool.not_eq_true',Bool.not_eq_false',Int.toNat_natCast,q8,List.length_set,List.length_cons,List.length_nil]
  refine ⟨fun c=>⟨by omega,fun _=>⟨by omega,fun _=>?_⟩⟩,fun c=>?_⟩
  · have hi:i<l.length:=by omega
    obtain ⟨k,hk⟩:∃ k,l.length - i=k+1:=⟨l.length - i - 1,by omega⟩
    have hk2:l.length - (i+1)=k:=by omega
    rw [hk,qgo] at k2
    rw [emin]
    have ecut:y6 0 (i:Int) l=l.take i:=by simp [y6]
    have bad:∀ {v:Int},v≠0→a2h m l i=v→((v,()):Int×Unit)=(K7 (m:Int) l,()):=by
      intro v hv hb
      rw [hb,if_pos hv] at k2
      rw [hq,k2]
    have a4W:a2h m l i=0→qgo m l l.length 0=qgo m l (l.length - (i+1)) (i+1):=by
      intro hb
      rw [hb,if_neg (by simp)] at k2
      rw [hk2]; exact k2
    refine ⟨fun d=>bad (by omega) ?_,fun d=>⟨fun e=>⟨by omega,fun _=>⟨by omega,fun _=>?_⟩⟩,fun e=>?_⟩⟩
    · have d:l.getD i 0 / 2^m≠0:=d
      rw [a2h,if_pos d]
    · have e1:Int.toNat ((i:Int) - 1)=i - 1:=by omega
      rw [e1]
      refine ⟨fun f=>bad (by omega) ?_,fun f=>⟨by omega,fun _=>?_⟩⟩
      · rw [a2h,if_neg d,if_pos (.inl ⟨by omega,by omega⟩)]
      · rw [ecut]
        refine ⟨fun g=>bad (by omega) ?_,fun g=>⟨by omega,fun _=>ih (i+1) ⟨by omega,a4W ?_⟩ (by omega)⟩⟩
        · rw [a2h,if_neg d,if_pos (.inr g)]
        · exact a2B.2 ⟨Decidable.not_not.1 d,fun _=>by omega,g⟩
    · refine ⟨by omega,fun _=>?_⟩
      rw [ecut]
      refine ⟨fun g=>bad (by omega) ?_,fun g=>⟨by omega,fun _=>ih (i+1) ⟨by omega,a4W ?_⟩ (by omega)⟩⟩
      · rw [a2h,if_neg d,if_pos (.inr g)]
      · exact a2B.2 ⟨Decidable.not_not.1 d,fun h=>by omega,g⟩
  · show ((0,()):Int×Unit)=(K7 (m:Int) l,())
    rw [show l.length - i=0 by omega] at k2
    rw [hq,k2]; rfl
end Go.Proofs.Ytekbamiaenbhjaa
