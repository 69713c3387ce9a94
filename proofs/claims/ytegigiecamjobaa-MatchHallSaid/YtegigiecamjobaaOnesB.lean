/- math/bits.OnesCount64. No condition. -/
import Derived.Test.YtegigiecamjobaaOnes
namespace Go.Proofs.Ytegigiecamjobaa
open Go.Ex
set_option maxRecDepth 100000
def pop64 (x:Int):Int:=(((List.range 64).filter (fun i=>x.toNat.testBit i)).length:Int)
def cpop64:Ctr:={ ps:=[.v U64],rs:=[I64],pre:=fun _=>True,fn:=fun x=>(pop64 x.1,()),out:=fun _=>() }
noncomputable def Epop64:Env:={ P:=Try.prog,tt:=tt,ctr:=[],res:=[Go.ResultVar.tmp 2],rs:=[Ty.int IntKind.i64],ps:=[PK.v (Ty.int IntKind.u64)],cuts:=[],nt:=35 }
theorem Epop64_ok:EnvOk Epop64:=envOk tt_ok trivial
theorem Fpop64_ok:FnOk Epop64 Try.f88:=⟨rfl,rfl⟩
theorem Epop64_t (x0:Int):exec Epop64 1000 [.code (bodyOf Try.prog 88)] (initSt cpop64.ps ((x0,()))) =
  .need ((0:Int)≤(1:Int)) (.need ((0:Int)≤(2:Int)) (.need ((0:Int)≤(4:Int)) (.need ((0:Int)≤(8:Int)) (.need ((0:Int)≤(16:Int)) (.need ((0:Int)≤(32:Int)) (.ret ((bAnd IntKind.i64 (IntKind.wrap IntKind.i64 (IntKind.wrap IntKind.u64 (IntKind.wrap IntKind.u64 (IntKind.wrap IntKind.u64 (bAnd IntKind.u64 (IntKind.wrap IntKind.u64 (IntKind.wrap IntKind.u64 (bAnd IntKind.u64 (IntKind.wrap IntKind.u64 (bAnd IntKind.u64 (x0 / (2:Int)^min (Int.toNat (1:Int)) (IntKind.bits IntKind.u64)) (6148914691236517205:Int)+bAnd IntKind.u64 x0 (6148914691236517205:Int)) / (2:Int)^min (Int.toNat (2:Int)) (IntKind.bits IntKind.u64)) (3689348814741910323:Int)+bAnd IntKind.u64 (IntKind.wrap IntKind.u64 (bAnd IntKind.u64 (x0 / (2:Int)^min (Int.toNat (1:Int)) (IntKind.bits IntKind.u64)) (6148914691236517205:Int)+bAnd IntKind.u64 x0 (6148914691236517205:Int))) (3689348814741910323:Int)) / (2:Int)^min (Int.toNat (4:Int)) (IntKind.bits IntKind.u64)+IntKind.wrap IntKind.u64 (bAnd IntKind.u64 (IntKind.wrap IntKind.u64 (bAnd IntKind.u64 (x0 / (2:Int)^min (Int.toNat (1:Int)) (IntKind.bits IntKind.u64)) (6148914691236517205:Int)+bAnd IntKind.u64 x0 (6148914691236517205:Int)) / (2:Int)^min (Int.toNat (2:Int)) (IntKind.bits IntKind.u64)) (3689348814741910323:Int)+bAnd IntKind.u64 (IntKind.wrap IntKind.u64 (bAnd IntKind.u64 (x0 / (2:Int)^min (Int.toNat (1:Int)) (IntKind.bits IntKind.u64)) (6148914691236517205:Int)+bAnd IntKind.u64 x0 (6148914691236517205:Int))) (3689348814741910323:Int)))) (1085102592571150095:Int)+bAnd IntKind.u64 (IntKind.wrap IntKind.u64 (IntKind.wrap IntKind.u64 (bAnd IntKind.u64 (IntKind.wrap IntKind.u64 (bAnd IntKind.u64 (x0 / (2:Int)^min (Int.toNat (1:Int)) (IntKind.bits IntKind.u64)) (6148914691236517205:Int)+bAnd IntKind.u64 x0 (6148914691236517205:Int)) / (2:Int)^min (Int.toNat (2:Int)) (IntKind.bits IntKind.u64)) (3689348814741910323:Int)+bAnd IntKind.u64 (IntKind.wrap IntKind.u64 (bAnd IntKind.u64 (x0 / (2:Int)^min (Int.toNat (1:Int)) (IntKind.bits IntKind.u64)) (6148914691236517205:Int)+bAnd IntKind.u64 x0 (6148914691236517205:Int))) (3689348814741910323:Int)) / (2:Int)^min (Int.toNat (4:Int)) (IntKind.bits IntKind.u64)+IntKind.wrap IntKind.u64 (bAnd IntKind.u64 (IntKind.wrap IntKind.u64 (bAnd IntKind.u64 (x0 / (2:Int)^min (Int.toNat (1:Int)) (IntKind.bits IntKind.u64)) (6148914691236517205:Int)+bAnd IntKind.u64 x0 (6148914691236517205:Int)) / (2:Int)^min (Int.toNat (2:Int)) (IntKind.bits IntKind.u64)) (3689348814741910323:Int)+bAnd IntKind.u64 (IntKind.wrap IntKind.u64 (bAnd IntKind.u64 (x0 / (2:Int)^min (Int.toNat (1:Int)) (IntKind.bits IntKind.u64)) (6148914691236517205:Int)+bAnd IntKind.u64 x0 (6148914691236517205:Int))) (3689348814741910323:Int)))) (1085102592571150095:Int) / (2:Int)^min (Int.toNat (8:Int)) (IntKind.bits IntKind.u64))+IntKind.wrap IntKind.u64 (bAnd IntKind.u64 (IntKind.wrap IntKind.u64 (IntKind.wrap IntKind.u64 (bAnd IntKind.u64 (IntKind.wrap IntKind.u64 (bAnd IntKind.u64 (x0 / (2:Int)^min (Int.toNat (1:Int)) (IntKind.bits IntKind.u64)) (6148914691236517205:Int)+bAnd IntKind.u64 x0 (6148914691236517205:Int)) / (2:Int)^min (Int.toNat (2:Int)) (IntKind.bits IntKind.u64)) (3689348814741910323:Int)+bAnd IntKind.u64 (IntKind.wrap IntKind.u64 (bAnd IntKind.u64 (x0 / (2:Int)^min (Int.toNat (1:Int)) (IntKind.bits IntKind.u64)) (6148914691236517205:Int)+bAnd IntKind.u64 x0 (6148914691236517205:Int))) (3689348814741910323:Int)) / (2:Int)^min (Int.toNat (4:Int)) (IntKind.bits IntKind.u64)+IntKind.wrap IntKind.u64 (bAnd IntKind.u64 (IntKind.wrap IntKind.u64 (bAnd IntKind.u64 (x0 / (2:Int)^min (Int.toNat (1:Int)) (IntKind.bits IntKind.u64)) (6148914691236517205:Int)+bAnd IntKind.u64 x0 (6148914691236517205:Int)) / (2:Int)^min (Int.toNat (2:Int)) (IntKind.bits IntKind.u64)) (3689348814741910323:Int)+bAnd IntKind.u64 (IntKind.wrap IntKind.u64 (bAnd IntKind.u64 (x0 / (2:Int)^min (Int.toNat (1:Int)) (IntKind.bits IntKind.u64)) (6148914691236517205:Int)+bAnd IntKind.u64 x0 (6148914691236517205:Int))) (3689348814741910323:Int)))) (1085102592571150095:Int)+bAnd IntKind.u64 (IntKind.wrap IntKind.u64 (IntKind.wrap IntKind.u64 (bAnd IntKind.u64 (IntKind.wrap IntKind.u64 (bAnd IntKind.u64 (x0 / (2:Int)^min (Int.toNat (1:Int)) (IntKind.bits IntKind.u64)) (6148914691236517205:Int)+bAnd IntKind.u64 x0 (6148914691236517205:Int)) / (2:Int)^min (Int.toNat (2:Int)) (IntKind.bits IntKind.u64)) (3689348814741910323:Int)+bAnd IntKind.u64 (IntKind.wrap IntKind.u64 (bAnd IntKind.u64 (x0 / (2:Int)^min (Int.toNat (1:Int)) (IntKind.bits IntKind.u64)) (6148914691236517205:Int)+bAnd IntKind.u64 x0 (6148914691236517205:Int))) (3689348814741910323:Int)) / (2:Int)^min (Int.toNat (4:Int)) (IntKind.bits IntKind.u64)+IntKind.wrap IntKind.u64 (bAnd IntKind.u64 (IntKind.wrap IntKind.u64 (bAnd IntKind.u64 (x0 / (2:Int)^min (Int.toNat (1:Int)) (IntKind.bits IntKind.u64)) (6148914691236517205:Int)+bAnd IntKind.u64 x0 (6148914691236517205:Int)) / (2:Int)^min (Int.toNat (2:Int)) (IntKind.bits IntKind.u64)) (3689348814741910323:Int)+bAnd IntKind.u64 (IntKind.wrap IntKind.u64 (bAnd IntKind.u64 (x0 / (2:Int)^min (Int.toNat (1:Int)) (IntKind.bits IntKind.u64)) (6148914691236517205:Int)+bAnd IntKind.u64 x0 (6148914691236517205:Int))) (3689348814741910323:Int)))) (1085102592571150095:Int) / (2:Int)^min (Int.toNat (8:Int)) (IntKind.bits IntKind.u64)) / (2:Int)^min (Int.toNat (16:Int)) (IntKind.bits IntKind.u64))+IntKind.wrap IntKind.u64 (IntKind.wrap IntKind.u64 (bAnd IntKind.u64 (IntKind.wrap IntKind.u64 (IntKind.wrap IntKind.u64 (bAnd IntKind.u64 (IntKind.wrap IntKind.u64 (bAnd IntKind.u64 (x0 / (2:Int)^min (Int.toNat (1:Int)) (IntKind.bits IntKind.u64)) (6148914691236517205:Int)+bAnd IntKind.u64 x0 (6148914691236517205:Int)) / (2:Int)^min (Int.toNat (2:Int)) (IntKind.bits IntKind.u64)) (3689348814741910323:Int)+bAnd IntKind.u64 (IntKind.wrap IntKind.u64 (bAnd IntKind.u64 (x0 / (2:Int)^min (Int.toNat (1:Int)) (IntKind.bits IntKind.u64)) (6148914691236517205:Int)+bAnd IntKind.u64 x0 (6148914691236517205:Int))) (3689348814741910323:Int)) / (2:Int)^min (Int.toNat (4:Int)) (IntKind.bits IntKind.u64)+IntKind.wrap IntKind.u64 (bAnd IntKind.u64 (IntKind.wrap IntKind.u64 (bAnd IntKind.u64 (x0 / (2:Int)^min (Int.toNat (1:Int)) (IntKind.bits IntKind.u64)) (6148914691236517205:Int)+bAnd IntKind.u64 x0 (6148914691236517205:Int)) / (2:Int)^min (Int.toNat (2:Int)) (IntKind.bits IntKind.u64)) (3689348814741910323:Int)+bAnd IntKind.u64 (IntKind.wrap IntKind.u64 (bAnd IntKind.u64 (x0 / (2:Int)^min (Int.toNat (1:Int)) (IntKind.bits IntKind.u64)) (6148914691236517205:Int)+bAnd IntKind.u64 x0 (6148914691236517205:Int))) (3689348814741910323:Int)))) (1085102592571150095:Int)+bAnd IntKind.u64 (IntKind.wrap IntKind.u64 (IntKind.wrap IntKind.u64 (bAnd IntKind.u64 (IntKind.wrap IntKind.u64 (bAnd IntKind.u64 (x0 / (2:Int)^min (Int.toNat (1:Int)) (IntKind.bits IntKind.u64)) (6148914691236517205:Int)+bAnd IntKind.u64 x0 (6148914691236517205:Int)) / (2:Int)^min (Int.toNat (2:Int)) (IntKind.bits IntKind.u64)) (3689348814741910323:Int)+bAnd IntKind.u64 (IntKind.wrap IntKind.u64 (bAnd IntKind.u64 (x0 / (2:Int)^min (Int.toNat (1:Int)) (IntKind.bits IntKind.u64)) (6148914691236517205:Int)+bAnd IntKind.u64 x0 (6148914691236517205:Int))) (3689348814741910323:Int)) / (2:Int)^min (Int.toNat (4:Int)) (IntKind.bits IntKind.u64)+IntKind.wrap IntKind.u64 (bAnd IntKind.u64 (IntKind.wrap IntKind.u64 (bAnd IntKind.u64 (x0 / (2:Int)^min (Int.toNat (1:Int)) (IntKind.bits IntKind.u64)) (6148914691236517205:Int)+bAnd IntKind.u64 x0 (6148914691236517205:Int)) / (2:Int)^min (Int.toNat (2:Int)) (IntKind.bits IntKind.u64)) (3689348814741910323:Int)+bAnd IntKind.u64 (IntKind.wrap IntKind.u64 (bAnd IntKind.u64 (x0 / (2:Int)^min (Int.toNat (1:Int)) (IntKind.bits IntKind.u64)) (6148914691236517205:Int)+bAnd IntKind.u64 x0 (6148914691236517205:Int))) (3689348814741910323:Int)))) (1085102592571150095:Int) / (2:Int)^min (Int.toNat (8:Int)) (IntKind.bits IntKind.u64))+IntKind.wrap IntKind.u64 (bAnd IntKind.u64 (IntKind.wrap IntKind.u64 (IntKind.wrap IntKind.u64 (bAnd IntKind.u64 (IntKind.wrap IntKind.u64 (bAnd IntKind.u64 (x0 / (2:Int)^min (Int.toNat (1:Int)) (IntKind.bits IntKind.u64)) (6148914691236517205:Int)+bAnd IntKind.u64 x0 (6148914691236517205:Int)) / (2:Int)^min (Int.toNat (2:Int)) (IntKind.bits IntKind.u64)) (3689348814741910323:Int)+bAnd IntKind.u64 (IntKind.wrap IntKind.u64 (bAnd IntKind.u64 (x0 / (2:Int)^min (Int.toNat (1:Int)) (IntKind.bits IntKind.u64)) (6148914691236517205:Int)+bAnd IntKind.u64 x0 (6148914691236517205:Int))) (3689348814741910323:Int)) / (2:Int)^min (Int.toNat (4:Int)) (IntKind.bits IntKind.u64)+IntKind.wrap IntKind.u64 (bAnd IntKind.u64 (IntKind.wrap IntKind.u64 (bAnd IntKind.u64 (x0 / (2:Int)^min (Int.toNat (1:Int)) (IntKind.bits IntKind.u64)) (6148914691236517205:Int)+bAnd IntKind.u64 x0 (6148914691236517205:Int)) / (2:Int)^min (Int.toNat (2:Int)) (IntKind.bits IntKind.u64)) (3689348814741910323:Int)+bAnd IntKind.u64 (IntKind.wrap IntKind.u64 (bAnd IntKind.u64 (x0 / (2:Int)^min (Int.toNat (1:Int)) (IntKind.bits IntKind.u64)) (6148914691236517205:Int)+bAnd IntKind.u64 x0 (6148914691236517205:Int))) (3689348814741910323:Int)))) (1085102592571150095:Int)+bAnd IntKind.u64 (IntKind.wrap IntKind.u64 (IntKind.wrap IntKind.u64 (bAnd IntKind.u64 (IntKind.wrap IntKind.u64 (bAnd IntKind.u64 (x0 / (2:Int)^min (Int.toNat (1:Int)) (IntKind.bits IntKind.u64)) (6148914691236517205:Int)+bAnd IntKind.u64 x0 (6148914691236517205:Int)) / (2:Int)^min (Int.toNat (2:Int)) (IntKind.bits IntKind.u64)) (3689348814741910323:Int)+bAnd IntKind.u64 (IntKind.wrap IntKind.u64 (bAnd IntKind.u64 (x0 / (2:Int)^min (Int.toNat (1:Int)) (IntKind.bits IntKind.u64)) (6148914691236517205:Int)+bAnd IntKind.u64 x0 (6148914691236517205:Int))) (3689348814741910323:Int)) / (2:Int)^min (Int.toNat (4:Int)) (IntKind.bits IntKind.u64)+IntKind.wrap IntKind.u64 (bAnd IntKind.u64 (IntKind.wrap IntKind.u64 (bAnd IntKind.u64 (x0 / (2:Int)^min (Int.toNat (1:Int)) (IntKind.bits IntKind.u64)) (6148914691236517205:Int)+bAnd IntKind.u64 x0 (6148914691236517205:Int)) / (2:Int)^min (Int.toNat (2:Int)) (IntKind.bits IntKind.u64)) (3689348814741910323:Int)+bAnd IntKind.u64 (IntKind.wrap IntKind.u64 (bAnd IntKind.u64 (x0 / (2:Int)^min (Int.toNat (1:Int)) (IntKind.bits IntKind.u64)) (6148914691236517205:Int)+bAnd IntKind.u64 x0 (6148914691236517205:Int))) (3689348814741910323:Int)))) (1085102592571150095:Int) / (2:Int)^min (Int.toNat (8:Int)) (IntKind.bits IntKind.u64)) / (2:Int)^min (Int.toNat (16:Int)) (IntKind.bits IntKind.u64)) / (2:Int)^min (Int.toNat (32:Int)) (IntKind.bits IntKind.u64)))) (127:Int),())))))))):=by kernel_rfl
theorem bAnd_u {k:IntKind} {x m:Nat} {n:Int} (hn:n=(m:Int)) (hk:k.bits=64) (hx:x<2^64) (hm:m<2^64) (hw:∀ y:Nat,y≤m→k.wrap (y:Int)=(y:Int)):bAnd k (x:Int) n=((x &&& m:Nat):Int):=by
  subst hn
  unfold bAnd
  rw [BitVec.ofInt_natCast,BitVec.ofInt_natCast,BitVec.toNat_and,BitVec.toNat_ofNat,BitVec.toNat_ofNat,hk,Nat.mod_eq_of_lt hx,Nat.mod_eq_of_lt hm]
  exact hw _ Nat.and_le_right
theorem wrap_u {y:Nat} (h:y<2^64):IntKind.u64.wrap (y:Int)=(y:Int):=wrap_same ⟨by simp [IntKind.min,IntKind.signed],by simp [IntKind.max,IntKind.signed,IntKind.bits]; omega⟩
theorem wrap_i {y:Nat} (h:y<2^63):IntKind.i64.wrap (y:Int)=(y:Int):=wrap_same ⟨by show (-9223372036854775808:Int)≤_; omega,by show _≤(9223372036854775807:Int); omega⟩
set_option maxHeartbeats 1000000 in
theorem cpop64_valid:cpop64.Valid Try.prog 88:=by
  refine Ctr.valid_of Epop64_ok rfl rfl Try.func88 (c:=bodyOf Try.prog 88) rfl rfl Fpop64_ok rfl ?_
  rintro ⟨(x0:Int),⟨⟩⟩ - ⟨h0,-⟩
  refine exec_sound (n:=1000) Epop64_ok Fpop64_ok ?_
  refine holds_of_eq (Epop64_t x0) ?_
  have g0:0≤x0∧x0≤18446744073709551615:=h0
  obtain ⟨x,rfl⟩:=Int.eq_ofNat_of_zero_le g0.1
  have hx:x<2^64:=by omega
  have m0:maskF 1 32=6148914691236517205:=by decide +kernel
  have m1:maskF 2 16=3689348814741910323:=by decide +kernel
  have m2:maskF 4 8=1085102592571150095:=by decide +kernel
  have an:∀ {y:Nat} (m:Nat) (n:Int),n=(m:Int)→y<2^64→m<2^64→bAnd IntKind.u64 (y:Int) n=((y &&& m:Nat):Int):=fun m n hn hy hm=>bAnd_u hn rfl hy hm (fun z hz=>wrap_u (by omega))
  have dv:∀ (y k:Nat),((y:Int) / (2:Int)^k)=((y / 2^k:Nat):Int):=fun y k=>by rw [Int.natCast_ediv]; simp
  -- the three foldings
  have f1:=fold_eq (f:=1) 32 x
  have l1:=fold_lt (f:=1) (by omega) 32 x
  have d1:=fold_digS (f:=1) (by omega) 32 x
  generalize ey:foldF 1 32 x=y at *
  have f2:=fold_eq (f:=2) 16 y
  have l2:=fold_lt (f:=2) (by omega) 16 y
  have d2:=fold_digS (f:=2) (by omega) 16 y
  have c2:=fold_digLe (f:=2) (by omega) 16 y
  generalize ez:foldF 2 16 y=z at *
  have c2:digLe 16 7 (2*8) z:=digLe_mono (by decide) c2
  have f3:=nib_eq 8 z c2
  have l3:=fold_lt (f:=4) (by omega) 8 z
  have d3:=fold_digS (f:=4) (by omega) 8 z
  have c3:=nib_le 8 z c2
  generalize eu:foldF 4 8 z=u at *
  obtain ⟨b1,b2,b3,b4⟩:=bytes_sum l3 c3
  have hp:pop64 (x:Int)=((digS 256 8 u:Nat):Int):=by
    show (((List.range 64).filter (fun i=>((x:Int)).toNat.testBit i)).length:Int)=_
    rw [Int.toNat_natCast,← digS_pop]
    have k3:digS 256 8 u=digS 16 16 z:=d3
    have k2:digS 16 16 z=digS 4 32 y:=d2
    have k1:digS 4 32 y=digS 2 64 x:=d1
    rw [k3,k2,k1]
  rw [m0] at f1
  rw [m1] at f2
  rw [m2] at f3
  refine ⟨by omega,fun _=>⟨by omega,fun _=>⟨by omega,fun _=>⟨by omega,fun _=>⟨by omega,fun _=>⟨by omega,fun _=>?_⟩⟩⟩⟩⟩⟩
  show ((_,()):Int×Unit)=(pop64 (x:Int),())
  rw [hp]
  refine congrArg (fun (i:Int)=>(i,())) ?_
  have k1:min (Int.toNat (1:Int)) (IntKind.bits IntKind.u64)=1:=rfl
  have k2:min (Int.toNat (2:Int)) (IntKind.bits IntKind.u64)=2:=rfl
  have k4:min (Int.toNat (4:Int)) (IntKind.bits IntKind.u64)=4:=rfl
  have k8:min (Int.toNat (8:Int)) (IntKind.bits IntKind.u64)=8:=rfl
  have k16:min (Int.toNat (16:Int)) (IntKind.bits IntKind.u64)=16:=rfl
  have k32:min (Int.toNat (32:Int)) (IntKind.bits IntKind.u64)=32:=rfl
  have hlt:∀ {q:Nat} (k:Nat),q<2^64→q / 2^k<2^64:=fun k hq=>Nat.lt_of_le_of_lt (Nat.div_le_self _ _) hq
  have s1:IntKind.u64.wrap (bAnd IntKind.u64 ((x:Int) / (2:Int)^1) (6148914691236517205:Int)+bAnd IntKind.u64 (x:Int) (6148914691236517205:Int))=(y:Int):=by
    rw [dv,an 6148914691236517205 6148914691236517205 rfl (hlt 1 hx) (by omega),an 6148914691236517205 6148914691236517205 rfl hx (by omega),← Int.natCast_add,f1]
    exact wrap_u l1
  have s2:IntKind.u64.wrap (bAnd IntKind.u64 ((y:Int) / (2:Int)^2) (3689348814741910323:Int)+bAnd IntKind.u64 (y:Int) (3689348814741910323:Int))=(z:Int):=by
    rw [dv,an 3689348814741910323 3689348814741910323 rfl (hlt 2 l1) (by omega),an 3689348814741910323 3689348814741910323 rfl l1 (by omega),← Int.natCast_add,f2]
    exact wrap_u l2
  have hz60:z / 2^4+z<2^64:=by
    have h1:digLe 16 7 16 z:=c2
    have h2:=nib_room 16 z h1 (by omega)
    omega
  have s3:bAnd IntKind.u64 (IntKind.u64.wrap ((z:Int) / (2:Int)^4+(z:Int))) (1085102592571150095:Int)=(u:Int):=by
    rw [dv,← Int.natCast_add,wrap_u hz60,an 1085102592571150095 1085102592571150095 rfl hz60 (by omega)]
    exact congrArg _ f3
  simp only [k1,k2,k4,k8,k16,k32]
  rw [s1,s2,s3]
  have s4:IntKind.u64.wrap ((u:Int)+(u:Int) / (2:Int)^8)=((u+u / 256:Nat):Int):=by
    rw [dv,← Int.natCast_add]; exact wrap_u (Nat.lt_trans b1 (by omega))
  rw [s4]
  generalize u+u / 256=p1 at *
  have s5:IntKind.u64.wrap ((p1:Int)+(p1:Int) / (2:Int)^16)=((p1+p1 / 65536:Nat):Int):=by
    rw [dv,← Int.natCast_add]; exact wrap_u (Nat.lt_trans b2 (by omega))
  rw [s5]
  generalize p1+p1 / 65536=p2 at *
  have s6:IntKind.u64.wrap ((p2:Int)+(p2:Int) / (2:Int)^32)=((p2+p2 / 4294967296:Nat):Int):=by
    rw [dv,← Int.natCast_add]; exact wrap_u (Nat.lt_trans b3 (by omega))
  rw [s6,wrap_i b3]
  rw [bAnd_u (k:=.i64) (m:=127) (n:=127) rfl rfl (Nat.lt_trans b3 (by omega)) (by omega) (fun z hz=>wrap_i (by omega))]
  rw [← b4]
  exact congrArg _ (Nat.and_two_pow_sub_one_eq_mod _ 7)
end Go.Proofs.Ytegigiecamjobaa
