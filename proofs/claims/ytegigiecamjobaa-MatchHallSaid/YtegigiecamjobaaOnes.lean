/- Counting bits by fields (plain). No condition. -/
import Derived.Test.YtegigiecamjobaaBase
namespace Go.Proofs.Ytegigiecamjobaa
open Go.Ex
set_option maxRecDepth 100000
/-! ### fields of bits -/
theorem and_split {k p q r s:Nat} (hr:r<2^k) (hs:s<2^k):(2^k*p+r) &&& (2^k*q+s)=2^k*(p &&& q)+(r &&& s):=by
  have hrs:r &&& s<2^k:=Nat.and_lt_two_pow r hs
  apply Nat.eq_of_testBit_eq
  intro i
  rw [Nat.testBit_and]
  by_cases hi:i<k
  · rw [Nat.testBit_two_pow_mul_add _ hr,Nat.testBit_two_pow_mul_add _ hs,Nat.testBit_two_pow_mul_add _ hrs]
    simp [hi,Nat.testBit_and]
  · rw [Nat.testBit_two_pow_mul_add _ hr,Nat.testBit_two_pow_mul_add _ hs,Nat.testBit_two_pow_mul_add _ hrs]
    simp [hi,Nat.testBit_and]
def maskF (f:Nat):Nat→Nat
  | 0=>0
  | n+1=>2^(2*f)*maskF f n+(2^f - 1)
def foldF (f:Nat):Nat→Nat→Nat
  | 0,_=>0
  | n+1,x=>2^(2*f)*foldF f n (x / 2^(2*f))+(x % 2^(2*f) / 2^f+x % 2^(2*f) % 2^f)
theorem pow2 (f:Nat):2^(2*f)=2^f*2^f:=by rw [Nat.two_mul,Nat.pow_add]
theorem and_low {f x:Nat}:x &&& (2^f - 1)=x % 2^f:=Nat.and_two_pow_sub_one_eq_mod x f
theorem low_lt (f:Nat):2^f - 1<2^(2*f):=by
  have h1:2^f≤2^(2*f):=Nat.pow_le_pow_right (by omega) (by omega)
  have h2:=Nat.two_pow_pos f
  omega
theorem div_div_pow {f x:Nat}:x / 2^f / 2^(2*f)=x / 2^(2*f) / 2^f:=by rw [Nat.div_div_eq_div_mul,Nat.div_div_eq_div_mul,Nat.mul_comm]
theorem mod_div {f x:Nat}:x % 2^(2*f) / 2^f=x / 2^f % 2^f:=by rw [pow2,Nat.mod_mul_right_div_self]
theorem mod_mod_f {f x:Nat}:x % 2^(2*f) % 2^f=x % 2^f:=by rw [pow2]; exact Nat.mod_mul_right_mod x _ _
theorem and_mask {f:Nat} (n x:Nat):x &&& maskF f (n+1)=2^(2*f)*(x / 2^(2*f) &&& maskF f n)+x % 2^f:=by
  conv=>lhs; rw [← Nat.div_add_mod x (2^(2*f))]
  rw [maskF,and_split (Nat.mod_lt _ (Nat.two_pow_pos _)) (low_lt f),and_low,mod_mod_f]
theorem fold_eq {f:Nat}:∀ (n x:Nat),(x / 2^f &&& maskF f n)+(x &&& maskF f n)=foldF f n x
  | 0,x=>by simp [maskF,foldF]
  | n+1,x=>by
    rw [and_mask,and_mask,foldF,← fold_eq n (x / 2^(2*f)),div_div_pow,mod_div,mod_mod_f,Nat.mul_add]
    omega
def digS (b:Nat):Nat→Nat→Nat
  | 0,_=>0
  | n+1,x=>x % b+digS b n (x / b)
def digLe (b c:Nat):Nat→Nat→Prop
  | 0,_=>True
  | n+1,x=>x % b≤c∧digLe b c n (x / b)
theorem fold_dig {f:Nat} (x:Nat) (hf:1≤f):x % 2^(2*f) / 2^f+x % 2^(2*f) % 2^f<2^(2*f):=by
  rw [mod_div,mod_mod_f,pow2]
  have hp:=Nat.two_pow_pos f
  have h1:=Nat.mod_lt (x / 2^f) hp
  have h2:=Nat.mod_lt x hp
  have h3:2≤2^f:=by
    have:=Nat.pow_le_pow_right (n:=2) (by omega) hf
    simpa using this
  have h4:2*2^f≤2^f*2^f:=Nat.mul_le_mul_right _ h3
  omega
theorem fold_mod {f n x:Nat} (hf:1≤f):foldF f (n+1) x % 2^(2*f)=x % 2^(2*f) / 2^f+x % 2^(2*f) % 2^f:=by
  rw [foldF,Nat.mul_add_mod,Nat.mod_eq_of_lt (fold_dig x hf)]
theorem fold_div {f n x:Nat} (hf:1≤f):foldF f (n+1) x / 2^(2*f)=foldF f n (x / 2^(2*f)):=by
  rw [foldF,Nat.mul_add_div (Nat.two_pow_pos _),Nat.div_eq_of_lt (fold_dig x hf),Nat.add_zero]
theorem fold_digS {f:Nat} (hf:1≤f):∀ (n x:Nat),digS (2^(2*f)) n (foldF f n x)=digS (2^f) (2*n) x
  | 0,x=>rfl
  | n+1,x=>by
    rw [digS,fold_mod hf,fold_div hf,fold_digS hf n,show 2*(n+1)=2*n+1+1 by omega,digS,digS,mod_div,mod_mod_f,pow2,Nat.div_div_eq_div_mul]
    omega
theorem fold_digLe {f:Nat} (hf:1≤f):∀ (n x:Nat),digLe (2^(2*f)) (2*(2^f - 1)) n (foldF f n x)
  | 0,x=>trivial
  | n+1,x=>by
    have hp:=Nat.two_pow_pos f
    refine ⟨?_,by rw [fold_div hf]; exact fold_digLe hf n _⟩
    rw [fold_mod hf,mod_div,mod_mod_f]
    have h1:=Nat.mod_lt (x / 2^f) hp
    have h2:=Nat.mod_lt x hp
    omega
theorem fold_lt {f:Nat} (hf:1≤f):∀ (n x:Nat),foldF f n x<2^(2*f*n)
  | 0,x=>by simp [foldF]
  | n+1,x=>by
    have h1:=fold_lt hf n (x / 2^(2*f))
    have h2:=fold_dig x hf
    rw [foldF,Nat.mul_succ,Nat.add_comm,Nat.pow_add,Nat.mul_comm (2^(2*f*n))] 
    have h3:2^(2*f)*(foldF f n (x / 2^(2*f))+1)≤2^(2*f)*2^(2*f*n):=Nat.mul_le_mul_left _ h1
    rw [Nat.mul_add,Nat.mul_one] at h3
    omega
theorem nib_div {x:Nat} (h1:x % 16≤7) (h2:x / 16 % 16≤7) (h4:x / 16 / 16 % 16≤7):(x / 16+x) / 256=x / 256 / 16+x / 256:=by
  have e9:x / 16 / 16=x / 256:=Nat.div_div_eq_div_mul x 16 16
  rw [← e9]
  clear e9
  have q1:=Nat.div_add_mod x 16
  have q2:=Nat.div_add_mod (x / 16) 16
  have q3:=Nat.div_add_mod (x / 16 / 16) 16
  generalize x / 16 / 16 / 16=v at *
  generalize x / 16 / 16 % 16=g at *
  generalize x / 16 / 16=y at *
  generalize x / 16 % 16=k at *
  generalize x / 16=u at *
  generalize x % 16=l at *
  have hh:u+x=256*(y+v)+(16*k+16*g+l+k):=by omega
  rw [hh,Nat.add_comm,Nat.add_mul_div_left _ _ (by omega),Nat.div_eq_of_lt (by omega)]
  omega
theorem nib_eq:∀ (n x:Nat),digLe 16 7 (2*n) x→(x / 16+x) &&& maskF 4 n=foldF 4 n x
  | 0,x,_=>by simp [maskF,foldF]
  | n+1,x,h=>by
    rw [show 2*(n+1)=2*n+1+1 by omega] at h
    obtain ⟨h1,h2,h3⟩:=h
    have h1:x % 16≤7:=h1
    have h2:x / 16 % 16≤7:=h2
    have h4:n=0∨x / 16 / 16 % 16≤7:=by
      cases n with
      | zero=>exact .inl rfl
      | succ m=>rw [show 2*(m+1)=2*m+1+1 by omega] at h3; exact .inr h3.1
    rw [and_mask,foldF]
    have e256:2^(2*4)=256:=rfl
    have e16:2^4=16:=rfl
    rw [e256,e16]
    rcases h4 with rfl|h4
    · have m1:x % 256 / 16=x / 16 % 16:=mod_div (f:=4)
      have m2:x % 256 % 16=x % 16:=mod_mod_f (f:=4)
      simp only [maskF,Nat.and_zero,foldF]
      rw [m1,m2]
      clear m1 m2 h3
      omega
    · have hd:=nib_div h1 h2 h4
      have m1:x % 256 / 16=x / 16 % 16:=mod_div (f:=4)
      have m2:x % 256 % 16=x % 16:=mod_mod_f (f:=4)
      rw [hd,nib_eq n (x / 256) (by rw [Nat.div_div_eq_div_mul] at h3; exact h3),m1,m2]
      congr 1
      clear m1 m2 h3 hd h4
      omega
theorem digS_pop:∀ (n x:Nat),digS 2 n x=((List.range n).filter (fun i=>x.testBit i)).length
  | 0,x=>rfl
  | n+1,x=>by
    rw [digS,digS_pop n (x / 2),List.range_succ_eq_map,List.filter_cons]
    have h1:((List.map Nat.succ (List.range n)).filter (fun i=>x.testBit i)).length=((List.range n).filter (fun i=>(x / 2).testBit i)).length:=by
      rw [List.filter_map,List.length_map]
      congr 1
      refine List.filter_congr (fun i _=>?_)
      show x.testBit (i+1)=_
      rw [Nat.testBit_succ]
    rw [← h1]
    have h2:x.testBit 0=decide (x % 2=1):=Nat.testBit_zero x
    rw [h2]
    by_cases h:x % 2=1
    · simp [h]; omega
    · simp [h]; omega
theorem nib_le:∀ (n x:Nat),digLe 16 7 (2*n) x→digLe 256 14 n (foldF 4 n x)
  | 0,x,_=>trivial
  | n+1,x,h=>by
    rw [show 2*(n+1)=2*n+1+1 by omega] at h
    obtain ⟨h1,h2,h3⟩:=h
    have h1:x % 16≤7:=h1
    have h2:x / 16 % 16≤7:=h2
    have e1:=fold_mod (f:=4) (n:=n) (x:=x) (by omega)
    have e2:=fold_div (f:=4) (n:=n) (x:=x) (by omega)
    have e256:2^(2*4)=256:=rfl
    have e16:2^4=16:=rfl
    rw [e256,e16] at e1
    rw [e256] at e2
    refine ⟨?_,?_⟩
    · rw [e1]; omega
    · rw [e2]; exact nib_le n _ (by rw [Nat.div_div_eq_div_mul] at h3; exact h3)
theorem nib_room:∀ (n x:Nat),digLe 16 7 n x→x<16^n→2*x+1≤16^n
  | 0,x,_,h=>by omega
  | n+1,x,h,hx=>by
    obtain ⟨h1,h2⟩:=h
    have h1:x % 16≤7:=h1
    rw [Nat.pow_succ] at hx ⊢
    have h3:=nib_room n (x / 16) h2 (by omega)
    omega
theorem digLe_mono {b c c':Nat} (hc:c≤c'):∀ {n x:Nat},digLe b c n x→digLe b c' n x
  | 0,_,_=>trivial
  | n+1,_,h=>⟨Nat.le_trans h.1 hc,digLe_mono hc h.2⟩
theorem bytes_sum {x:Nat} (hx:x<2^64) (h:digLe 256 14 8 x):x+x / 256<2^63∧(x+x / 256)+(x+x / 256) / 65536<2^63∧((x+x / 256)+(x+x / 256) / 65536)+((x+x / 256)+(x+x / 256) / 65536) / 4294967296<2^63 ∧
    (((x+x / 256)+(x+x / 256) / 65536)+((x+x / 256)+(x+x / 256) / 65536) / 4294967296) % 128=digS 256 8 x:=by
  simp only [digLe,digS] at *
  obtain ⟨h0,h1,h2,h3,h4,h5,h6,h7,-⟩:=h
  have q0:=Nat.div_add_mod x 256
  generalize x % 256=c0 at *
  generalize x / 256=x1 at *
  have q1:=Nat.div_add_mod x1 256
  generalize x1 % 256=c1 at *
  generalize x1 / 256=x2 at *
  have q2:=Nat.div_add_mod x2 256
  generalize x2 % 256=c2 at *
  generalize x2 / 256=x3 at *
  have q3:=Nat.div_add_mod x3 256
  generalize x3 % 256=c3 at *
  generalize x3 / 256=x4 at *
  have q4:=Nat.div_add_mod x4 256
  generalize x4 % 256=c4 at *
  generalize x4 / 256=x5 at *
  have q5:=Nat.div_add_mod x5 256
  generalize x5 % 256=c5 at *
  generalize x5 / 256=x6 at *
  have q6:=Nat.div_add_mod x6 256
  generalize x6 % 256=c6 at *
  generalize x6 / 256=x7 at *
  have q7:=Nat.div_add_mod x7 256
  generalize x7 % 256=c7 at *
  generalize x7 / 256=x8 at *
  obtain rfl:x8=0:=by omega
  have a1:x1=c1+256*c2+65536*c3+16777216*c4+4294967296*c5+1099511627776*c6+281474976710656*c7:=by omega
  have ax:x=c0+256*x1:=by omega
  clear q0 q1 q2 q3 q4 q5 q6 q7
  generalize ey:x+x1=y
  have hy:y=(c0+c1)+256*(c1+c2)+65536*(c2+c3)+16777216*(c3+c4)+4294967296*(c4+c5)+1099511627776*(c5+c6)+281474976710656*(c6+c7)+72057594037927936*c7:=by omega
  clear ey ax a1
  have hyb:y<9223372036854775808:=by rw [hy]; clear hy hx x1; omega
  generalize eq2:(c2+c3)+256*(c3+c4)+65536*(c4+c5)+16777216*(c5+c6)+4294967296*(c6+c7)+1099511627776*c7=y2
  have hy2:y=((c0+c1)+256*(c1+c2))+65536*y2:=by rw [hy,← eq2]; clear hy hx hyb eq2; omega
  have hlow:(c0+c1)+256*(c1+c2)<65536:=by clear hy hx hyb eq2 hy2; omega
  have a2:y / 65536=y2:=by
    rw [hy2,Nat.add_mul_div_left _ _ (by decide),Nat.div_eq_of_lt hlow,Nat.zero_add]
  rw [a2]
  generalize eq3:(c4+c5+c6+c7)+256*(c5+c6+c7)+65536*(c6+c7)+16777216*c7=z2
  generalize eq4:(c0+c1+c2+c3)+256*(c1+c2+c3+c4)+65536*(c2+c3+c4+c5)+16777216*(c3+c4+c5+c6)=z0
  have hz:y+y2=z0+4294967296*z2:=by rw [hy,← eq2,← eq3,← eq4]; clear hy hx hyb eq2 hy2 hlow a2 eq3 eq4; omega
  have hz0:z0<4294967296:=by rw [← eq4]; clear hy hx hyb eq2 hy2 hlow a2 eq3 eq4 hz; omega
  have hz2:z2<1073741824:=by rw [← eq3]; clear hy hx hyb eq2 hy2 hlow a2 eq3 eq4 hz hz0; omega
  have a3:(y+y2) / 4294967296=z2:=by
    rw [hz,Nat.add_mul_div_left _ _ (by decide),Nat.div_eq_of_lt hz0,Nat.zero_add]
  rw [a3,hz]
  have hs:z0+4294967296*z2+z2=(c0+(c1+(c2+(c3+(c4+(c5+(c6+(c7+0))))))))+128*(2*(c1+c2+c3+c4)+512*(c2+c3+c4+c5)+131072*(c3+c4+c5+c6)+33554432*z2+2*(c5+c6+c7)+512*(c6+c7)+131072*c7):=by
    rw [← eq4,← eq3]; clear hy hx hyb eq2 hy2 hlow a2 eq3 eq4 hz hz0 hz2 a3; omega
  have hlt:c0+(c1+(c2+(c3+(c4+(c5+(c6+(c7+0)))))))<128:=by clear hs hy hx hyb eq2 hy2 hlow a2 eq3 eq4 hz hz0 hz2 a3; omega
  refine ⟨hyb,by clear hs hlt hy hx hyb eq2 hy2 hlow a2 eq3 eq4 hz a3; omega,by clear hs hlt hy hx hyb eq2 hy2 hlow a2 eq3 eq4 hz a3; omega,?_⟩
  rw [hs,Nat.add_mul_mod_self_left,Nat.mod_eq_of_lt hlt]
end Go.Proofs.Ytegigiecamjobaa
