/- causal.Cast; how long the answers of the packages lane and causal are. -/
import Derived.Test.YtekbamiaenbhjaaOwnL
import Derived.Test.YtekbamiaenbhjaaLaneE
import Derived.Test.YtekbamiaenbhjaaCausalC
namespace Go.Proofs.Ytekbamiaenbhjaa
open Go.Ex
set_option maxRecDepth 100000
def a2k (c:L9) (t:List UInt8):L9×n7×Int×Unit :=
  if M9 c≠0 then (c0,I6,M9 c,()) else if 16777215≤c.2.1.getD c.1.toNat 0 then (c0,I6,8,())
  else ((c.1,c.2.1.set c.1.toNat (c.2.1.getD c.1.toNat 0+1),c.2.2.1,()),(c.1,c.2.1.set c.1.toNat (c.2.1.getD c.1.toNat 0+1),t,()),0,())
def b5V:t5:={ ps:=[.v a0L,.v .str],rs:=[a6c,E7,I8],pre:=fun _=>True,fn:=fun x=>a2k x.1 x.2.1,out:=fun _=>() }
noncomputable def b6z:Env:={ P:=Try.prog,tt:=tt,C9:=[(161,a58),(163,a57)],res:=[Go.ResultVar.cell 4 106,Go.ResultVar.cell 5 108,Go.ResultVar.tmp 6],rs:=[Ty.pair (Ty.int IntKind.i64) (Ty.pair o7 (Ty.pair (Ty.d0 true (Ty.pair (Ty.int IntKind.i64) (Ty.pair o7 (Ty.pair Ty.str Ty.unit)))) Ty.unit)),Ty.pair (Ty.int IntKind.i64) (Ty.pair o7 (Ty.pair Ty.str Ty.unit)),Ty.int IntKind.i64],ps:=[PK.v (Ty.pair (Ty.int IntKind.i64) (Ty.pair o7 (Ty.pair (Ty.d0 false (Ty.pair (Ty.int IntKind.i64) (Ty.pair o7 (Ty.pair Ty.str Ty.unit)))) Ty.unit))),PK.v Ty.str],C7:=[(2000034,[(0,some a6c)])],nt:=41 }
theorem b25:x8 b6z:=C2 q9 ⟨a4D,a4C,trivial⟩
theorem b2J:D3 b6z Try.f58:=⟨rfl,rfl⟩
theorem c0Y (x0_1:Int) (x0_2_1:List Int) (x0_2_2_1:List (Int×List Int×List UInt8×Unit)) (x1:List UInt8):exec b6z 1000 [.code (d9 Try.prog 58)] (w7 b5V.ps (((x0_1,x0_2_1,x0_2_2_1,()),x1,()))) =
  .f9 (True) (cond (decide (M9 (x0_1,x0_2_1,x0_2_2_1,())≠(0:Int))) (.ret ((((0:Int),[(0:Int),(0:Int),(0:Int),(0:Int),(0:Int),(0:Int)],[],()),((0:Int),[(0:Int),(0:Int),(0:Int),(0:Int),(0:Int),(0:Int)],[],()),M9 (x0_1,x0_2_1,x0_2_2_1,()),()))) (.f9 ((0:Int)≤x0_1∧x0_1<(↑6:Int)) (cond (decide ((16777215:Int)≤List.getD x0_2_1 (Int.toNat x0_1) (0:Int))) (.ret ((((0:Int),[(0:Int),(0:Int),(0:Int),(0:Int),(0:Int),(0:Int)],[],()),((0:Int),[(0:Int),(0:Int),(0:Int),(0:Int),(0:Int),(0:Int)],[],()),(8:Int),()))) (.f9 (List.length x0_2_2_1≤1048576) (.f9 ((0:Int)≤x0_1∧x0_1<(↑6:Int)) (.f9 (C1 IntKind.i64 (List.getD x0_2_1 (Int.toNat x0_1) (0:Int)+(1:Int))) (.f9 ((0:Int)≤x0_1∧x0_1<(↑6:Int)) (.ret (((x0_1,List.set x0_2_1 (Int.toNat x0_1) (List.getD x0_2_1 (Int.toNat x0_1) (0:Int)+(1:Int)),x0_2_2_1,()),(x0_1,List.set x0_2_1 (Int.toNat x0_1) (List.getD x0_2_1 (Int.toNat x0_1) (0:Int)+(1:Int)),x1,()),(0:Int),())))))))))):=by kernel_rfl
theorem b3J:b5V.Valid Try.prog 58:=by
  refine t5.s4 b25 rfl rfl Try.func58 (c:=d9 Try.prog 58) rfl rfl b2J rfl ?_
  rintro ⟨⟨(me:Int),(s:List Int),(h:List n7),⟨⟩⟩,(t:List UInt8),⟨⟩⟩ - -
  refine l5 (n:=1000) b25 b2J ?_
  refine j8 (c0Y me s h t) ?_
  have key:∀ {y:L9×n7×Int×Unit},a2k (me,s,h,()) t=y→y=a2k (me,s,h,()) t:=fun h=>h.symm
  have hd:a2k (me,s,h,()) t=if M9 (me,s,h,())≠0 then (c0,I6,M9 (me,s,h,()),()) else if 16777215≤s.getD me.toNat 0 then (c0,I6,8,())
    else ((me,s.set me.toNat (s.getD me.toNat 0+1),h,()),(me,s.set me.toNat (s.getD me.toNat 0+1),t,()),0,()):=rfl
  simp only [p8,Tree.holds,true_and,true_implies,decide_eq_true_eq,decide_eq_false_iff_not,Bool.not_eq_true',Bool.not_eq_false',Int.toNat_natCast,u6,List.length_set,List.length_cons,List.length_nil]
  refine ⟨fun a=>key (by rw [hd,if_pos a]<;>rfl),fun a=>?_⟩
  have p9:=a2j.1 (Decidable.not_not.1 a)
  have hme:0≤me∧me≤5:=p9.me
  have hlen:h.length≤40:=p9.len
  have hnn:0≤s.getD me.toNat 0:=a6a p9.nn me.toNat
  rw [if_neg a] at hd
  refine ⟨by omega,fun _=>⟨fun b=>key (by rw [hd,if_pos b]<;>rfl),fun b=>?_⟩⟩
  rw [if_neg b] at hd
  exact ⟨by omega,fun _=>⟨by omega,fun _=>⟨by omega,fun _=>⟨by omega,fun _=>key (by rw [hd]; rfl)⟩⟩⟩⟩
theorem b4q:∀ (f:Nat) (s:List Int) (h:List n7) (m:n7) (l:List n7),(U1 f s h m l).2.1.length≤h.length∧(U1 f s h m l).2.2.length≤l.length+f
  | 0,s,h,m,l=>by simp [U1]
  | f+1,s,h,m,l=>by
    rw [a6Y]
    split
    · simp
    · have:=b4q f (U6 s m) (h.take (idxOf (E6 (U6 s m)) h).toNat++h.drop (idxOf (E6 (U6 s m)) h+1).toNat) (h.getD (idxOf (E6 (U6 s m)) h).toNat I6) (l++[m])
      simp only [List.length_append,List.length_take,List.length_drop,List.length_singleton] at this
      refine ⟨by omega,by omega⟩
theorem b7E (c:L9) (m:n7):(a0E c m).1.2.2.1.length≤41∧(a0E c m).2.1.length≤41:=by
  unfold a0E
  split
  · exact ⟨by show 0≤41; omega,by show 0≤41; omega⟩
  rename_i a
  have p9:=a2j.1 (Decidable.not_not.1 a)
  have hl:=p9.len
  have e0:(0:Nat)≤41:=by omega
  split
  · exact ⟨e0,e0⟩
  split
  · exact ⟨by show c.2.2.1.length≤41; omega,e0⟩
  split
  · exact ⟨by show c.2.2.1.length≤41; omega,e0⟩
  split
  · exact ⟨by show c.2.2.1.length≤41; omega,e0⟩
  split
  · split
    · exact ⟨e0,e0⟩
    · exact ⟨by show (c.2.2.1++[m]).length≤41; rw [List.length_append]; show _+1≤41; omega,e0⟩
  · have:=b4q (c.2.2.1.length+1) c.2.1 c.2.2.1 m []
    refine ⟨?_,by show (U1 (c.2.2.1.length+1) c.2.1 c.2.2.1 m []).2.2.length≤41; have h2:=this.2; simp only [List.length_nil] at h2; omega⟩
    show ((U1 (c.2.2.1.length+1) c.2.1 c.2.2.1 m []).2.1.filter _).length≤41
    have h2:=List.length_filter_le (fun x=>!N8 (U1 (c.2.2.1.length+1) c.2.1 c.2.2.1 m []).1 x) (U1 (c.2.2.1.length+1) c.2.1 c.2.2.1 m []).2.1
    omega
theorem b82 (c:L9) (t:List UInt8):(a2k c t).1.2.2.1.length≤41:=by
  unfold a2k
  split
  · show 0≤41; omega
  rename_i a
  have hl:=(a2j.1 (Decidable.not_not.1 a)).len
  split
  · show 0≤41; omega
  · show c.2.2.1.length≤41; omega
theorem b8F (s:a1q) (x:List UInt8):(a35 s x).1.2.1.length≤41:=by
  unfold a35
  split
  · show 0≤41; omega
  rename_i a
  have hl:=(a2K (Decidable.not_not.1 a)).2.1
  split
  · show 0≤41; omega
  split
  · show 0≤41; omega
  · show (s.2.1++[x]).length≤41
    rw [List.length_append]; show _+1≤41; omega
theorem b5r (s:a1q) (x:Int):(a1b s x).1.2.1.length≤41:=by
  unfold a1b
  split
  · show 0≤41; omega
  rename_i a
  have hl:=(a2K (Decidable.not_not.1 a)).2.1
  split
  · show 0≤41; omega
  · show (s.2.1.drop _).length≤41
    rw [List.length_drop]; omega
theorem b4c:∀ (l:List n9) (n:Int),(K9 l n).2.1.length≤l.length
  | [],n=>by simp [K9]
  | p::l,n=>by
    rw [K9]
    split
    · have:=b4c l (n+1)
      show (K9 l (n+1)).2.1.length≤l.length+1
      omega
    · exact Nat.le_refl _
theorem b65 (s:ToD) (p:n9):(a2e s p).1.2.1.length≤41:=by
  unfold a2e
  split
  · show 0≤41; omega
  rename_i a
  obtain ⟨r,l,u⟩:=s
  have hl:l.length≤16:=(b31.1 (Decidable.not_not.1 a)).len
  split
  · show 0≤41; omega
  split
  · show 0≤41; omega
  split
  · show l.length≤41; omega
  split
  · show (l.take (W4 p.1 l)++p::l.drop (W4 p.1 l)).length≤41
    rw [List.length_append,List.length_take,List.length_cons,List.length_drop]; omega
  · have:=b4c l (r+1)
    show (K9 l (r+1)).2.1.length≤41
    omega
end Go.Proofs.Ytekbamiaenbhjaa
