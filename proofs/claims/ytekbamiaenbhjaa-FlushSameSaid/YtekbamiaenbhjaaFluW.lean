/- FlushSame. No condition. -/
import Derived.Test.YtekbamiaenbhjaaFluT
namespace Go.Proofs.Ytekbamiaenbhjaa
open Go.Ex Go.Sort
set_option maxRecDepth 100000
theorem b3m {f:K5} {c:Int} (h:(J0 f c).2.2.1=0):B9 f=0∧(H6 f.1 f.2.1 c).2.1=0∧J0 f c=(((H6 f.1 f.2.1 c).1,0,T7,()),outs (a9d f) (O7 (a9d f) f.2.2.1 6) f.2.2.1 6,0,()):=by
  unfold J0 at h ⊢
  split at h
  · rename_i a; exact absurd h a
  rename_i a; rw [if_neg a]
  split at h
  · rename_i b; exact absurd h b
  rename_i b; rw [if_neg b]
  exact ⟨Decidable.not_not.1 a,Decidable.not_not.1 b,rfl⟩
theorem b1o {f:K5} {c:Int} (h:(J0 f c).2.2.1≠0):(J0 f c).1=N6:=by
  unfold J0 at h ⊢
  split
  · rfl
  rename_i a; rw [if_neg a] at h
  split
  · rfl
  rename_i b; rw [if_neg b] at h
  exact absurd rfl h
attribute [local irreducible] F5
theorem a6q:a7i.Valid Try.prog 10:=by
  refine D4.F1 a1I rfl rfl Try.func10 (c:=g9 Try.prog 10) rfl rfl a1H rfl ?_
  rintro ⟨⟨⟨(num:Int),(M:Int),⟨⟩⟩,(g:Int),(T:List (List Int)),⟨⟩⟩,(c:Int),⟨⟩⟩ - ⟨⟨⟨-,hM,-⟩,hg,⟨(hT:T.length=6),-⟩,-⟩,hc,-⟩
  have hM:A4 .u8 M:=hM
  have hg:A4 .u8 g:=hg
  have hc:A4 .u8 c:=hc
  refine r8 (n:=1000) a1I a1H ?_
  refine s5 (b0Q num M g T c) ?_
  have hbad:=b1o (f:=((num,M,()),g,T,())) (c:=c)
  have hok:=b3m (f:=((num,M,()),g,T,())) (c:=c)
  generalize J0 ((num,M,()),g,T,()) c=r at *
  obtain ⟨h,l,e,⟨⟩⟩:=r
  simp only [x6,Tree.holds,true_and,true_implies,decide_eq_true_eq,decide_eq_false_iff_not,Bool.not_eq_true',Bool.not_eq_false',Int.toNat_natCast,F8,List.length_set,List.length_cons,List.length_nil]
  simp only at hbad hok
  refine ⟨by omega,fun _=>⟨by omega,fun _=>⟨fun a=>?_,fun a=>?_⟩⟩⟩
  · rw [hbad a]; rfl
  obtain ⟨h1,h2,h3⟩:=hok (Decidable.not_not.1 a)
  have hnx:=b6Y (v:=(num,M,())) hM hg hc h2
  obtain ⟨⟨w,w1,w2⟩,-⟩:=a8i (v:=(num,M,())) hM hg h2
  have w2:V5 (p8 .u8 M g) (w:Int)≠0:=w2
  have h5:h=((H6 (num,M,()) g c).1,0,T7,()):=congrArg (fun x:K5×List (List Int)×Int×Unit=>x.1) h3
  have h4:=congrArg (fun x:K5×List (List Int)×Int×Unit=>x.2.1) h3
  clear h3 hok hbad
  subst h5
  have h4:l=outs (p8 .u8 M g) (O7 (p8 .u8 M g) T 6) T 6:=h4
  have hl:∀ p,p<6→l.getD p []=S9 (p8 .u8 M g) (O7 (p8 .u8 M g) T 6) T p 30:=fun p hp=>by rw [h4,a7E (Nat.le_refl _) hp,if_pos hp]
  have h01:=fun p hp=>b7H (M:=M) (g:=g) p hp
  have hsame:=fun {p q:Nat}=>b1J (v:=(num,M,())) (g:=g) (T:=T) h1 (L:=p8 .u8 M g) (p:=p) (q:=q)
  have hlen:=fun {p:Nat}=>b3S (v:=(num,M,())) (g:=g) (T:=T) h1 (L:=p8 .u8 M g) (p:=p)
  have hnd:=fun {p:Nat}=>a2s (v:=(num,M,())) (g:=g) (T:=T) h1 (L:=p8 .u8 M g) (p:=p)
  have hcat:∀ p,p<6→List.flatten (List.set (List.set [([]:List Int),[]] (Int.toNat (0:Int)) (T.getD p [])) (Int.toNat (1:Int)) (l.getD p []))=U7 (p8 .u8 M g) T p:=fun p hp=>by
    rw [hl p hp]
    show T.getD p []++(_++[])=_
    rw [List.append_nil]; rfl
  generalize (H6 (num,M,()) g c).1=V at *
  obtain ⟨vn,vm,⟨⟩⟩:=V
  refine Reach.Z9 a1I a1H (fun s:Nat×Bool×List Int=>a3r s.2.1 (s.1:Int) num M g T vn vm 0 T7 l s.2.2) (fun s=>s.1≤6∧(s.2.1=true→∃ q,q<6∧V5 (p8 .u8 M g) ((q:Nat):Int)=1∧s.2.2=F5 (U7 (p8 .u8 M g) T q))∧(s.2.1=false→∀ q,q<s.1→V5 (p8 .u8 M g) ((q:Nat):Int)=0)) (fun s=>6 - s.1) 1000 (fun _=>⟨A3 rfl,A3 rfl⟩) ?_ (0,false,[]) ⟨Nat.zero_le _,fun h=>(by cases h),fun _ q hq=>absurd hq (Nat.not_lt_zero _)⟩
  rintro ⟨p,sn,fs⟩ ⟨(k1:p≤6),(k2:sn=true→∃ q,q<6∧V5 (p8 .u8 M g) ((q:Nat):Int)=1∧fs=F5 (U7 (p8 .u8 M g) T q)),(k3:sn=false→∀ q,q<p→V5 (p8 .u8 M g) ((q:Nat):Int)=0)⟩ - ih
  refine s5 (a74 ..) ?_
  have hlf:R5 .u8 (p8 .u8 M g / 2^min (Int.toNat (p:Int)) (IntKind.bits .u8)) 1=V5 (p8 .u8 M g) (p:Int):=rfl
  rw [hlf]
  simp only [x6,Tree.holds,true_and,true_implies,decide_eq_true_eq,decide_eq_false_iff_not,Bool.not_eq_true',Bool.not_eq_false',Int.toNat_natCast,F8,List.length_set,List.length_cons,List.length_nil]
  refine ⟨fun d=>?_,fun d=>⟨fun s=>?_,fun s=>?_⟩⟩
  · have hp:p<6:=by omega
    rw [hcat p hp]
    refine ⟨by omega,fun _=>⟨fun z=>⟨by omega,fun _=>⟨fun y=>?_,fun _=>⟨by omega,fun _=>?_⟩⟩⟩,fun z=>?_⟩⟩
    · exfalso
      rw [hl p hp,b4s (by rw [z]; decide)] at y
      simp at y
    · exact ih (p+1,sn,fs) ⟨by show p+1≤6; omega,k2,fun s q hq=>by
        by_cases e:q=p
        · subst e; exact z
        · exact k3 s q (by have hq:q<p+1:=hq; omega)⟩ (by show 6 - (p+1)<6 - p; omega)
    · have z1:=h01 p hp z
      have hs:(F5 (U7 (p8 .u8 M g) T p)).length=(U7 (p8 .u8 M g) T p).length:=(a3y _).length_eq
      have hl9:=hlen hp
      refine ⟨by omega,fun _=>⟨by omega,fun _=>⟨by omega,fun _=>⟨by omega,fun _=>⟨by omega,fun _=>⟨b0W (hnd hp),fun _=>⟨fun y=>absurd rfl y,fun _=>⟨fun y=>⟨fun x=>absurd trivial x,by omega,fun _=>?_⟩,fun y=>⟨fun x=>?_,fun x=>⟨by omega,fun _=>?_⟩⟩⟩⟩⟩⟩⟩⟩⟩⟩
      · exact ih (p+1,true,F5 (U7 (p8 .u8 M g) T p)) ⟨by show p+1≤6; omega,fun _=>⟨p,hp,z1,rfl⟩,fun h=>(by cases h)⟩ (by show 6 - (p+1)<6 - p; omega)
      · exfalso
        obtain ⟨q,q1,q2,q3⟩:=k2 (by simpa using y)
        exact x (by rw [q3]; exact hsame q1 q2 hp z1)
      · exact ih (p+1,sn,fs) ⟨by show p+1≤6; omega,k2,fun s=>absurd (Eq.trans s.symm (by simpa using y)) (by decide)⟩ (by show 6 - (p+1)<6 - p; omega)
  · exact b8j hnx
  · exact absurd (k3 s w (by omega)) w2
end Go.Proofs.Ytekbamiaenbhjaa
