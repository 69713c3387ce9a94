/- insertionSortCmpFunc and symMergeCmpFunc at int with stamp.Total's comparison. Conditions: the part lies in the slice, no ties. -/
import Derived.Test.YtekbamiaenbhjaaStE
namespace Go.Proofs.Ytekbamiaenbhjaa
open Go.Ex Go.Sort
set_option maxRecDepth 100000
def b4m:D7:={ ps:=[.mu C8,.v C8,.v C8,.s5 130 [.d0 false C8,.d0 false Event]],rs:=[],pre:=fun x=>(LE.le (α:=Int) 0 x.2.1∧LE.le (α:=Int) x.2.1 x.2.2.1)∧Int.toNat x.2.2.1≤List.length (α:=Int) x.1∧OkL x.2.2.2.1.1 x.2.2.2.1.2.1 x.1,fn:=fun _=>(),out:=fun x=>(s7 (x6 x.2.2.2.1.1 x.2.2.2.1.2.1) x.1 (Int.toNat x.2.1) (Int.toNat x.2.2.1),()) }
noncomputable def a6e:Env:={ P:=Try.prog,tt:=tt,H8:=[(130,a9U)],res:=[],rs:=[],ps:=[PK.mu (Ty.int IntKind.i64),PK.v (Ty.int IntKind.i64),PK.v (Ty.int IntKind.i64),PK.s5 130 [Ty.d0 false (Ty.int IntKind.i64),Ty.d0 false p7]],K0:=[(1,[(0,none),(1,none),(2,none),(3,none),(8,none)]),(4,[(0,none),(1,none),(2,none),(3,none),(8,none),(9,none)])],nt:=53 }
theorem a4A:I6 a6e:=L6 y7 ⟨a6z,trivial⟩
theorem a4w:M3 a6e Try.f278:=⟨rfl,rfl⟩
theorem b82 (x0:List Int) (x1:Int) (x2:Int) (x3c0:List Int) (x3c1:List (Int×Int×Int×Unit)):exec a6e 1000 [.code (d9 Try.prog 278)] (H7 b4m.ps ((x0,x1,x2,(x3c0,x3c1,()),()))) =
  .i5 (v5 IntKind.i64 (x1+(1:Int))) (.cut (e8 (d9 Try.prog 278) 1).1 (e8 (d9 Try.prog 278) 1).2 (St.mk [(0,AV.at_ 2000000 []),(1,AV.val (Ty.int IntKind.i64) x1),(2,AV.val (Ty.int IntKind.i64) x2),(3,AV.s5 130 (AV.cons (AV.s9 (Ty.d0 false (Ty.int IntKind.i64)) x3c0) (AV.cons (AV.s9 (Ty.d0 false p7) x3c1) AV.nil))),(8,AV.val (Ty.int IntKind.i64) (x1+(1:Int)))] [(2000000,g9.own Is x0)])):=by kernel_rfl
def a7i (v1:Int) (v2:Int) (v3a:List Int) (v3ba:List (Int×Int×Int×Unit)) (v8:Int) (o2000000:List Int):St:=St.mk [(0,AV.at_ 2000000 []),(1,AV.val (Ty.int IntKind.i64) v1),(2,AV.val (Ty.int IntKind.i64) v2),(3,AV.s5 130 (AV.cons (AV.s9 (Ty.d0 false (Ty.int IntKind.i64)) v3a) (AV.cons (AV.s9 (Ty.d0 false p7) v3ba) AV.nil))),(8,AV.val (Ty.int IntKind.i64) v8)] [(2000000,g9.own Is o2000000)]
theorem b7N (v1:Int) (v2:Int) (v3a:List Int) (v3ba:List (Int×Int×Int×Unit)) (v8:Int) (o2000000:List Int):exec a6e 1000 (.code (e8 (d9 Try.prog 278) 1).1::.inLoop (e8 (d9 Try.prog 278) 1).1::(e8 (d9 Try.prog 278) 1).2) (a7i v1 v2 v3a v3ba v8 o2000000) =
  cond (decide (v8<v2)) (.cut (e8 (d9 Try.prog 278) 4).1 (e8 (d9 Try.prog 278) 4).2 (St.mk [(0,AV.at_ 2000000 []),(1,AV.val (Ty.int IntKind.i64) v1),(2,AV.val (Ty.int IntKind.i64) v2),(3,AV.s5 130 (AV.cons (AV.s9 (Ty.d0 false (Ty.int IntKind.i64)) v3a) (AV.cons (AV.s9 (Ty.d0 false p7) v3ba) AV.nil))),(8,AV.val (Ty.int IntKind.i64) v8),(9,AV.val (Ty.int IntKind.i64) v8)] [(2000000,g9.own Is o2000000)])) (.ret ((o2000000,()))):=by kernel_rfl
def b1G (v1:Int) (v2:Int) (v3a:List Int) (v3ba:List (Int×Int×Int×Unit)) (v8:Int) (v9:Int) (o2000000:List Int):St:=St.mk [(0,AV.at_ 2000000 []),(1,AV.val (Ty.int IntKind.i64) v1),(2,AV.val (Ty.int IntKind.i64) v2),(3,AV.s5 130 (AV.cons (AV.s9 (Ty.d0 false (Ty.int IntKind.i64)) v3a) (AV.cons (AV.s9 (Ty.d0 false p7) v3ba) AV.nil))),(8,AV.val (Ty.int IntKind.i64) v8),(9,AV.val (Ty.int IntKind.i64) v9)] [(2000000,g9.own Is o2000000)]
theorem b7M (v1:Int) (v2:Int) (v3a:List Int) (v3ba:List (Int×Int×Int×Unit)) (v8:Int) (v9:Int) (o2000000:List Int):exec a6e 1000 (.code (e8 (d9 Try.prog 278) 4).1::.inLoop (e8 (d9 Try.prog 278) 4).1::(e8 (d9 Try.prog 278) 4).2) (b1G v1 v2 v3a v3ba v8 v9 o2000000) =
  cond (decide (v1<v9)) (.i5 ((0:Int)≤v9∧v9<(↑(List.length o2000000):Int)) (.i5 (v5 IntKind.i64 (v9 - (1:Int))) (.i5 ((0:Int)≤v9 - (1:Int)∧v9 - (1:Int)<(↑(List.length o2000000):Int)) (.i5 ((((0:Int)≤List.getD o2000000 (Int.toNat v9) (0:Int)∧List.getD o2000000 (Int.toNat v9) (0:Int)<(↑(List.length v3a):Int))∧(0:Int)≤List.getD o2000000 (Int.toNat (v9 - (1:Int))) (0:Int)∧List.getD o2000000 (Int.toNat (v9 - (1:Int))) (0:Int)<(↑(List.length v3a):Int))∧List.length v3a=List.length v3ba) (cond (decide (a3j v3a v3ba (List.getD o2000000 (Int.toNat v9) (0:Int)) (List.getD o2000000 (Int.toNat (v9 - (1:Int))) (0:Int))<(0:Int))) (.i5 (v5 IntKind.i64 (v9 - (1:Int))) (.i5 (v5 IntKind.i64 (v9 - (1:Int))) (.i5 ((0:Int)≤v9 - (1:Int)∧v9 - (1:Int)<(↑(List.length o2000000):Int)) (.i5 ((0:Int)≤v9∧v9<(↑(List.length o2000000):Int)) (.i5 ((0:Int)≤v9∧v9<(↑(List.length o2000000):Int)) (.i5 ((0:Int)≤v9 - (1:Int)∧v9 - (1:Int)<(↑(List.length (List.set o2000000 (Int.toNat v9) (List.getD o2000000 (Int.toNat (v9 - (1:Int))) (0:Int)))):Int)) (.i5 (v5 IntKind.i64 (v9 - (1:Int))) (.cut (e8 (d9 Try.prog 278) 4).1 (e8 (d9 Try.prog 278) 4).2 (St.mk [(0,AV.at_ 2000000 []),(1,AV.val (Ty.int IntKind.i64) v1),(2,AV.val (Ty.int IntKind.i64) v2),(3,AV.s5 130 (AV.cons (AV.s9 (Ty.d0 false (Ty.int IntKind.i64)) v3a) (AV.cons (AV.s9 (Ty.d0 false p7) v3ba) AV.nil))),(8,AV.val (Ty.int IntKind.i64) v8),(9,AV.val (Ty.int IntKind.i64) (v9 - (1:Int)))] [(2000000,g9.own Is (List.set (List.set o2000000 (Int.toNat v9) (List.getD o2000000 (Int.toNat (v9 - (1:Int))) (0:Int))) (Int.toNat (v9 - (1:Int))) (List.getD o2000000 (Int.toNat v9) (0:Int))))]))))))))) (.i5 (v5 IntKind.i64 (v8+(1:Int))) (.cut (e8 (d9 Try.prog 278) 1).1 (e8 (d9 Try.prog 278) 1).2 (St.mk [(0,AV.at_ 2000000 []),(1,AV.val (Ty.int IntKind.i64) v1),(2,AV.val (Ty.int IntKind.i64) v2),(3,AV.s5 130 (AV.cons (AV.s9 (Ty.d0 false (Ty.int IntKind.i64)) v3a) (AV.cons (AV.s9 (Ty.d0 false p7) v3ba) AV.nil))),(8,AV.val (Ty.int IntKind.i64) (v8+(1:Int)))] [(2000000,g9.own Is o2000000)])))))))) (.i5 (v5 IntKind.i64 (v8+(1:Int))) (.cut (e8 (d9 Try.prog 278) 1).1 (e8 (d9 Try.prog 278) 1).2 (St.mk [(0,AV.at_ 2000000 []),(1,AV.val (Ty.int IntKind.i64) v1),(2,AV.val (Ty.int IntKind.i64) v2),(3,AV.s5 130 (AV.cons (AV.s9 (Ty.d0 false (Ty.int IntKind.i64)) v3a) (AV.cons (AV.s9 (Ty.d0 false p7) v3ba) AV.nil))),(8,AV.val (Ty.int IntKind.i64) (v8+(1:Int)))] [(2000000,g9.own Is o2000000)]))):=by kernel_rfl
theorem b2l:b4m.Valid Try.prog 278:=by
  refine D7.E6 a4A rfl rfl Try.func278 (c:=d9 Try.prog 278) rfl rfl a4w rfl ?_
  rintro ⟨(l:List Int),(a:Int),(b:Int),⟨(ls:List Int),(hs:List I5),⟨⟩⟩,⟨⟩⟩ ⟨⟨(ha:0≤a),(hb:a≤b)⟩,(h1:b.toNat≤l.length),(hok:OkL ls hs l)⟩ ⟨⟨hl,-⟩,-⟩
  have hl:l.length≤4611686018427387904:=hok.2.1.1
  obtain ⟨a,rfl⟩:=Int.eq_ofNat_of_zero_le ha
  obtain ⟨b,rfl⟩:=Int.eq_ofNat_of_zero_le (show 0≤b by omega)
  have h1:b≤l.length:=by simpa using h1
  have hb:a≤b:=by omega
  have hO:=a97 ls hs
  refine s4 (n:=1000) a4A a4w ?_
  refine n9 (b82 l (a:Int) (b:Int) ls hs) ?_
  refine ⟨w7.2 ⟨by omega,by omega⟩,fun _=>?_⟩
  have st:l=s7 (x6 ls hs) l a (min (a+1) b):=(b1R hO (by omega) (by omega)).symm
  suffices G:∀ i:Nat,a+1≤i→i≤max b (a+1)→Go.Ex.Reach a6e Try.f278 () (s7 (x6 ls hs) l a b,()) (.code (e8 (d9 Try.prog 278) 1).1::.inLoop (e8 (d9 Try.prog 278) 1).1::(e8 (d9 Try.prog 278) 1).2) (a7i (a:Int) (b:Int) ls hs (i:Int) (s7 (x6 ls hs) l a (min i b))) by
    have:=G (a+1) (by omega) (by omega)
    rw [← st] at this
    exact this
  refine fun i hi1 hi2=>Reach.K1 a4A a4w (fun i:Nat=>a7i (a:Int) (b:Int) ls hs (i:Int) (s7 (x6 ls hs) l a (min i b))) (fun i=>a+1≤i∧i≤max b (a+1)) (fun i=>b - i) 1000 (fun _=>⟨s6 rfl,s6 rfl⟩) ?_ i ⟨hi1,hi2⟩
  clear hi1 hi2 i st
  rintro i ⟨(k1:a+1≤i),(k2:i≤max b (a+1))⟩ - ih
  refine n9 (b7N ..) ?_
  simp only [q8,Tree.holds,true_and,true_implies,decide_eq_true_eq,decide_eq_false_iff_not,Bool.not_eq_true',Bool.not_eq_false',Int.toNat_natCast,w7,List.length_set,List.length_cons,List.length_nil]
  refine ⟨fun c=>?_,fun c=>?_⟩
  · have c:i<b:=by omega
    rw [show min i b=i by omega]
    refine Reach.K1 a4A a4w (fun s:Nat×List Int=>b1G (a:Int) (b:Int) ls hs (i:Int) (s.1:Int) s.2) (fun s=>a≤s.1∧s.1≤i∧a5C (x6 ls hs) l a i s.1 s.2) (fun s=>s.1) 1000 (fun _=>⟨s6 rfl,s6 rfl⟩) ?_ (i,s7 (x6 ls hs) l a i) ⟨by show a≤i; omega,by show i≤i; omega,b7c (by omega) (by omega)⟩
    rintro ⟨j,o⟩ ⟨(m1:a≤j),(m2:j≤i),(m3:a5C (x6 ls hs) l a i j o)⟩ - ih2
    refine n9 (b7M ..) ?_
    have hp:=b7b (by omega) (by omega) m3
    have hlen:=hp.length_eq
    have hok2:=hok.perm hp
    have next:=ih (i+1) ⟨by omega,by omega⟩ (by omega)
    simp only [q8,Tree.holds,true_and,true_implies,decide_eq_true_eq,decide_eq_false_iff_not,Bool.not_eq_true',Bool.not_eq_false',Int.toNat_natCast,w7,List.length_set,List.length_cons,List.length_nil]
    have hx:0≤o.getD j 0∧o.getD j 0<(ls.length:Int):=hok2.2.1.2 _ (a1v (by omega))
    have e1:((j:Int) - 1).toNat=j - 1:=by omega
    rw [e1]
    have hy:0≤o.getD (j - 1) 0∧o.getD (j - 1) 0<(ls.length:Int):=hok2.2.1.2 _ (a1v (by omega))
    refine ⟨fun d=>?_,fun d=>?_⟩
    · refine ⟨⟨by omega,by omega⟩,fun _=>⟨⟨by omega,by omega⟩,fun _=>⟨⟨by omega,by omega⟩,fun _=>⟨⟨⟨hx,hy⟩,hok.1⟩,fun _=>⟨fun e=>?_,fun e=>?_⟩⟩⟩⟩⟩
      · have step:=ih2 (j - 1,swp o j (j - 1)) ⟨by show a≤j - 1; omega,by show j - 1≤i; omega,b7a (by omega) (by omega) m3 (decide_eq_true e)⟩ (by show j - 1<j; omega)
        have e2:(j:Int) - 1=((j - 1:Nat):Int):=by omega
        rw [e2]
        exact ⟨by omega,fun _=>⟨by omega,fun _=>⟨by omega,fun _=>⟨by omega,fun _=>⟨by omega,fun _=>⟨by omega,fun _=>⟨by omega,fun _=>step⟩⟩⟩⟩⟩⟩⟩
      · have eo:=b23 hO (by omega) (by omega) hok.2.2 m3 (.inr (decide_eq_false e))
        rw [show min (i+1) b=i+1 by omega,← eo] at next
        exact ⟨by omega,fun _=>next⟩
    · have eo:=b23 hO (by omega) (by omega) hok.2.2 m3 (.inl (by omega))
      rw [show min (i+1) b=i+1 by omega,← eo] at next
      exact ⟨by omega,fun _=>next⟩
  · rw [show min i b=b by omega]; rfl
end Go.Proofs.Ytekbamiaenbhjaa
