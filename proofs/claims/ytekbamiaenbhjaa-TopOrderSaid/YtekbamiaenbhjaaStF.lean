/- insertionSortCmpFunc and symMergeCmpFunc at int with stamp.Total's comparison. Conditions: the part lies in the slice, no ties. -/
import Derived.Test.YtekbamiaenbhjaaStE
namespace Go.Proofs.Ytekbamiaenbhjaa
open Go.Ex Go.Sort
set_option maxRecDepth 100000
def b70:w9:={ ps:=[.mu i5,.v i5,.v i5,.s4 130 [.d0 false i5,.d0 false Event]],rs:=[],pre:=fun x=>(LE.le (α:=Int) 0 x.2.1∧LE.le (α:=Int) x.2.1 x.2.2.1)∧Int.toNat x.2.2.1≤List.length (α:=Int) x.1∧OkL x.2.2.2.1.1 x.2.2.2.1.2.1 x.1,fn:=fun _=>(),out:=fun x=>(s9 (A4 x.2.2.2.1.1 x.2.2.2.1.2.1) x.1 (Int.toNat x.2.1) (Int.toNat x.2.2.1),()) }
noncomputable def a7D:Env:={ P:=Try.prog,tt:=tt,F2:=[(130,b2B)],res:=[],rs:=[],ps:=[PK.mu i5,PK.v i5,PK.v i5,PK.s4 130 [Ty.d0 false i5,Ty.d0 false r8]],D8:=[(1,[(0,none),(1,none),(2,none),(3,none),(8,none)]),(4,[(0,none),(1,none),(2,none),(3,none),(8,none),(9,none)])],nt:=53 }
theorem a5V:B6 a7D:=D0 w5 ⟨a7U,trivial⟩
theorem a5O:E3 a7D Try.f278:=⟨rfl,rfl⟩
theorem c4e (x0:List Int) (x1:Int) (x2:Int) (x3c0:List Int) (x3c1:List (Int×Int×Int×Unit)):exec a7D 1000 [.code (d8 Try.prog 278)] (A5 b70.ps ((x0,x1,x2,(x3c0,x3c1,()),()))) =
  .e8 (r9 IntKind.i64 (x1+(1:Int))) (.ctL (d9 (d8 Try.prog 278) 1) (St.mk [(0,AV.at_ 2000000 []),(1,vI x1),(2,vI x2),(3,AV.s4 130 (AV.cons (AV.u5 (Ty.d0 false i5) x3c0) (AV.cons (AV.u5 (Ty.d0 false r8) x3c1) AV.nil))),(8,vI (x1+(1:Int)))] [(2000000,f7.own Is x0)])):=by kernel_rfl
def a80 (v1:Int) (v2:Int) (v3a:List Int) (v3ba:List (Int×Int×Int×Unit)) (v8:Int) (o2000000:List Int):St:=St.mk [(0,AV.at_ 2000000 []),(1,vI v1),(2,vI v2),(3,AV.s4 130 (AV.cons (AV.u5 (Ty.d0 false i5) v3a) (AV.cons (AV.u5 (Ty.d0 false r8) v3ba) AV.nil))),(8,vI v8)] [(2000000,f7.own Is o2000000)]
theorem c2w (v1:Int) (v2:Int) (v3a:List Int) (v3ba:List (Int×Int×Int×Unit)) (v8:Int) (o2000000:List Int):exec a7D 1000 (.code (d9 (d8 Try.prog 278) 1).1::.inLoop (d9 (d8 Try.prog 278) 1).1::(d9 (d8 Try.prog 278) 1).2) (a80 v1 v2 v3a v3ba v8 o2000000) =
  cond (decide (v8<v2)) (.ctL (d9 (d8 Try.prog 278) 4) (St.mk [(0,AV.at_ 2000000 []),(1,vI v1),(2,vI v2),(3,AV.s4 130 (AV.cons (AV.u5 (Ty.d0 false i5) v3a) (AV.cons (AV.u5 (Ty.d0 false r8) v3ba) AV.nil))),(8,vI v8),(9,vI v8)] [(2000000,f7.own Is o2000000)])) (.ret ((o2000000,()))):=by kernel_rfl
def b4F (v1:Int) (v2:Int) (v3a:List Int) (v3ba:List (Int×Int×Int×Unit)) (v8:Int) (v9:Int) (o2000000:List Int):St:=St.mk [(0,AV.at_ 2000000 []),(1,vI v1),(2,vI v2),(3,AV.s4 130 (AV.cons (AV.u5 (Ty.d0 false i5) v3a) (AV.cons (AV.u5 (Ty.d0 false r8) v3ba) AV.nil))),(8,vI v8),(9,vI v9)] [(2000000,f7.own Is o2000000)]
theorem c2v (v1:Int) (v2:Int) (v3a:List Int) (v3ba:List (Int×Int×Int×Unit)) (v8:Int) (v9:Int) (o2000000:List Int):exec a7D 1000 (.code (d9 (d8 Try.prog 278) 4).1::.inLoop (d9 (d8 Try.prog 278) 4).1::(d9 (d8 Try.prog 278) 4).2) (b4F v1 v2 v3a v3ba v8 v9 o2000000) =
  let q0:=(3,AV.s4 130 (AV.cons (AV.u5 (Ty.d0 false i5) v3a) (AV.cons (AV.u5 (Ty.d0 false r8) v3ba) AV.nil))); let q1:=(List.getD o2000000 (Int.toNat (v9 - (1:Int))) (0:Int)); let q2:=(r9 IntKind.i64 (v9 - (1:Int))); cond (decide (v1<v9)) (.e8 ((0:Int)≤v9∧v9<(↑(List.length o2000000):Int)) (.e8 q2 (.e8 ((0:Int)≤v9 - (1:Int)∧v9 - (1:Int)<(↑(List.length o2000000):Int)) (.e8 ((((0:Int)≤List.getD o2000000 (Int.toNat v9) (0:Int)∧List.getD o2000000 (Int.toNat v9) (0:Int)<(↑(List.length v3a):Int))∧(0:Int)≤List.getD o2000000 (Int.toNat (v9 - (1:Int))) (0:Int)∧List.getD o2000000 (Int.toNat (v9 - (1:Int))) (0:Int)<(↑(List.length v3a):Int))∧List.length v3a=List.length v3ba) (cond (decide (a4k v3a v3ba (List.getD o2000000 (Int.toNat v9) (0:Int)) q1<(0:Int))) (.e8 q2 (.e8 q2 (.e8 ((0:Int)≤v9 - (1:Int)∧v9 - (1:Int)<(↑(List.length o2000000):Int)) (.e8 ((0:Int)≤v9∧v9<(↑(List.length o2000000):Int)) (.e8 ((0:Int)≤v9∧v9<(↑(List.length o2000000):Int)) (.e8 ((0:Int)≤v9 - (1:Int)∧v9 - (1:Int)<(↑(List.length (List.set o2000000 (Int.toNat v9) q1)):Int)) (.e8 q2 (.ctL (d9 (d8 Try.prog 278) 4) (St.mk [(0,AV.at_ 2000000 []),(1,vI v1),(2,vI v2),q0,(8,vI v8),(9,vI (v9 - (1:Int)))] [(2000000,f7.own Is (List.set (List.set o2000000 (Int.toNat v9) q1) (Int.toNat (v9 - (1:Int))) (List.getD o2000000 (Int.toNat v9) (0:Int))))]))))))))) (.e8 (r9 IntKind.i64 (v8+(1:Int))) (.ctL (d9 (d8 Try.prog 278) 1) (St.mk [(0,AV.at_ 2000000 []),(1,vI v1),(2,vI v2),q0,(8,vI (v8+(1:Int)))] [(2000000,f7.own Is o2000000)])))))))) (.e8 (r9 IntKind.i64 (v8+(1:Int))) (.ctL (d9 (d8 Try.prog 278) 1) (St.mk [(0,AV.at_ 2000000 []),(1,vI v1),(2,vI v2),q0,(8,vI (v8+(1:Int)))] [(2000000,f7.own Is o2000000)]))):=by kernel_rfl
theorem b5o:b70.Valid Try.prog 278:=by
  refine w9.u7 a5V rfl rfl Try.func278 (c:=d8 Try.prog 278) rfl rfl a5O rfl ?_
  rintro ⟨(l:List Int),(a:Int),(b:Int),⟨(ls:List Int),(hs:List y8),⟨⟩⟩,⟨⟩⟩ ⟨⟨(ha:0≤a),(hb:a≤b)⟩,(h1:b.toNat≤l.length),(hok:OkL ls hs l)⟩ ⟨⟨hl,-⟩,-⟩
  have hl:l.length≤4611686018427387904:=hok.2.1.1
  obtain ⟨a,rfl⟩:=Int.eq_ofNat_of_zero_le ha
  obtain ⟨b,rfl⟩:=Int.eq_ofNat_of_zero_le (show 0≤b by omega)
  have h1:b≤l.length:=by simpa using h1
  have hb:a≤b:=by omega
  have hO:=b61 ls hs
  refine n7 (n:=1000) a5V a5O ?_
  refine g9 (c4e l (a:Int) (b:Int) ls hs) ?_
  refine ⟨l7.2 ⟨by omega,by omega⟩,fun _=>?_⟩
  have st:l=s9 (A4 ls hs) l a (min (a+1) b):=(b4V hO (by omega) (by omega)).symm
  suffices G:∀ i:Nat,a+1≤i→i≤max b (a+1)→Go.Ex.Reach a7D Try.f278 () (s9 (A4 ls hs) l a b,()) (.code (d9 (d8 Try.prog 278) 1).1::.inLoop (d9 (d8 Try.prog 278) 1).1::(d9 (d8 Try.prog 278) 1).2) (a80 (a:Int) (b:Int) ls hs (i:Int) (s9 (A4 ls hs) l a (min i b))) by
    have:=G (a+1) (by omega) (by omega)
    rw [← st] at this
    exact this
  refine fun i hi1 hi2=>Reach.C1 a5V a5O (fun i:Nat=>a80 (a:Int) (b:Int) ls hs (i:Int) (s9 (A4 ls hs) l a (min i b))) (fun i=>a+1≤i∧i≤max b (a+1)) (fun i=>b - i) 1000 (fun _=>⟨j7 rfl,j7 rfl⟩) ?_ i ⟨hi1,hi2⟩
  clear hi1 hi2 i st
  rintro i ⟨(k1:a+1≤i),(k2:i≤max b (a+1))⟩ - ih
  refine g9 (c2w ..) ?_
  simp only [i9,Tree.holds,true_and,true_implies,decide_eq_true_eq,decide_eq_false_iff_not,Bool.not_eq_true',Bool.not_eq_false',Int.toNat_natCast,l7,List.length_set,List.length_cons,List.length_nil]
  refine ⟨fun c=>?_,fun c=>?_⟩
  · have c:i<b:=by omega
    rw [show min i b=i by omega]
    refine Reach.C1 a5V a5O (fun s:Nat×List Int=>b4F (a:Int) (b:Int) ls hs (i:Int) (s.1:Int) s.2) (fun s=>a≤s.1∧s.1≤i∧a6Z (A4 ls hs) l a i s.1 s.2) (fun s=>s.1) 1000 (fun _=>⟨j7 rfl,j7 rfl⟩) ?_ (i,s9 (A4 ls hs) l a i) ⟨by show a≤i; omega,by show i≤i; omega,c1z (by omega) (by omega)⟩
    rintro ⟨j,o⟩ ⟨(m1:a≤j),(m2:j≤i),(m3:a6Z (A4 ls hs) l a i j o)⟩ - ih2
    refine g9 (c2v ..) ?_
    have hp:=c1y (by omega) (by omega) m3
    have hlen:=hp.length_eq
    have hok2:=hok.perm hp
    have next:=ih (i+1) ⟨by omega,by omega⟩ (by omega)
    simp only [i9,Tree.holds,true_and,true_implies,decide_eq_true_eq,decide_eq_false_iff_not,Bool.not_eq_true',Bool.not_eq_false',Int.toNat_natCast,l7,List.length_set,List.length_cons,List.length_nil]
    have hx:0≤o.getD j 0∧o.getD j 0<(ls.length:Int):=hok2.2.1.2 _ (P6 (by omega))
    have e1:((j:Int) - 1).toNat=j - 1:=by omega
    rw [e1]
    have hy:0≤o.getD (j - 1) 0∧o.getD (j - 1) 0<(ls.length:Int):=hok2.2.1.2 _ (P6 (by omega))
    refine ⟨fun d=>?_,fun d=>?_⟩
    · refine ⟨⟨by omega,by omega⟩,fun _=>⟨⟨by omega,by omega⟩,fun _=>⟨⟨by omega,by omega⟩,fun _=>⟨⟨⟨hx,hy⟩,hok.1⟩,fun _=>⟨fun e=>?_,fun e=>?_⟩⟩⟩⟩⟩
      · have step:=ih2 (j - 1,swp o j (j - 1)) ⟨by show a≤j - 1; omega,by show j - 1≤i; omega,c1x (by omega) (by omega) m3 (decide_eq_true e)⟩ (by show j - 1<j; omega)
        have e2:(j:Int) - 1=((j - 1:Nat):Int):=by omega
        rw [e2]
        exact ⟨by omega,fun _=>⟨by omega,fun _=>⟨by omega,fun _=>⟨by omega,fun _=>⟨by omega,fun _=>⟨by omega,fun _=>⟨by omega,fun _=>step⟩⟩⟩⟩⟩⟩⟩
      · have eo:=b6h hO (by omega) (by omega) hok.2.2 m3 (.inr (decide_eq_false e))
        rw [show min (i+1) b=i+1 by omega,← eo] at next
        exact ⟨by omega,fun _=>next⟩
    · have eo:=b6h hO (by omega) (by omega) hok.2.2 m3 (.inl (by omega))
      rw [show min (i+1) b=i+1 by omega,← eo] at next
      exact ⟨by omega,fun _=>next⟩
  · rw [show min i b=b by omega]; rfl
end Go.Proofs.Ytekbamiaenbhjaa
