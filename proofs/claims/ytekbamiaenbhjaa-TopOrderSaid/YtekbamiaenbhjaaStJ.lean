/- stableCmpFunc, SortStableFunc at int with stamp.Total's comparison. Conditions: no ties. -/
import Derived.Test.YtekbamiaenbhjaaStI
namespace Go.Proofs.Ytekbamiaenbhjaa
open Go.Ex Go.Sort
set_option maxRecDepth 100000
section
variable {lt:Int→Int→Bool} {l o:List Int} {a b n x y k bs i:Nat}
theorem a4I (hO:SWO lt) (hb:b≤l.length):G7 lt l a b↔∀ x y,a≤x→x≤y→y<b→lt (l.getD y 0) (l.getD x 0)=false:=by
  refine ⟨fun h x y h1 h2 h3=>a0J hO h hb h1 h2 h3,fun h=>?_⟩
  have hl:((l.take b).drop a).length=b - a:=by rw [List.length_drop,List.length_take]; omega
  refine List.pairwise_iff_getElem.2 (fun x y hx hy hxy=>?_)
  have g:∀ z (hz:z<((l.take b).drop a).length),((l.take b).drop a)[z]=l.getD (a+z) 0:=by
    intro z hz
    rw [List.getElem_drop,List.getElem_take,List.getD_eq_getElem?_getD,List.getElem?_eq_getElem (by omega)]; rfl
  rw [g x hx,g y hy]
  exact h _ _ (by omega) (by omega) (by omega)
theorem a0c (h:a≤b) (hb:b≤l.length) (hk:k<a∨b≤k):(s9 lt l a b).getD k 0=l.getD k 0:=by
  have l1:(l.take a).length=a:=by rw [List.length_take]; omega
  have l2:(x7 lt ((l.take b).drop a)).length=b - a:=by rw [(G8 lt _).length_eq,a8l h hb]
  rw [s9]
  rcases hk with hk|hk
  · rw [b2h (by omega),List.getD_eq_getElem?_getD,List.getD_eq_getElem?_getD,List.getElem?_take,if_pos hk]
  · rw [a4P (by omega),a4P (by omega),l1,l2,List.getD_eq_getElem?_getD,List.getD_eq_getElem?_getD,List.getElem?_drop,show b+(k - a - (b - a))=k by omega]
theorem a9f (hO:SWO lt) (h:a≤b) (hb:b≤l.length):G7 lt (s9 lt l a b) a b:=by
  have l1:(l.take a).length=a:=by rw [List.length_take]; omega
  have l2:(x7 lt ((l.take b).drop a)).length=b - a:=by rw [(G8 lt _).length_eq,a8l h hb]
  have:=a2E (l.take a) (x7 lt ((l.take b).drop a)) (l.drop b)
  rw [l1,l2,show a+(b - a)=b by omega] at this
  rw [G7,s9,this]
  exact U7 hO _
theorem a06 {x w i:Nat} (hw:0<w):x / w=i↔i*w≤x∧x<i*w+w:=by
  constructor
  · rintro rfl
    exact ⟨Nat.div_mul_le_self x w,Nat.lt_div_mul_add hw⟩
  · rintro ⟨h1,h2⟩
    exact Nat.div_eq_of_lt_le h1 (by rw [Nat.succ_mul]; exact h2)
def Blk (lt:Int→Int→Bool) (o:List Int) (bs n:Nat):Prop:=∀ x y,x≤y→y<n→x / bs=y / bs→lt (o.getD y 0) (o.getD x 0)=false
structure a1Z (lt:Int→Int→Bool) (o:List Int) (bs n a:Nat):Prop where
  lo:∀ x y,x≤y→y<n→y<a→x / (bs*2)=y / (bs*2)→lt (o.getD y 0) (o.getD x 0)=false
  hi:∀ x y,x≤y→y<n→a≤x→x / bs=y / bs→lt (o.getD y 0) (o.getD x 0)=false
theorem a47:i*(bs*2)=2*(i*bs)∧2*i*bs=2*(i*bs)∧(2*i+1)*bs=2*(i*bs)+bs:=by
  have e1:i*(bs*2)=2*(i*bs):=by rw [← Nat.mul_assoc,Nat.mul_comm]
  have e2:2*i*bs=2*(i*bs):=Nat.mul_assoc ..
  exact ⟨e1,e2,by rw [Nat.add_mul,e2,Nat.one_mul]⟩
theorem a1Z.lower (hO:SWO lt) (hb:1≤bs) (h:a1Z lt o bs n a) (ha:a=i*(bs*2)) (hn:n=o.length) (h1:a+bs≤n):G7 lt o a (a+bs):=by
  obtain ⟨e1,e2,e3⟩:=a47 (i:=i) (bs:=bs)
  refine (a4I hO (by omega)).2 (fun x y x1 x2 x3=>h.hi x y x2 (by omega) x1 ?_)
  rw [(a06 (x:=x) (i:=2*i) hb).2 ⟨by omega,by omega⟩,(a06 (x:=y) (i:=2*i) hb).2 ⟨by omega,by omega⟩]
theorem a1Z.upper (hO:SWO lt) (hb:1≤bs) (h:a1Z lt o bs n a) (ha:a=i*(bs*2)) (hn:n=o.length) (h1:b≤n) (h2:b≤a+bs*2):G7 lt o (a+bs) b:=by
  obtain ⟨e1,e2,e3⟩:=a47 (i:=i) (bs:=bs)
  refine (a4I hO (by omega)).2 (fun x y x1 x2 x3=>h.hi x y x2 (by omega) (by omega) ?_)
  rw [(a06 (x:=x) (i:=2*i+1) hb).2 ⟨by omega,by omega⟩,(a06 (x:=y) (i:=2*i+1) hb).2 ⟨by omega,by omega⟩]
theorem a1Z.put (hO:SWO lt) (hb:1≤bs) (h:a1Z lt o bs n a) (ha:a=i*(bs*2)) (hn:n=o.length) (h1:a≤b) (h2:b≤n) (h3:b=a+bs*2∨(b=n∧b<a+bs*2)):a1Z lt (s9 lt o a b) bs n b:=by
  obtain ⟨e1,e2,e3⟩:=a47 (i:=i) (bs:=bs)
  have hs:=(a4I hO (by rw [a7H h1]; omega)).1 (a9f hO (l:=o) h1 (by omega))
  refine ⟨fun x y x1 x2 x3 x4=>?_,fun x y x1 x2 x3 x4=>?_⟩
  · by_cases hy:y<a
    · rw [a0c h1 (by omega) (.inl (by omega)),a0c h1 (by omega) (.inl (by omega))]
      exact h.lo x y x1 x2 hy x4
    · have hy2:y / (bs*2)=i:=(a06 (by omega)).2 ⟨by omega,by omega⟩
      rw [hy2] at x4
      have:=(a06 (by omega)).1 x4
      exact hs x y (by omega) x1 x3
  · rw [a0c h1 (by omega) (.inr (by omega)),a0c h1 (by omega) (.inr (by omega))]
    exact h.hi x y x1 x2 (by omega) x4
theorem a1Z.done (h:a1Z lt o bs n n):Blk lt o (bs*2) n:=fun x y x1 x2 x3=>h.lo x y x1 x2 x2 x3
theorem a1Z.last (hb:1≤bs) (h:a1Z lt o bs n a) (ha:a=i*(bs*2)) (h1:n≤a+bs):Blk lt o (bs*2) n:=by
  obtain ⟨e1,e2,e3⟩:=a47 (i:=i) (bs:=bs)
  intro x y x1 x2 x3
  by_cases hy:y<a
  · exact h.lo x y x1 x2 hy x3
  · have hy2:y / (bs*2)=i:=(a06 (by omega)).2 ⟨by omega,by omega⟩
    rw [hy2] at x3
    have:=(a06 (by omega)).1 x3
    refine h.hi x y x1 x2 (by omega) ?_
    rw [(a06 (x:=x) (i:=2*i) hb).2 ⟨by omega,by omega⟩,(a06 (x:=y) (i:=2*i) hb).2 ⟨by omega,by omega⟩]
theorem Blk.start (h:Blk lt o bs n):a1Z lt o bs n 0:=⟨fun x y _ _ h=>by omega,fun x y x1 x2 _ x4=>h x y x1 x2 x4⟩
theorem Blk.end (hO:SWO lt) (h:Blk lt o bs n) (hn:n≤bs) (hl:n=o.length) (hp:o.Perm l) (ht:∀ a∈l,∀ b∈l,lt a b=false→lt b a=false→a=b):o=x7 lt l:=by
  refine Y6 hO hp ?_ ht
  have:=(a4I (l:=o) (a:=0) (b:=o.length) hO (Nat.le_refl _)).2 (fun x y _ x2 x3=>h x y x2 (by omega) (by rw [Nat.div_eq_of_lt (by omega),Nat.div_eq_of_lt (by omega)]))
  rw [G7,List.take_length,List.drop_zero] at this
  exact this
end
def c4G:w9:={ ps:=[.mu i5,.v i5,.v i5,.v i5,.s4 130 [.d0 false i5,.d0 false Event]],rs:=[],pre:=fun x=>smK 1000000 x.1 x.2.1 x.2.2.1 x.2.2.2.1 x.2.2.2.2.1.1 x.2.2.2.2.1.2.1,fn:=fun _=>(),out:=fun x=>(J1 x.1 x.2.1 x.2.2.2.1 x.2.2.2.2.1.1 x.2.2.2.2.1.2.1,()) }
theorem b7O:c4G.Valid Try.prog 279:=a7V 1000000
def b7P:w9:={ ps:=[.mu i5,.v i5,.s4 130 [.d0 false i5,.d0 false Event]],rs:=[],pre:=fun x=>(x.2.1=(List.length (α:=Int) x.1:Int)∧LT.lt (α:=Int) x.2.1 1000000)∧OkL x.2.2.1.1 x.2.2.1.2.1 x.1,fn:=fun _=>(),out:=fun x=>(x7 (A4 x.2.2.1.1 x.2.2.1.2.1) x.1,()) }
noncomputable def a5R:Env:={ P:=Try.prog,tt:=tt,F2:=[(278,b70),(279,c4G)],res:=[],rs:=[],ps:=[PK.mu i5,PK.v i5,PK.s4 130 [Ty.d0 false i5,Ty.d0 false r8]],D8:=[(2,[(0,none),(1,none),(2,none),(6,none),(7,none),(8,none)]),(7,[(0,none),(1,none),(2,none),(6,none)]),(9,[(0,none),(1,none),(2,none),(6,none),(7,none),(8,none)])],nt:=63 }
theorem a3R:B6 a5R:=D0 w5 ⟨b5o,b7O,trivial⟩
theorem a3P:E3 a5R Try.f222:=⟨rfl,rfl⟩
theorem c36 (x0:List Int) (x1:Int) (x2c0:List Int) (x2c1:List (Int×Int×Int×Unit)):exec a5R 1000 [.code (d8 Try.prog 222)] (A5 b7P.ps ((x0,x1,(x2c0,x2c1,()),()))) =
  .ctL (d9 (d8 Try.prog 222) 2) (St.mk [(0,AV.at_ 2000000 []),(1,vI x1),(2,AV.s4 130 (AV.cons (AV.u5 (Ty.d0 false i5) x2c0) (AV.cons (AV.u5 (Ty.d0 false r8) x2c1) AV.nil))),(6,vI (20:Int)),(7,vI (0:Int)),(8,vI (20:Int))] [(2000000,f7.own Is x0)]):=by kernel_rfl
def b4w (v1:Int) (v2a:List Int) (v2ba:List (Int×Int×Int×Unit)) (v6:Int) (v7:Int) (v8:Int) (o2000000:List Int):St:=St.mk [(0,AV.at_ 2000000 []),(1,vI v1),(2,AV.s4 130 (AV.cons (AV.u5 (Ty.d0 false i5) v2a) (AV.cons (AV.u5 (Ty.d0 false r8) v2ba) AV.nil))),(6,vI v6),(7,vI v7),(8,vI v8)] [(2000000,f7.own Is o2000000)]
theorem c2k (v1:Int) (v2a:List Int) (v2ba:List (Int×Int×Int×Unit)) (v6:Int) (v7:Int) (v8:Int) (o2000000:List Int):exec a5R 1000 (.code (d9 (d8 Try.prog 222) 2).1::.inLoop (d9 (d8 Try.prog 222) 2).1::(d9 (d8 Try.prog 222) 2).2) (b4w v1 v2a v2ba v6 v7 v8 o2000000) =
  cond (decide (v8≤v1)) (.e8 (((0:Int)≤v7∧v7≤v8)∧Int.toNat v8≤List.length o2000000∧OkL v2a v2ba o2000000) (.e8 (r9 IntKind.i64 (v8+v6)) (.ctL (d9 (d8 Try.prog 222) 2) (St.mk [(0,AV.at_ 2000000 []),(1,vI v1),(2,AV.s4 130 (AV.cons (AV.u5 (Ty.d0 false i5) v2a) (AV.cons (AV.u5 (Ty.d0 false r8) v2ba) AV.nil))),(6,vI v6),(7,vI v8),(8,vI (v8+v6))] [(2000000,f7.own Is (s9 (A4 v2a v2ba) o2000000 (Int.toNat v7) (Int.toNat v8)))])))) (.e8 (((0:Int)≤v7∧v7≤v1)∧Int.toNat v1≤List.length o2000000∧OkL v2a v2ba o2000000) (.ctL (d9 (d8 Try.prog 222) 7) (St.mk [(0,AV.at_ 2000000 []),(1,vI v1),(2,AV.s4 130 (AV.cons (AV.u5 (Ty.d0 false i5) v2a) (AV.cons (AV.u5 (Ty.d0 false r8) v2ba) AV.nil))),(6,vI v6)] [(2000000,f7.own Is (s9 (A4 v2a v2ba) o2000000 (Int.toNat v7) (Int.toNat v1)))]))):=by kernel_rfl
def a8W (v1:Int) (v2a:List Int) (v2ba:List (Int×Int×Int×Unit)) (v6:Int) (o2000000:List Int):St:=St.mk [(0,AV.at_ 2000000 []),(1,vI v1),(2,AV.s4 130 (AV.cons (AV.u5 (Ty.d0 false i5) v2a) (AV.cons (AV.u5 (Ty.d0 false r8) v2ba) AV.nil))),(6,vI v6)] [(2000000,f7.own Is o2000000)]
theorem c2j (v1:Int) (v2a:List Int) (v2ba:List (Int×Int×Int×Unit)) (v6:Int) (o2000000:List Int):exec a5R 1000 (.code (d9 (d8 Try.prog 222) 7).1::.inLoop (d9 (d8 Try.prog 222) 7).1::(d9 (d8 Try.prog 222) 7).2) (a8W v1 v2a v2ba v6 o2000000) =
  cond (decide (v6<v1)) (.e8 (r9 IntKind.i64 ((2:Int)*v6)) (.ctL (d9 (d8 Try.prog 222) 9) (St.mk [(0,AV.at_ 2000000 []),(1,vI v1),(2,AV.s4 130 (AV.cons (AV.u5 (Ty.d0 false i5) v2a) (AV.cons (AV.u5 (Ty.d0 false r8) v2ba) AV.nil))),(6,vI v6),(7,vI (0:Int)),(8,vI ((2:Int)*v6))] [(2000000,f7.own Is o2000000)]))) (.ret ((o2000000,()))):=by kernel_rfl
def b4v (v1:Int) (v2a:List Int) (v2ba:List (Int×Int×Int×Unit)) (v6:Int) (v7:Int) (v8:Int) (o2000000:List Int):St:=St.mk [(0,AV.at_ 2000000 []),(1,vI v1),(2,AV.s4 130 (AV.cons (AV.u5 (Ty.d0 false i5) v2a) (AV.cons (AV.u5 (Ty.d0 false r8) v2ba) AV.nil))),(6,vI v6),(7,vI v7),(8,vI v8)] [(2000000,f7.own Is o2000000)]
theorem c2i (v1:Int) (v2a:List Int) (v2ba:List (Int×Int×Int×Unit)) (v6:Int) (v7:Int) (v8:Int) (o2000000:List Int):exec a5R 1000 (.code (d9 (d8 Try.prog 222) 9).1::.inLoop (d9 (d8 Try.prog 222) 9).1::(d9 (d8 Try.prog 222) 9).2) (b4v v1 v2a v2ba v6 v7 v8 o2000000) =
  cond (decide (v8≤v1)) (.e8 (r9 IntKind.i64 (v7+v6)) (.e8 (smK 1000000 o2000000 v7 (v7+v6) v8 v2a v2ba) (.e8 (r9 IntKind.i64 ((2:Int)*v6)) (.e8 (r9 IntKind.i64 (v8+(2:Int)*v6)) (.ctL (d9 (d8 Try.prog 222) 9) (St.mk [(0,AV.at_ 2000000 []),(1,vI v1),(2,AV.s4 130 (AV.cons (AV.u5 (Ty.d0 false i5) v2a) (AV.cons (AV.u5 (Ty.d0 false r8) v2ba) AV.nil))),(6,vI v6),(7,vI v8),(8,vI (v8+(2:Int)*v6))] [(2000000,f7.own Is (J1 o2000000 v7 v8 v2a v2ba))])))))) (.e8 (r9 IntKind.i64 (v7+v6)) (cond (decide (v7+v6<v1)) (.e8 (smK 1000000 o2000000 v7 (v7+v6) v1 v2a v2ba) (.e8 (r9 IntKind.i64 (v6*(2:Int))) (.ctL (d9 (d8 Try.prog 222) 7) (St.mk [(0,AV.at_ 2000000 []),(1,vI v1),(2,AV.s4 130 (AV.cons (AV.u5 (Ty.d0 false i5) v2a) (AV.cons (AV.u5 (Ty.d0 false r8) v2ba) AV.nil))),(6,vI (v6*(2:Int)))] [(2000000,f7.own Is (J1 o2000000 v7 v1 v2a v2ba))])))) (.e8 (r9 IntKind.i64 (v6*(2:Int))) (.ctL (d9 (d8 Try.prog 222) 7) (St.mk [(0,AV.at_ 2000000 []),(1,vI v1),(2,AV.s4 130 (AV.cons (AV.u5 (Ty.d0 false i5) v2a) (AV.cons (AV.u5 (Ty.d0 false r8) v2ba) AV.nil))),(6,vI (v6*(2:Int)))] [(2000000,f7.own Is o2000000)]))))):=by kernel_rfl
theorem b5g:b7P.Valid Try.prog 222:=by
  refine w9.u7 a3R rfl rfl Try.func222 (c:=d8 Try.prog 222) rfl rfl a3P rfl ?_
  rintro ⟨(l:List Int),(n:Int),⟨(ls:List Int),(hs:List y8),⟨⟩⟩,⟨⟩⟩ ⟨⟨(hn:n=(l.length:Int)),(hm:n<1000000)⟩,(hok:OkL ls hs l)⟩ -
  obtain ⟨n,rfl⟩:∃ k:Nat,n=(k:Int):=⟨l.length,hn⟩
  have hn:n=l.length:=by omega
  have hm:n<1000000:=by omega
  have hO:=b61 ls hs
  refine n7 (n:=1000) a3R a3P ?_
  refine g9 (c36 l (n:Int) ls hs) ?_
  have loop7:∀ s:Nat×List Int,(1≤s.1∧s.1≤4000000∧s.2.Perm l∧Blk (A4 ls hs) s.2 s.1 n)→Go.Ex.Reach a5R Try.f222 () (x7 (A4 ls hs) l,()) (.code (d9 (d8 Try.prog 222) 7).1::.inLoop (d9 (d8 Try.prog 222) 7).1::(d9 (d8 Try.prog 222) 7).2) (a8W (n:Int) ls hs (s.1:Int) s.2):=by
    refine Reach.C1 a3R a3P (fun s:Nat×List Int=>a8W (n:Int) ls hs (s.1:Int) s.2) (fun s=>1≤s.1∧s.1≤4000000∧s.2.Perm l∧Blk (A4 ls hs) s.2 s.1 n) (fun s=>n - s.1) 1000 (fun _=>⟨j7 rfl,j7 rfl⟩) ?_
    rintro ⟨bs,o⟩ ⟨(k1:1≤bs),(k2:bs≤4000000),(k3:o.Perm l),(k4:Blk (A4 ls hs) o bs n)⟩ - ih
    refine g9 (c2j ..) ?_
    simp only [i9,Tree.holds,true_and,true_implies,decide_eq_true_eq,decide_eq_false_iff_not,Bool.not_eq_true',Bool.not_eq_false',Int.toNat_natCast,l7,List.length_set,List.length_cons,List.length_nil]
    refine ⟨fun c=>⟨by omega,fun _=>?_⟩,fun c=>?_⟩
    · have c:bs<n:=by omega
      have e0:2*(bs:Int)=((0+bs*2:Nat):Int):=by omega
      rw [e0]
      refine Reach.C1 a3R a3P (fun s:Nat×List Int=>b4v (n:Int) ls hs (bs:Int) (s.1:Int) ((s.1+bs*2:Nat):Int) s.2) (fun s=>s.1≤n∧(∃ i,s.1=i*(bs*2))∧s.2.Perm l∧a1Z (A4 ls hs) s.2 bs n s.1) (fun s=>n - s.1) 1000 (fun _=>⟨j7 rfl,j7 rfl⟩) ?_ (0,o) ⟨Nat.zero_le _,⟨0,by simp⟩,k3,k4.start⟩
      rintro ⟨a,q⟩ ⟨(m1:a≤n),⟨i,(m2:a=i*(bs*2))⟩,(m3:q.Perm l),(m4:a1Z (A4 ls hs) q bs n a)⟩ - ih2
      refine g9 (c2i ..) ?_
      have hq:=m3.length_eq
      have hokq:=hok.perm m3
      have e1:(a:Int)+(bs:Int)=((a+bs:Nat):Int):=by omega
      have e2:((a+bs*2:Nat):Int)+2*(bs:Int)=((a+bs*2+bs*2:Nat):Int):=by omega
      have e3:(bs:Int)*2=((bs*2:Nat):Int):=by omega
      rw [e1,e2,e3]
      simp only [i9,Tree.holds,true_and,true_implies,decide_eq_true_eq,decide_eq_false_iff_not,Bool.not_eq_true',Bool.not_eq_false',Int.toNat_natCast,l7,List.length_set,List.length_cons,List.length_nil,smK,J1]
      refine ⟨fun d=>?_,fun d=>⟨by omega,fun _=>⟨fun d2=>?_,fun d2=>⟨by omega,fun _=>?_⟩⟩⟩⟩
      · have d:a+bs*2≤n:=by omega
        have next:=ih2 (a+bs*2,s9 (A4 ls hs) q a (a+bs*2)) ⟨d,⟨i+1,by show a+bs*2=(i+1)*(bs*2); rw [Nat.succ_mul,m2]⟩,(X4 (by omega)).trans m3,m4.put hO k1 m2 (by omega) (by omega) d (.inl rfl)⟩ (by show n - (a+bs*2)<n - a; omega)
        exact ⟨by omega,fun _=>⟨⟨⟨⟨by omega,by omega,by omega⟩,by omega,hokq⟩,⟨m4.lower hO k1 m2 (by omega) (by omega),m4.upper hO k1 m2 (by omega) d (Nat.le_refl _)⟩,by omega⟩,fun _=>⟨by omega,fun _=>⟨by omega,fun _=>next⟩⟩⟩⟩
      · have d2:a+bs<n:=by omega
        have hh:=m4.put hO k1 m2 (by omega) (b:=n) (by omega) (Nat.le_refl _) (.inr ⟨rfl,by omega⟩)
        have next:=ih (bs*2,s9 (A4 ls hs) q a n) ⟨by show 1≤bs*2; omega,by show bs*2≤4000000; omega,(X4 (by omega)).trans m3,hh.done⟩ (by show n - bs*2<n - bs; omega)
        exact ⟨⟨⟨⟨by omega,by omega,by omega⟩,by omega,hokq⟩,⟨m4.lower hO k1 m2 (by omega) (by omega),m4.upper hO k1 m2 (by omega) (Nat.le_refl _) (by omega)⟩,by omega⟩,fun _=>⟨by omega,fun _=>next⟩⟩
      · exact ih (bs*2,q) ⟨by show 1≤bs*2; omega,by show bs*2≤4000000; omega,m3,m4.last k1 m2 (by omega)⟩ (by show n - bs*2<n - bs; omega)
    · rw [k4.end hO (by omega) (by have:=k3.length_eq; omega) k3 hok.2.2]
      rfl
  refine Reach.C1 a3R a3P (fun s:Nat×List Int=>b4w (n:Int) ls hs 20 (s.1:Int) ((s.1+20:Nat):Int) s.2) (fun s=>s.1≤n∧(∃ i,s.1=i*20)∧s.2.Perm l∧∀ x y,x≤y→y<s.1→x / 20=y / 20→A4 ls hs (s.2.getD y 0) (s.2.getD x 0)=false) (fun s=>n - s.1) 1000 (fun _=>⟨j7 rfl,j7 rfl⟩) ?_ (0,l) ⟨Nat.zero_le _,⟨0,rfl⟩,List.Perm.refl _,fun x y _ h=>absurd h (Nat.not_lt_zero _)⟩
  rintro ⟨a,q⟩ ⟨(m1:a≤n),⟨i,(m2:a=i*20)⟩,(m3:q.Perm l),(m4:∀ x y,x≤y→y<a→x / 20=y / 20→A4 ls hs (q.getD y 0) (q.getD x 0)=false)⟩ - ih
  refine g9 (c2k ..) ?_
  have hq:=m3.length_eq
  have hokq:=hok.perm m3
  have e1:((a+20:Nat):Int)+20=((a+20+20:Nat):Int):=by omega
  rw [e1]
  simp only [i9,Tree.holds,true_and,true_implies,decide_eq_true_eq,decide_eq_false_iff_not,Bool.not_eq_true',Bool.not_eq_false',Int.toNat_natCast,l7,List.length_set,List.length_cons,List.length_nil]
  have put:∀ b,a≤b→b≤n→b≤a+20→∀ x y,x≤y→y<b→x / 20=y / 20→A4 ls hs ((s9 (A4 ls hs) q a b).getD y 0) ((s9 (A4 ls hs) q a b).getD x 0)=false:=by
    intro b b1 b2 b3 x y x1 x2 x3
    have hs9:=(a4I hO (by rw [a7H b1]; omega)).1 (a9f hO (l:=q) b1 (by omega))
    by_cases hy:y<a
    · rw [a0c b1 (by omega) (.inl (by omega)),a0c b1 (by omega) (.inl (by omega))]
      exact m4 x y x1 hy x3
    · exact hs9 x y (by omega) x1 x2
  refine ⟨fun d=>?_,fun d=>?_⟩
  · have d:a+20≤n:=by omega
    have next:=ih (a+20,s9 (A4 ls hs) q a (a+20)) ⟨d,⟨i+1,by show a+20=(i+1)*20; omega⟩,(X4 (by omega)).trans m3,put _ (by omega) d (Nat.le_refl _)⟩ (by show n - (a+20)<n - a; omega)
    exact ⟨⟨⟨by omega,by omega⟩,by omega,hokq⟩,fun _=>⟨by omega,fun _=>next⟩⟩
  · refine ⟨⟨⟨by omega,by omega⟩,by omega,hokq⟩,fun _=>?_⟩
    exact loop7 (20,s9 (A4 ls hs) q a n) ⟨by show 1≤20; decide,by show 20≤4000000; decide,(X4 (by omega)).trans m3,fun x y x1 x2 x3=>put n m1 (Nat.le_refl _) (by omega) x y x1 x2 x3⟩
def b3N:w9:={ ps:=[.mu i5,.s4 130 [.d0 false i5,.d0 false Event]],rs:=[],pre:=fun x=>LT.lt (α:=Nat) (List.length (α:=Int) x.1) 1000000∧OkL x.2.1.1 x.2.1.2.1 x.1,fn:=fun _=>(),out:=fun x=>(x7 (A4 x.2.1.1 x.2.1.2.1) x.1,()) }
noncomputable def b4x:Env:={ P:=Try.prog,tt:=tt,F2:=[(222,b7P)],res:=[],rs:=[],ps:=[PK.mu i5,PK.s4 130 [Ty.d0 false i5,Ty.d0 false r8]],D8:=[],nt:=9 }
theorem b1S:B6 b4x:=D0 w5 ⟨b5g,trivial⟩
theorem b1J:E3 b4x Try.f129:=⟨rfl,rfl⟩
theorem c2l (x0:List Int) (x1c0:List Int) (x1c1:List (Int×Int×Int×Unit)):exec b4x 1000 [.code (d8 Try.prog 129)] (A5 b3N.ps ((x0,(x1c0,x1c1,()),()))) =
  .e8 (((↑(List.length x0):Int)=(↑(List.length x0):Int)∧(↑(List.length x0):Int)<(1000000:Int))∧OkL x1c0 x1c1 x0) (.ret ((x7 (A4 x1c0 x1c1) x0,()))):=by kernel_rfl
theorem b3M:b3N.Valid Try.prog 129:=by
  refine w9.u7 b1S rfl rfl Try.func129 (c:=d8 Try.prog 129) rfl rfl b1J rfl ?_
  rintro ⟨(l:List Int),⟨(ls:List Int),(hs:List y8),⟨⟩⟩,⟨⟩⟩ ⟨(hm:l.length<1000000),(hok:OkL ls hs l)⟩ -
  refine n7 (n:=1000) b1S b1J ?_
  refine g9 (c2l l ls hs) ?_
  exact ⟨⟨⟨rfl,by omega⟩,hok⟩,fun _=>rfl⟩
end Go.Proofs.Ytekbamiaenbhjaa
