/- TurnOwn: the walk. -/
import Derived.Test.YtekbamiaenbhjaaOwnQ
namespace Go.Proofs.Ytekbamiaenbhjaa
open Go.Ex Go.Sort
set_option maxRecDepth 100000
theorem a7u {s:X4} (h:H4 s=0):s.2.2.1.length≤40:=by
  unfold H4 at h
  split at h
  · cases h
  split at h
  · cases h
  split at h
  · cases h
  omega
theorem b4K (s:X4) (id:Int):(S5 s id).1.2.2.1.length≤41:=by
  unfold S5
  split
  · show 0≤41; omega
  rename_i a
  have hl:=a7u (Decidable.not_not.1 a)
  split
  · show 0≤41; omega
  split
  · show 0≤41; omega
  split
  · show 0≤41; omega
  split
  · show 0≤41; omega
  show (s.2.2.1++[_]).length≤41
  rw [List.length_append]
  show s.2.2.1.length+1≤41
  omega
theorem b8g (s:X4) (id:Int) (n:M3):(fixF s id n).1.2.2.1.length≤41∧(fixF s id n).2.1.length≤41:=by
  have e0:(0:Nat)≤41:=by omega
  unfold fixF
  split
  · exact ⟨e0,e0⟩
  rename_i a
  have hl:=a7u (Decidable.not_not.1 a)
  split
  · exact ⟨e0,e0⟩
  split
  · exact ⟨e0,e0⟩
  split
  · exact ⟨e0,e0⟩
  split
  · exact ⟨e0,e0⟩
  split
  · exact ⟨e0,e0⟩
  have hx:(a0m s.2.2.1 id n).length=s.2.2.1.length:=by rw [a0m,(a0o _ _).length_eq,List.length_set]
  refine ⟨?_,?_⟩
  · have:=(List.dropWhile_sublist (l:=a0m s.2.2.1 id n) N3).length_le
    show ((a0m s.2.2.1 id n).dropWhile N3).length≤41
    omega
  · have:=(List.takeWhile_sublist (l:=a0m s.2.2.1 id n) N3).length_le
    show (((a0m s.2.2.1 id n).takeWhile N3).map (·.1)).length≤41
    rw [List.length_map]
    omega
def a0d {α β:Type} (f g:α→β) (l:List α) (i:Nat):List β:=(l.take i).map f++(l.drop i).map g
theorem a8S {α β:Type} {f g:α→β} (l:List α) (i:Nat):(a0d f g l i).length=l.length:=by
  rw [a0d,List.length_append,List.length_map,List.length_map,← List.length_append,List.take_append_drop]
theorem b6Q {α β:Type} {f g:α→β} {l:List α} {i:Nat} (h:i<l.length) (d:β) (e:α):(a0d f g l i).getD i d=g (l.getD i e):=by
  rw [List.getD_eq_getElem?_getD,a0d,List.getElem?_append_right (by rw [List.length_map,List.length_take]; omega),List.length_map,List.length_take,Nat.min_eq_left (Nat.le_of_lt h),Nat.sub_self,List.getElem?_map,List.getElem?_drop,Nat.add_zero,List.getElem?_eq_getElem h,List.getD_eq_getElem?_getD,List.getElem?_eq_getElem h]
  rfl
theorem b6P {α β:Type} {f g:α→β} {l:List α} {i:Nat} (h:i<l.length) (e:α):(a0d f g l i).set i (f (l.getD i e))=a0d f g l (i+1):=by
  rw [a0d,a0d,List.set_append_right _ _ (by rw [List.length_map,List.length_take]; omega),List.length_map,List.length_take,Nat.min_eq_left (Nat.le_of_lt h),Nat.sub_self,List.drop_eq_getElem_cons h,List.map_cons,List.set_cons_zero,List.take_add_one,List.getElem?_eq_getElem h,List.map_append,List.append_assoc,List.getD_eq_getElem?_getD,List.getElem?_eq_getElem h]
  rfl
theorem b6R {α β:Type} {f g:α→β} (l:List α):a0d f g l l.length=l.map f:=by
  rw [a0d,List.take_length,List.drop_length,List.map_nil,List.append_nil]
theorem b94 {α β:Type} {f:α→β} {l:List α} {i:Nat} (h:i<l.length) (d:β) (e:α):(l.map f).getD i d=f (l.getD i e):=by
  rw [List.getD_eq_getElem?_getD,List.getElem?_map,List.getElem?_eq_getElem h,List.getD_eq_getElem?_getD,List.getElem?_eq_getElem h]
  rfl
abbrev a3c:=Nat×List Int×List Int
abbrev b7U:a3c:=(1,[],[])
def shR (r:List Int):a3c:=(0,r,[])
def amR (r:List Int):a3c:=(2,r,[77,77,0])
theorem b92 (l:List (List Int)):List.map (msV (.d0 false s6) (.r7 s6)) l=List.map shR l:=List.map_congr_left fun _ _=>rfl
theorem b9Q (l:List (List Int)):@List.map (Ty.den (.r7 s6)) (List Int) (rdV (.r7 s6)) (List.map amR l:List a3c)=l:=by
  have:∀ m:List a3c,m=List.map amR l→@List.map (Ty.den (.r7 s6)) (List Int) (rdV (.r7 s6)) m=l:=by
    rintro m rfl
    refine Eq.trans (List.map_map (f:=amR) (g:=rdV (.r7 s6)) (l:=l)) ?_
    exact (List.map_congr_left (g:=id) fun _ _=>rfl).trans (List.map_id l)
  exact this _ rfl
def a5a (D:List a3c):Prop:=∀ d∈D,1≤d.1∧d.1≤2
theorem b9V (l:List (List Int)):a5a (l.map amR):=by
  intro d hd
  obtain ⟨e,_,rfl⟩:=List.mem_map.1 hd
  exact ⟨by show 1≤2; omega,Nat.le_refl 2⟩
theorem a5a.set {D:List a3c} (h:a5a D) (i:Nat) {d:a3c} (hd:1≤d.1∧d.1≤2):a5a (D.set i d):=by
  intro e he
  rcases List.mem_or_eq_of_mem_set he with h1|h1
  · exact h e h1
  · rw [h1]; exact hd
theorem a5a.get {D:List a3c} (h:a5a D) {i:Nat} (hi:i<D.length):1≤(D.getD i b7U).1∧(D.getD i b7U).1≤2:=by
  refine h _ ?_
  rw [List.getD_eq_getElem?_getD,List.getElem?_eq_getElem hi]
  exact List.getElem_mem hi
theorem a0Q {α:Type} {f:α→Nat} (h:∀ x,1≤f x):∀ l:List α,l.length≤J4 f l
  | []=>by simp [J4]
  | x::l=>by have h1:=h x; have h2:=a0Q h l; simp only [J4,List.length_cons]; omega
theorem a7w {α:Type} {f:α→Nat}:∀ {l:List α} {x:α},x∈l→f x≤J4 f l
  | [],x,h=>by cases h
  | y::l,x,h=>by
    rcases List.mem_cons.1 h with rfl|h
    · simp only [J4]; omega
    · have:=a7w (f:=f) h; simp only [J4]; omega
theorem b7O:(Z7 (1,0,[[]],[],[0],()) (1,0,5,())).1.2.2.1.length=1:=by decide +kernel
attribute [local irreducible] Z7 S5 fixF
abbrev tU (tn th:Int) (W:List (List Int)) (lg td:List Int) (b1 b2 b3:Int):O5:=(Z7 (tn,th,W,lg,td,()) (b1,b2,b3,())).1
theorem b4p {W:List (List Int)} {lg td:List Int} (tn th b1 b2 b3:Int) (hW:W.length≤1048576) (hlg:lg.length≤1048576) (htd:td.length≤1048576) (hL:∀ r∈W,r.length≤1048576) :
    Ex.Reach a0E Try.f11 (true,()) (b4T.b4L [a2a,s6,a1x,a3b]) (.code (i5 (d9 Try.prog 11) 18).1::.inLoop (i5 (d9 Try.prog 11) 18).1::(i5 (d9 Try.prog 11) 18).2)
      (a2C (W.length:Int) ((0:Nat):Int) tn th W lg td b1 b2 b3 tn th (a0d amR shR W 0) 0 lg [] 0 td []):=by
  refine Reach.N1 a0w a0v (fun i:Nat=>a2C (W.length:Int) (i:Int) tn th W lg td b1 b2 b3 tn th (a0d amR shR W i) 0 lg [] 0 td []) (fun i=>i≤W.length) (fun i=>W.length - i) 1000 (fun _=>⟨x4 rfl,x4 rfl⟩) ?_ 0 (Nat.zero_le _)
  rintro i (k1:i≤W.length) - ih
  refine j9 (b2B ..) ?_
  simp only [s4,Tree.holds,true_and,true_implies,decide_eq_true_eq,decide_eq_false_iff_not,Bool.not_eq_true',Bool.not_eq_false',Int.toNat_natCast,x5,List.length_set,List.length_cons,List.length_nil]
  refine ⟨fun c=>?_,fun c=>?_⟩
  · have hi:i<W.length:=by omega
    have next:=ih (i+1) hi (by omega)
    rw [← b6P hi []] at next
    have eg:(a0d amR shR W i).getD i (1,[],[])=shR (W.getD i []):=b6Q hi _ _
    simp only [eg]
    exact ⟨by rw [a8S]; omega,fun _=>⟨hL _ (b0R hi),fun _=>⟨by rw [a8S]; omega,fun _=>⟨by omega,fun _=>next⟩⟩⟩⟩
  obtain rfl:i=W.length:=by omega
  simp only [b6R,List.length_map]
  rw [b9Q]
  refine ⟨hlg,fun _=>⟨htd,fun _=>?_⟩⟩
  refine Reach.N1 a0w a0v (fun i:Nat=>a5h (W.length:Int) (i:Int) tn th W lg td tn th (W.map amR) 2 lg [77,77,0] 2 td [77,77,0] (tU tn th W lg td b1 b2 b3).1 (tU tn th W lg td b1 b2 b3).2.1 (tU tn th W lg td b1 b2 b3).2.2.1 (tU tn th W lg td b1 b2 b3).2.2.2.1 (tU tn th W lg td b1 b2 b3).2.2.2.2.1 (tU tn th W lg td b1 b2 b3).1 (tU tn th W lg td b1 b2 b3).2.1 (tU tn th W lg td b1 b2 b3).2.2.1 (tU tn th W lg td b1 b2 b3).2.2.2.1 (tU tn th W lg td b1 b2 b3).2.2.2.2.1) (fun i=>i≤W.length) (fun i=>W.length - i) 1000 (fun _=>⟨x4 rfl,x4 rfl⟩) ?_ 0 (Nat.zero_le _)
  clear ih
  rintro i (k1:i≤W.length) - ih
  refine j9 (b2A ..) ?_
  generalize tU tn th W lg td b1 b2 b3=u at *
  simp only [s4,Tree.holds,true_and,true_implies,decide_eq_true_eq,decide_eq_false_iff_not,Bool.not_eq_true',Bool.not_eq_false',Int.toNat_natCast,x5,List.length_set,List.length_cons,List.length_nil]
  refine ⟨fun c=>?_,fun c=>?_⟩
  · have hi:i<W.length:=by omega
    have next:=ih (i+1) hi (by omega)
    have eg:(W.map amR).getD i (1,[],[])=amR (W.getD i []):=b94 hi _ _
    simp only [eg]
    refine ⟨by rw [List.length_map]; omega,fun _=>⟨by omega,fun _=>⟨⟨rfl,by show 2≤3; omega,hL _ (b0R hi)⟩,fun _=>⟨fun q=>?_,fun _=>⟨by omega,fun _=>next⟩⟩⟩⟩⟩
    exfalso
    revert q
    show (decide (W.getD i []=W.getD i []) && (decide (List.getD [(77:Int),77,0] 0 0=77) && decide (List.getD [(77:Int),77,0] 1 0=77)))=false→False
    simp
  obtain rfl:i=W.length:=by omega
  refine ⟨⟨by omega,hlg⟩,fun _=>⟨fun q=>absurd q (by decide),fun _=>⟨⟨by omega,htd⟩,fun _=>⟨fun q=>absurd q (by decide),fun _=>?_⟩⟩⟩⟩
  simp only [List.length_map]
  refine Reach.N1 a0w a0v (fun x:Nat×List a3c=>a5g (W.length:Int) (x.1:Int) tn th x.2 2 lg [77,77,0] 2 td [77,77,0] u.1 u.2.1 u.2.2.1 u.2.2.2.1 u.2.2.2.2.1 u.1 u.2.1 u.2.2.1 u.2.2.2.1 u.2.2.2.2.1) (fun x=>x.1≤W.length∧x.2.length=W.length∧a5a x.2) (fun x=>W.length - x.1) 1000 (fun _=>⟨x4 rfl,x4 rfl⟩) ?_ (0,W.map amR) ⟨Nat.zero_le _,List.length_map ..,b9V W⟩
  clear ih
  rintro ⟨i,D⟩ ⟨(k1:i≤W.length),(k2:D.length=W.length),(k3:a5a D)⟩ - ih
  refine j9 (b2z ..) ?_
  simp only [s4,Tree.holds,true_and,true_implies,decide_eq_true_eq,decide_eq_false_iff_not,Bool.not_eq_true',Bool.not_eq_false',Int.toNat_natCast,x5,List.length_set,List.length_cons,List.length_nil]
  have two:(1≤2∧2≤2)∧True:=⟨⟨by omega,Nat.le_refl 2⟩,trivial⟩
  refine ⟨fun c=>⟨by omega,fun _=>⟨⟨k3.get (by omega),trivial⟩,fun _=>⟨by omega,fun _=>?_⟩⟩⟩,fun c=>⟨two,fun _=>⟨two,fun _=>?_⟩⟩⟩
  · exact ih (i+1,D.set i (1,List.replicate (D.getD i b7U).2.1.length 5,[])) ⟨by show i+1≤W.length; omega,by rw [List.length_set]; exact k2,k3.set i ⟨by show 1≤1; omega,by show 1≤2; omega⟩⟩ (by show W.length - (i+1)<W.length - i; omega)
  · exact congrArg (fun b=>(b,())) (b2E _)
end Go.Proofs.Ytekbamiaenbhjaa
