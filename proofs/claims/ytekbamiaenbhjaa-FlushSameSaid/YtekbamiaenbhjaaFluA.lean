/- flush.clone, Tell, Fall. No condition but those named. -/
import Derived.Test.YtekbamiaenbhjaaFlush
namespace Go.Proofs.Ytekbamiaenbhjaa
open Go.Ex
set_option maxRecDepth 100000
abbrev b55:=Nat×(List Int×List Int)
def a7D (l:List Int):b55:=(1,l,[])
def a9U (f:K5):R3×Int×List b55×Unit:=(f.1,f.2.1,f.2.2.1.map a7D,())
def b2s:D4:={ ps:=[.v a39],rs:=[a7r],pre:=fun x=>∀ l∈(show List (List Int) from x.1.2.2.1),l.length≤1048576,fn:=fun x=>(a9U x.1,()),out:=fun _=>() }
noncomputable def a5A:Env:={ P:=Try.prog,tt:=tt,G8:=[(78,b3z)],res:=[Go.ResultVar.cell 2 27],rs:=[Ty.pair (Ty.pair (Ty.int IntKind.i64) (Ty.pair (Ty.int IntKind.u8) Ty.unit)) (Ty.pair (Ty.int IntKind.u8) (Ty.pair (Ty.arr 6 (Ty.r7 (Ty.int IntKind.i64))) Ty.unit))],ps:=[PK.v (Ty.pair (Ty.pair (Ty.int IntKind.i64) (Ty.pair (Ty.int IntKind.u8) Ty.unit)) (Ty.pair (Ty.int IntKind.u8) (Ty.pair (Ty.arr 6 (Ty.d0 false (Ty.int IntKind.i64))) Ty.unit)))],J6:=[(2,[(1,some a7r),(2,some a7r),(6,none),(7,none)])],nt:=18 }
theorem a4c:H8 a5A:=L9 w7 ⟨a7h,trivial⟩
theorem a4a:L7 a5A Try.f123:=⟨rfl,rfl⟩
theorem b5i (x0_1_1:Int) (x0_1_2_1:Int) (x0_2_1:Int) (x0_2_2_1:List (List Int)):exec a5A 1000 [.code (g9 Try.prog 123)] (G9 b2s.ps ((((x0_1_1,x0_1_2_1,()),x0_2_1,x0_2_2_1,()),()))) =
  .cut (j8 (g9 Try.prog 123) 2).1 (j8 (g9 Try.prog 123) 2).2 (St.mk [(1,AV.ptr 1 []),(2,AV.ptr 2 []),(6,AV.val (Ty.arr 6 (Ty.d0 false (Ty.int IntKind.i64))) x0_2_2_1),(7,AV.val (Ty.int IntKind.i64) (0:Int))] [(1,f9.var (Ty.pair (Ty.pair (Ty.int IntKind.i64) (Ty.pair (Ty.int IntKind.u8) Ty.unit)) (Ty.pair (Ty.int IntKind.u8) (Ty.pair (Ty.arr 6 (Ty.r7 (Ty.int IntKind.i64))) Ty.unit))) ((x0_1_1,x0_1_2_1,()),x0_2_1,List.map (msV (Ty.d0 false (Ty.int IntKind.i64)) (Ty.r7 J3)) x0_2_2_1,())),(2,f9.var (Ty.pair (Ty.pair (Ty.int IntKind.i64) (Ty.pair (Ty.int IntKind.u8) Ty.unit)) (Ty.pair (Ty.int IntKind.u8) (Ty.pair (Ty.arr 6 (Ty.r7 (Ty.int IntKind.i64))) Ty.unit))) (((0:Int),(0:Int),()),(0:Int),List.map (msV Is (Ty.r7 J3)) [[],[],[],[],[],[]],()))]):=by kernel_rfl
def a7t (v6:List (List Int)) (v7:Int) (o1_1_1:Int) (o1_1_2_1:Int) (o1_2_1:Int) (o1_2_2_1:List (Nat×List Int×List Int)) (o2_1_1:Int) (o2_1_2_1:Int) (o2_2_1:Int) (o2_2_2_1:List (Nat×List Int×List Int)):St:=St.mk [(1,AV.ptr 1 []),(2,AV.ptr 2 []),(6,AV.val (Ty.arr 6 (Ty.d0 false (Ty.int IntKind.i64))) v6),(7,AV.val (Ty.int IntKind.i64) v7)] [(1,f9.var (Ty.pair (Ty.pair (Ty.int IntKind.i64) (Ty.pair (Ty.int IntKind.u8) Ty.unit)) (Ty.pair (Ty.int IntKind.u8) (Ty.pair (Ty.arr 6 (Ty.r7 (Ty.int IntKind.i64))) Ty.unit))) ((o1_1_1,o1_1_2_1,()),o1_2_1,o1_2_2_1,())),(2,f9.var (Ty.pair (Ty.pair (Ty.int IntKind.i64) (Ty.pair (Ty.int IntKind.u8) Ty.unit)) (Ty.pair (Ty.int IntKind.u8) (Ty.pair (Ty.arr 6 (Ty.r7 (Ty.int IntKind.i64))) Ty.unit))) ((o2_1_1,o2_1_2_1,()),o2_2_1,o2_2_2_1,()))]
theorem b32 (v6:List (List Int)) (v7:Int) (o1_1_1:Int) (o1_1_2_1:Int) (o1_2_1:Int) (o1_2_2_1:List (Nat×List Int×List Int)) (o2_1_1:Int) (o2_1_2_1:Int) (o2_2_1:Int) (o2_2_2_1:List (Nat×List Int×List Int)):exec a5A 1000 (.code (j8 (g9 Try.prog 123) 2).1::.inLoop (j8 (g9 Try.prog 123) 2).1::(j8 (g9 Try.prog 123) 2).2) (a7t v6 v7 o1_1_1 o1_1_2_1 o1_2_1 o1_2_2_1 o2_1_1 o2_1_2_1 o2_2_1 o2_2_2_1) =
  cond (decide (v7<(6:Int))) (.n8 ((0:Int)≤v7∧v7<(↑6:Int)) (.n8 (List.length (List.getD v6 (Int.toNat v7) [])≤1048576) (.n8 ((0:Int)≤v7∧v7<(↑6:Int)) (.n8 (A4 IntKind.i64 (v7+(1:Int))) (.cut (j8 (g9 Try.prog 123) 2).1 (j8 (g9 Try.prog 123) 2).2 (St.mk [(1,AV.ptr 1 []),(2,AV.ptr 2 []),(6,AV.val (Ty.arr 6 (Ty.d0 false (Ty.int IntKind.i64))) v6),(7,AV.val (Ty.int IntKind.i64) (v7+(1:Int)))] [(1,f9.var (Ty.pair (Ty.pair (Ty.int IntKind.i64) (Ty.pair (Ty.int IntKind.u8) Ty.unit)) (Ty.pair (Ty.int IntKind.u8) (Ty.pair (Ty.arr 6 (Ty.r7 (Ty.int IntKind.i64))) Ty.unit))) ((o1_1_1,o1_1_2_1,()),o1_2_1,List.set o1_2_2_1 (Int.toNat v7) (1,List.getD v6 (Int.toNat v7) [],[]),())),(2,f9.var (Ty.pair (Ty.pair (Ty.int IntKind.i64) (Ty.pair (Ty.int IntKind.u8) Ty.unit)) (Ty.pair (Ty.int IntKind.u8) (Ty.pair (Ty.arr 6 (Ty.r7 (Ty.int IntKind.i64))) Ty.unit))) ((o2_1_1,o2_1_2_1,()),o2_2_1,o2_2_2_1,()))])))))) (.ret ((((o1_1_1,o1_1_2_1,()),o1_2_1,o1_2_2_1,()),()))):=by kernel_rfl
theorem a82:b2s.Valid Try.prog 123:=by
  refine D4.F1 a4c rfl rfl Try.func123 (c:=g9 Try.prog 123) rfl rfl a4a rfl ?_
  rintro ⟨⟨⟨(num:Int),(M:Int),⟨⟩⟩,(g:Int),(T:List (List Int)),⟨⟩⟩,⟨⟩⟩ hp ⟨⟨-,-,⟨(hT:T.length=6),-⟩,-⟩,-⟩
  have hp:∀ l∈T,l.length≤1048576:=hp
  refine r8 (n:=1000) a4c a4a ?_
  refine s5 (b5i num M g T) ?_
  refine Reach.Z9 a4c a4a (fun q:Nat×List b55=>a7t T (q.1:Int) num M g q.2 0 0 0 (List.map (msV (Ty.d0 true (Ty.int .i64)) (Ty.r7 J3)) [[],[],[],[],[],[]])) (fun q=>q.1≤6∧q.2.length=6∧∀ j,j<q.1→q.2.getD j (0,[],[])=a7D (T.getD j [])) (fun q=>6 - q.1) 1000 (fun _=>⟨A3 rfl,A3 rfl⟩) ?_ (0,List.map (msV (Ty.d0 false (Ty.int .i64)) (Ty.r7 J3)) T) ⟨Nat.zero_le _,by rw [List.length_map]; exact hT,fun j hj=>absurd hj (Nat.not_lt_zero _)⟩
  rintro ⟨i,L⟩ ⟨(k1:i≤6),(k2:L.length=6),(k3:∀ j,j<i→L.getD j (0,[],[])=a7D (T.getD j []))⟩ - ih
  refine s5 (b32 ..) ?_
  simp only [x6,Tree.holds,true_and,true_implies,decide_eq_true_eq,decide_eq_false_iff_not,Bool.not_eq_true',Bool.not_eq_false',Int.toNat_natCast,F8,List.length_set,List.length_cons,List.length_nil]
  refine ⟨fun c=>⟨by omega,fun _=>⟨hp _ (a9P (by omega)),fun _=>⟨by omega,fun _=>⟨by omega,fun _=>ih (i+1,L.set i (1,T.getD i [],[])) ⟨by show i+1≤6; omega,by show (L.set _ _).length=6; rw [List.length_set]; exact k2,fun j hj=>?_⟩ (by show 6 - (i+1)<6 - i; omega)⟩⟩⟩⟩,fun c=>?_⟩
  · have hj:j<i+1:=hj
    show (L.set i (1,T.getD i [],[])).getD j (0,[],[])=_
    rw [T1 (by omega)]
    by_cases e:j=i
    · subst e; rw [if_pos rfl]; rfl
    · rw [if_neg e]; exact k3 j (by omega)
  · have e:L=T.map a7D:=eq_of_getD (d:=(0,[],[])) (by rw [List.length_map]; omega) (fun j hj=>by rw [k3 j (by omega),getD_map' (d':=[]) (by omega)])
    show (((num,M,()),g,L,()),())=(a9U ((num,M,()),g,T,()),())
    rw [e]; rfl
def b4Z:D4:={ ps:=[.v a39],rs:=[a3q],pre:=fun x=>∀ l∈(show List (List Int) from x.1.2.2.1),l.length≤1048576,fn:=fun x=>(x.1,()),out:=fun _=>() }
theorem b6S {H:Array Go.Obj} {S:Nat→Prop} {f:K5} {O:List Nat} {cs:List Value} (h:d9 H S a7r O cs (a9U f)):d9 H S a3q O cs f:=by
  obtain ⟨v,g,T,⟨⟩⟩:=f
  obtain ⟨P1,P2,e,r1,P3,P4,e',r2,P5,P6,e'',⟨hl,hr⟩,r4⟩:=h
  refine ⟨P1,P2,e,r1,P3,P4,e',r2,P5,P6,e'',⟨?_,i5.b7G (f:=a7D) (fun _ _ _ h=>h) hr⟩,r4⟩
  have hl:(T.map a7D).length=6:=hl
  rw [List.length_map] at hl
  exact hl
theorem b0f:b4Z.Valid Try.prog 123:=a82.conv (rs':=[a3q]) (fn':=fun x=>(x.1,())) (fun x _ H S O us ⟨v,us',O1,O2,cs,e1,e2,e3,h1,h2⟩=>⟨v,us',O1,O2,cs,e1,e2,e3,b6S (f:=x.1) h1,h2⟩)
def flv (f:K5) (p:Int):Int:=R5 .u8 (p8 .u8 f.1.2.1 f.2.1 / 2^min (Int.toNat p) (IntKind.bits .u8)) 1
def a9c (f:K5) (p m:Int):K5×Int×Unit :=
  if B9 f≠0 then (N6,B9 f,()) else if inF p 0 5=false then (N6,1,()) else if a6i m=false then (N6,1,())
  else if flv f p=0 then (N6,11,()) else if m∈f.2.2.1.getD p.toNat [] then (N6,7,()) else ((f.1,f.2.1,f.2.2.1.set p.toNat (f.2.2.1.getD p.toNat []++[m]),()),0,())
def b0a:D4:={ ps:=[.v a39,.v J3,.v J3],rs:=[a3q,J3],pre:=fun _=>True,fn:=fun x=>a9c x.1 x.2.1 x.2.2.1,out:=fun _=>() }
def b0c:D4:={ ps:=[.v J3],rs:=[.bool],pre:=fun _=>True,fn:=fun x=>(inF x.1 0 5,()),out:=fun _=>() }
noncomputable def b0H:Env:={ P:=Try.prog,tt:=tt,G8:=[(219,b3v)],res:=[Go.ResultVar.tmp 2],rs:=[Ty.bool],ps:=[PK.v (Ty.int IntKind.i64)],J6:=[],nt:=5 }
theorem a8N:H8 b0H:=L9 w7 ⟨a7g,trivial⟩
theorem a8I:L7 b0H Try.f122:=⟨rfl,rfl⟩
theorem b6c (x0:Int):exec b0H 1000 [.code (g9 Try.prog 122)] (G9 b0c.ps ((x0,()))) =
  .n8 (True) (.ret ((inF x0 (0:Int) (5:Int),()))):=by kernel_rfl
theorem b0b:b0c.Valid Try.prog 122:=by
  refine D4.F1 a8N rfl rfl Try.func122 (c:=g9 Try.prog 122) rfl rfl a8I rfl ?_
  rintro ⟨(m:Int),⟨⟩⟩ - -
  refine r8 (n:=1000) a8N a8I ?_
  refine s5 (b6c m) ?_
  exact ⟨trivial,fun _=>rfl⟩
noncomputable def b0G:Env:={ P:=Try.prog,tt:=tt,G8:=[(17,a3m),(124,a9e),(122,b0c),(48,a4S),(123,b4Z)],res:=[Go.ResultVar.cell 6 27,Go.ResultVar.tmp 7],rs:=[Ty.pair (Ty.pair (Ty.int IntKind.i64) (Ty.pair (Ty.int IntKind.u8) Ty.unit)) (Ty.pair (Ty.int IntKind.u8) (Ty.pair (Ty.arr 6 Is) Ty.unit)),Ty.int IntKind.i64],ps:=[PK.v (Ty.pair (Ty.pair (Ty.int IntKind.i64) (Ty.pair (Ty.int IntKind.u8) Ty.unit)) (Ty.pair (Ty.int IntKind.u8) (Ty.pair (Ty.arr 6 (Ty.d0 false (Ty.int IntKind.i64))) Ty.unit))),PK.v (Ty.int IntKind.i64),PK.v (Ty.int IntKind.i64)],J6:=[],nt:=59 }
theorem a8M:H8 b0G:=L9 w7 ⟨a1F,a5R,b0b,a2o,b0f,trivial⟩
theorem a8H:L7 b0G Try.f16:=⟨rfl,rfl⟩
theorem b6b (x0_1_1:Int) (x0_1_2_1:Int) (x0_2_1:Int) (x0_2_2_1:List (List Int)) (x1:Int) (x2:Int):exec b0G 1000 [.code (g9 Try.prog 16)] (G9 b0a.ps ((((x0_1_1,x0_1_2_1,()),x0_2_1,x0_2_2_1,()),x1,x2,()))) =
  .n8 (True) (cond (decide (B9 ((x0_1_1,x0_1_2_1,()),x0_2_1,x0_2_2_1,())≠(0:Int))) (.ret (((((0:Int),(0:Int),()),(0:Int),[[],[],[],[],[],[]],()),B9 ((x0_1_1,x0_1_2_1,()),x0_2_1,x0_2_2_1,()),()))) (.n8 (True) (cond (!inF x1 (0:Int) (5:Int)) (.ret (((((0:Int),(0:Int),()),(0:Int),[[],[],[],[],[],[]],()),(1:Int),()))) (.n8 (True) (cond (!a6i x2) (.ret (((((0:Int),(0:Int),()),(0:Int),[[],[],[],[],[],[]],()),(1:Int),()))) (.n8 ((0:Int)≤x1) (cond (decide (R5 IntKind.u8 (p8 IntKind.u8 x0_1_2_1 x0_2_1 / (2:Int)^min (Int.toNat x1) (IntKind.bits IntKind.u8)) (1:Int)=(0:Int))) (.ret (((((0:Int),(0:Int),()),(0:Int),[[],[],[],[],[],[]],()),(11:Int),()))) (.n8 ((0:Int)≤x1∧x1<(↑6:Int)) (.n8 (True) (cond (decide (x2∈List.getD x0_2_2_1 (Int.toNat x1) [])) (.ret (((((0:Int),(0:Int),()),(0:Int),[[],[],[],[],[],[]],()),(7:Int),()))) (.n8 (∀ (l:List Int),l∈x0_2_2_1→List.length l≤1048576) (.n8 ((0:Int)≤x1∧x1<(↑6:Int)) (.n8 (True∧((0:Int)≤x1∧x1<(↑6:Int))∧[]++[Step.i9 2]++[Step.idx x1]=[]++[Step.i9 2]++[Step.idx x1]∧List.length (List.getD x0_2_2_1 (Int.toNat x1) [])+List.length (List.set [(0:Int)] (Int.toNat (↑0:Int)) x2)≤140737488355328∧(List.length (List.getD x0_2_2_1 (Int.toNat x1) [])+List.length (List.set [(0:Int)] (Int.toNat (↑0:Int)) x2))*Ty.wb (Ty.int IntKind.i64)≤140737488355328) (.ret ((((x0_1_1,x0_1_2_1,()),x0_2_1,List.set x0_2_2_1 (Int.toNat x1) (List.getD x0_2_2_1 (Int.toNat x1) []++List.set [(0:Int)] (Int.toNat (↑0:Int)) x2),()),(0:Int),())))))))))))))))):=by kernel_rfl
theorem b5p {v:R3} {g:Int} {T:List (List Int)} (hT:T.length=6) (h:B9 (v,g,T,())=0):∀ l∈T,l.length≤30:=fun l hl=>by
  obtain ⟨i,hi,rfl⟩:=a9I (d:=[]) hl
  exact a3V h (by omega)
theorem a99:b0a.Valid Try.prog 16:=by
  refine D4.F1 a8M rfl rfl Try.func16 (c:=g9 Try.prog 16) rfl rfl a8H rfl ?_
  rintro ⟨⟨⟨(num:Int),(M:Int),⟨⟩⟩,(g:Int),(T:List (List Int)),⟨⟩⟩,(p:Int),(m:Int),⟨⟩⟩ - ⟨⟨-,-,⟨(hT:T.length=6),-⟩,-⟩,-⟩
  refine r8 (n:=1000) a8M a8H ?_
  refine s5 (b6b num M g T p m) ?_
  have key:∀ {x:K5×Int×Unit},a9c ((num,M,()),g,T,()) p m=x→x=a9c ((num,M,()),g,T,()) p m:=fun h=>h.symm
  have hd:a9c ((num,M,()),g,T,()) p m=if B9 ((num,M,()),g,T,())≠0 then (N6,B9 ((num,M,()),g,T,()),()) else if inF p 0 5=false then (N6,1,()) else if a6i m=false then (N6,1,())
    else if R5 .u8 (p8 .u8 M g / 2^min (Int.toNat p) (IntKind.bits .u8)) 1=0 then (N6,11,()) else if m∈T.getD p.toNat [] then (N6,7,()) else (((num,M,()),g,T.set p.toNat (T.getD p.toNat []++[m]),()),0,()):=rfl
  simp only [x6,Tree.holds,true_and,true_implies,decide_eq_true_eq,decide_eq_false_iff_not,Bool.not_eq_true',Bool.not_eq_false',Int.toNat_natCast,F8,List.length_set,List.length_cons,List.length_nil]
  refine ⟨fun a=>key (by rw [hd,if_pos a]<;>rfl),fun a=>?_⟩
  rw [if_neg a] at hd
  have htl:=b5p hT (Decidable.not_not.1 a)
  refine ⟨fun b=>key (by rw [hd,if_pos (by simpa using b)]<;>rfl),fun b=>?_⟩
  have b:inF p 0 5=true:=by simpa using b
  rw [if_neg (by rw [b]; simp)] at hd
  have hp:=b2i.1 b
  refine ⟨fun c=>key (by rw [hd,if_pos (by simpa using c)]<;>rfl),fun c=>?_⟩
  rw [if_neg (by simpa using c)] at hd
  refine ⟨by omega,fun _=>⟨fun c=>key (by rw [hd,if_pos c]<;>rfl),fun c=>?_⟩⟩
  rw [if_neg c] at hd
  refine ⟨by omega,fun _=>⟨fun e=>key (by rw [hd,if_pos e]<;>rfl),fun e=>?_⟩⟩
  rw [if_neg e] at hd
  have hl:=htl _ (a9P (d:=[]) (show p.toNat<T.length by omega))
  refine ⟨fun l h=>Nat.le_trans (htl l h) (by decide),fun _=>⟨by omega,fun _=>⟨⟨by omega,?_,?_⟩,fun _=>key (by rw [hd]; rfl)⟩⟩⟩
  · show _+1≤_; omega
  · show (_+1)*8≤_; omega
end Go.Proofs.Ytekbamiaenbhjaa
