/- turn.Step, and runs of turns. No condition but those named. -/
import Derived.Test.YtekbamiaenbhjaaTurnP
namespace Go.Proofs.Ytekbamiaenbhjaa
open Go.Ex
set_option maxRecDepth 100000
abbrev c1N:=Int×Int×Int×Unit
theorem b9M {t:O5} {p:Nat}:a1L t p=false↔((0≤t.2.2.2.2.1.getD p 0∧t.2.2.2.2.1.getD p 0≤t.2.2.2.1.length)∧(t.2.2.1.getD p []).length≤30∧Z6 (t.2.2.1.getD p [])=false∧∀ x∈t.2.2.1.getD p [],x∉t.2.2.2.1):=by
  rw [a1L]
  simp only [Bool.or_eq_false_iff,Bool.not_eq_false',a0h,decide_eq_false_iff_not,List.any_eq_false,inC,decide_eq_true_eq,Int.not_lt]
  constructor
  · rintro ⟨⟨⟨h1,h2⟩,h3⟩,h4⟩; exact ⟨h1,by omega,h3,h4⟩
  · rintro ⟨h1,h2,h3,h4⟩; exact ⟨⟨⟨h1,by omega⟩,h3⟩,h4⟩
structure TOk (t:O5):Prop where
  n:1≤t.1∧t.1≤6
  has:0≤t.2.1∧t.2.1≤t.1 - 1
  log:t.2.2.2.1.length≤100
  want:(t.2.2.1.length:Int)=t.1
  told:(t.2.2.2.2.1.length:Int)=t.1
  nd:Z6 t.2.2.2.1=false
  row:∀ p,p<t.2.2.1.length→a1L t p=false
theorem b4r {t:O5}:V3 t=0↔TOk t:=by
  rw [V3]
  constructor
  · intro h
    split at h; · omega
    rename_i a
    split at h; · omega
    rename_i b
    split at h; · omega
    rename_i c
    split at h; · omega
    rename_i d
    split at h; · omega
    rename_i e
    split at h; · omega
    rename_i f
    split at h; · omega
    rename_i g
    exact ⟨a0h.1 (by simpa using a),a0h.1 (by simpa using b),by omega,by omega,by omega,by simpa using f,a5E.1 (by simpa using g)⟩
  · rintro ⟨h1,h2,h3,h4,h5,h6,h7⟩
    rw [if_neg (tnf (a0h.2 h1)),if_neg (tnf (a0h.2 h2)),if_neg (by omega),if_neg (by omega),if_neg (by omega),if_neg (by rw [h6]; simp),if_neg (by rw [a5E.2 h7]; simp)]
def b86 (t:O5) (p n:Int):O5:=(t.1,t.2.1,t.2.2.1.set p.toNat (t.2.2.1.getD p.toNat []++[n]),t.2.2.2.1,t.2.2.2.2.1,())
def b87 (t:O5) (p:Int):O5:=(t.1,t.2.1,t.2.2.1,t.2.2.2.1,t.2.2.2.2.1.set p.toNat (t.2.2.2.2.1.getD p.toNat 0+1),())
def Z7 (t:O5) (b:c1N):O5×Int×Int×Unit :=
  if V3 t≠0 then (tz,0,V3 t,()) else if K4 b.1 1 3=false then (tz,0,1,()) else if K4 b.2.1 0 (t.1 - 1)=false then (tz,0,1,()) else if a7R b.2.2.1=false then (tz,0,1,()) else
  if b.1=1 then (if b.2.2.1∈t.2.2.2.1 then (tz,0,7,()) else if b.2.2.1∈t.2.2.1.getD b.2.1.toNat [] then (tz,0,7,()) else (b86 t b.2.1 b.2.2.1,0,0,())) else
  if b.1=2 then (if b.2.1≠t.2.1 then (tz,0,11,()) else (b4q t,0,0,())) else
  if t.2.2.2.2.1.getD b.2.1.toNat 0=t.2.2.2.1.length then (tz,0,6,()) else (b87 t b.2.1,t.2.2.2.1.getD (t.2.2.2.2.1.getD b.2.1.toNat 0).toNat 0,0,())
def b08:w6:={ ps:=[.v a1x,.v a3b],rs:=[a93,s6,s6],pre:=fun _=>True,fn:=fun x=>Z7 x.1 x.2.1,out:=fun _=>() }
noncomputable def b1Y:Env:={ P:=Try.prog,tt:=ttT,C7:=[(181,a8i),(182,b1b),(183,a90),(184,a8h),(185,b1a),(48,a3w)],res:=[Go.ResultVar.cell 4 163,Go.ResultVar.tmp 5,Go.ResultVar.tmp 6],rs:=[Ty.pair (Ty.int IntKind.i64) (Ty.pair (Ty.int IntKind.i64) (Ty.pair (Ty.d0 true Is) (Ty.pair Is (Ty.pair Is Ty.unit)))),Ty.int IntKind.i64,Ty.int IntKind.i64],ps:=[PK.v (Ty.pair (Ty.int IntKind.i64) (Ty.pair (Ty.int IntKind.i64) (Ty.pair (Ty.d0 false (Ty.d0 false (Ty.int IntKind.i64))) (Ty.pair (Ty.d0 false (Ty.int IntKind.i64)) (Ty.pair (Ty.d0 false (Ty.int IntKind.i64)) Ty.unit))))),PK.v a3b],C5:=[],nt:=113 }
theorem a9s:B0 b1Y:=B9 a3h ⟨a9M,a32,a5U,a9L,b09,a1b,trivial⟩
theorem a9k:D0 b1Y Try.f86:=⟨rfl,rfl⟩
theorem b8E (x0_1:Int) (x0_2_1:Int) (x0_2_2_1:List (List Int)) (x0_2_2_2_1:List Int) (x0_2_2_2_2_1:List Int) (x1_1:Int) (x1_2_1:Int) (x1_2_2_1:Int):exec b1Y 1000 [.code (d9 Try.prog 86)] (y8 b08.ps (((x0_1,x0_2_1,x0_2_2_1,x0_2_2_2_1,x0_2_2_2_2_1,()),(x1_1,x1_2_1,x1_2_2_1,()),()))) =
  .f9 (True) (cond (decide (V3 (x0_1,x0_2_1,x0_2_2_1,x0_2_2_2_1,x0_2_2_2_2_1,())≠(0:Int))) (.ret ((((0:Int),(0:Int),[],[],[],()),(0:Int),V3 (x0_1,x0_2_1,x0_2_2_1,x0_2_2_2_1,x0_2_2_2_2_1,()),()))) (.f9 (True) (cond (!K4 x1_1 (1:Int) (3:Int)) (.ret ((((0:Int),(0:Int),[],[],[],()),(0:Int),(1:Int),()))) (.f9 (C3 IntKind.i64 (x0_1 - (1:Int))) (.f9 (True) (cond (!K4 x1_2_1 (0:Int) (x0_1 - (1:Int))) (.ret ((((0:Int),(0:Int),[],[],[],()),(0:Int),(1:Int),()))) (.f9 (True) (cond (!a7R x1_2_2_1) (.ret ((((0:Int),(0:Int),[],[],[],()),(0:Int),(1:Int),()))) (.f9 (List.length x0_2_2_1≤1048576∧List.length x0_2_2_2_1≤1048576∧List.length x0_2_2_2_2_1≤1048576∧∀ (i:Nat),i<List.length x0_2_2_1→List.length (List.getD x0_2_2_1 i [])≤1048576) (cond (decide (x1_1=(1:Int))) (.f9 (True) (cond (decide (x1_2_2_1∈x0_2_2_2_1)) (.ret ((((0:Int),(0:Int),[],[],[],()),(0:Int),(7:Int),()))) (.f9 ((0:Int)≤x1_2_1∧x1_2_1<(↑(List.length x0_2_2_1):Int)) (.f9 (True) (cond (decide (x1_2_2_1∈List.getD x0_2_2_1 (Int.toNat x1_2_1) [])) (.ret ((((0:Int),(0:Int),[],[],[],()),(0:Int),(7:Int),()))) (.f9 ((0:Int)≤x1_2_1∧x1_2_1<(↑(List.length x0_2_2_1):Int)) (.f9 ((0:Int)≤x1_2_1∧x1_2_1<(↑(List.length x0_2_2_1):Int)) (.f9 ([]++[Step.j6 2]++[Step.idx x1_2_1]=[]++[Step.j6 2]++[Step.idx x1_2_1]∧List.length (List.getD x0_2_2_1 (Int.toNat x1_2_1) [])+List.length (List.set [(0:Int)] (Int.toNat (↑0:Int)) x1_2_2_1)≤140737488355328∧(List.length (List.getD x0_2_2_1 (Int.toNat x1_2_1) [])+List.length (List.set [(0:Int)] (Int.toNat (↑0:Int)) x1_2_2_1))*Ty.wb (Ty.int IntKind.i64)≤140737488355328) (.ret (((x0_1,x0_2_1,List.set x0_2_2_1 (Int.toNat x1_2_1) (List.getD x0_2_2_1 (Int.toNat x1_2_1) []++List.set [(0:Int)] (Int.toNat (↑0:Int)) x1_2_2_1),x0_2_2_2_1,x0_2_2_2_2_1,()),(0:Int),(0:Int),()))))))))))) (cond (decide (x1_1=(2:Int))) (cond (decide (x1_2_1≠x0_2_1)) (.ret ((((0:Int),(0:Int),[],[],[],()),(0:Int),(11:Int),()))) (.f9 (((0:Int)≤x0_2_1∧x0_2_1≤(5:Int)∧x0_2_1<(↑(List.length x0_2_2_1):Int))∧(0:Int)<x0_1∧List.length x0_2_2_2_1≤100∧List.length (List.getD x0_2_2_1 (Int.toNat x0_2_1) [])≤30) (.ret (((x0_1,Int.tmod (x0_2_1+(1:Int)) x0_1,List.map (List.filter fun n=>!decide (n∈a0V (List.getD x0_2_2_1 (Int.toNat x0_2_1) []) x0_2_2_2_1)) x0_2_2_1,a0V (List.getD x0_2_2_1 (Int.toNat x0_2_1) []) x0_2_2_2_1,x0_2_2_2_2_1,()),(0:Int),(0:Int),()))))) (.f9 ((0:Int)≤x1_2_1∧x1_2_1<(↑(List.length x0_2_2_2_2_1):Int)) (cond (decide (List.getD x0_2_2_2_2_1 (Int.toNat x1_2_1) (0:Int)=(↑(List.length x0_2_2_2_1):Int))) (.ret ((((0:Int),(0:Int),[],[],[],()),(0:Int),(6:Int),()))) (.f9 ((0:Int)≤x1_2_1∧x1_2_1<(↑(List.length x0_2_2_2_2_1):Int)) (.f9 (C3 IntKind.i64 (List.getD x0_2_2_2_2_1 (Int.toNat x1_2_1) (0:Int)+(1:Int))) (.f9 ((0:Int)≤x1_2_1∧x1_2_1<(↑(List.length x0_2_2_2_2_1):Int)) (.f9 ((0:Int)≤x1_2_1∧x1_2_1<(↑(List.length x0_2_2_2_2_1):Int)) (.f9 ((0:Int)≤List.getD x0_2_2_2_2_1 (Int.toNat x1_2_1) (0:Int)∧List.getD x0_2_2_2_2_1 (Int.toNat x1_2_1) (0:Int)<(↑(List.length x0_2_2_2_1):Int)) (.ret (((x0_1,x0_2_1,x0_2_2_1,x0_2_2_2_1,List.set x0_2_2_2_2_1 (Int.toNat x1_2_1) (List.getD x0_2_2_2_2_1 (Int.toNat x1_2_1) (0:Int)+(1:Int)),()),List.getD x0_2_2_2_1 (Int.toNat (List.getD x0_2_2_2_2_1 (Int.toNat x1_2_1) (0:Int))) (0:Int),(0:Int),()))))))))))))))))))))):=by kernel_rfl
theorem b07:b08.Valid Try.prog 86:=by
  refine w6.t6 a9s rfl rfl Try.func86 (c:=d9 Try.prog 86) rfl rfl a9k rfl ?_
  rintro ⟨⟨(n:Int),(h:Int),(w:List (List Int)),(l:List Int),(d:List Int),⟨⟩⟩,⟨(k:Int),(p:Int),(x:Int),⟨⟩⟩,⟨⟩⟩ - -
  refine l8 (n:=1000) a9s a9k ?_
  refine j9 (b8E n h w l d k p x) ?_
  have key:∀ {y:O5×Int×Int×Unit},Z7 (n,h,w,l,d,()) (k,p,x,())=y→y=Z7 (n,h,w,l,d,()) (k,p,x,()):=fun h=>h.symm
  have hd:Z7 (n,h,w,l,d,()) (k,p,x,())=if V3 (n,h,w,l,d,())≠0 then (tz,0,V3 (n,h,w,l,d,()),()) else if K4 k 1 3=false then (tz,0,1,()) else if K4 p 0 (n - 1)=false then (tz,0,1,()) else if a7R x=false then (tz,0,1,()) else
    if k=1 then (if x∈l then (tz,0,7,()) else if x∈w.getD p.toNat [] then (tz,0,7,()) else (b86 (n,h,w,l,d,()) p x,0,0,())) else
    if k=2 then (if p≠h then (tz,0,11,()) else (b4q (n,h,w,l,d,()),0,0,())) else
    if d.getD p.toNat 0=l.length then (tz,0,6,()) else (b87 (n,h,w,l,d,()) p,l.getD (d.getD p.toNat 0).toNat 0,0,()):=rfl
  simp only [s4,Tree.holds,true_and,true_implies,decide_eq_true_eq,decide_eq_false_iff_not,Bool.not_eq_true',Bool.not_eq_false',Int.toNat_natCast,x5,List.length_set,List.length_cons,List.length_nil,b0f]
  refine ⟨fun a=>key (by rw [hd,if_pos a]<;>rfl),fun a=>?_⟩
  have hok:=b4r.1 (Decidable.not_not.1 a)
  obtain ⟨⟨o1,o2⟩,⟨o3,o4⟩,o5,o6,o7,o8,o9⟩:=hok
  simp only at o1 o2 o3 o4 o5 o6 o7 o8
  have o9:∀ i,i<w.length→((0≤d.getD i 0∧d.getD i 0≤l.length)∧(w.getD i []).length≤30∧Z6 (w.getD i [])=false∧∀ x∈w.getD i [],x∉l):=fun i hi=>b9M.1 (o9 i hi)
  rw [if_neg a] at hd
  refine ⟨fun b=>key (by rw [hd,if_pos b]<;>rfl),fun b=>⟨by omega,fun _=>?_⟩⟩
  rw [if_neg (tnf b)] at hd
  have hk:=a0h.1 b
  refine ⟨fun c=>key (by rw [hd,if_pos c]<;>rfl),fun c=>?_⟩
  rw [if_neg (tnf c)] at hd
  have hp:=a0h.1 c
  have hw:=o9 p.toNat (by omega)
  refine ⟨fun e=>key (by rw [hd,if_pos e]<;>rfl),fun e=>⟨⟨by omega,by omega,by omega,fun i hi=>by have:=(o9 i hi).2.1; omega⟩,fun _=>?_⟩⟩
  rw [if_neg (tnf e)] at hd
  refine ⟨fun f=>?_,fun f=>?_⟩
  · rw [if_pos f] at hd
    refine ⟨fun g=>key (by rw [hd,if_pos g]<;>rfl),fun g=>⟨by omega,fun _=>?_⟩⟩
    rw [if_neg g] at hd
    refine ⟨fun g=>key (by rw [hd,if_pos g]<;>rfl),fun g=>⟨by omega,fun _=>⟨by omega,fun _=>⟨by omega,fun _=>key (by rw [hd,if_neg g]<;>rfl)⟩⟩⟩⟩
  · rw [if_neg f] at hd
    refine ⟨fun g=>?_,fun g=>?_⟩
    · rw [if_pos g] at hd
      have hh:=o9 h.toNat (by omega)
      exact ⟨fun q=>key (by rw [hd,if_pos q]<;>rfl),fun q=>⟨⟨by omega,by omega,by omega,hh.2.1⟩,fun _=>key (by rw [hd,if_neg q]<;>rfl)⟩⟩
    · rw [if_neg g] at hd
      refine ⟨by omega,fun _=>⟨fun q=>key (by rw [hd,if_pos q]<;>rfl),fun q=>⟨by omega,fun _=>⟨by omega,fun _=>⟨by omega,fun _=>⟨by omega,fun _=>⟨by omega,fun _=>key (by rw [hd,if_neg q]<;>rfl)⟩⟩⟩⟩⟩⟩⟩
def ttI:List (TypeId×TI):=(53,TI.mk (.d0 true (.d0 false s6)) 24)::tt
theorem c0Q:ttI.all (a3D Try.prog)=true:=by kernel_rfl
end Go.Proofs.Ytekbamiaenbhjaa
