/- The contracts of the package over's functions. -/
import Derived.Test.YtekbamiaenbhjaaBase
namespace Go.Proofs.Ytekbamiaenbhjaa
open Go.Ex
set_option maxRecDepth 100000
abbrev v6:=Bool×Int×Int×Unit
abbrev o8:=Int×Int×Int×Unit
abbrev F7:=List v6×List o8×Unit
def a5M:u7:={ ps:=[.v A7,.v A7,.v A7],rs:=[.bool],pre:=fun _=>True,fn:=fun x=>(B1 x.1 x.2.1 x.2.2.1,()),out:=fun _=>() }
noncomputable def b6q:Env:={ P:=Try.prog,tt:=tt,D0:=[],res:=[Go.ResultVar.tmp 6],rs:=[Ty.bool],ps:=[PK.v (Ty.int IntKind.i64),PK.v (Ty.int IntKind.i64),PK.v (Ty.int IntKind.i64)],E1:=[],nt:=15 }
theorem b2V:B3 b6q:=D5 s7 trivial
theorem b2S:E9 b6q Try.f145:=⟨rfl,rfl⟩
theorem b8q (x0:Int) (x1:Int) (x2:Int):exec b6q 1000 [.code (d9 Try.prog 145)] (A3 a5M.ps ((x0,x1,x2,()))) =
  cond (decide (x1≤x0)) (.ret ((decide (x0≤x2),()))) (.ret ((false,()))):=by kernel_rfl
theorem a0F:a5M.Valid Try.prog 145:=by
  refine u7.u6 b2V rfl rfl Try.func145 (c:=d9 Try.prog 145) rfl rfl b2S rfl ?_
  rintro ⟨(a:Int),(b:Int),(c:Int),⟨⟩⟩ - -
  refine o4 (n:=1000) b2V b2S ?_
  refine n6 (b8q a b c) ?_
  simp only [o7,Tree.holds,true_and,true_implies,decide_eq_true_eq,decide_eq_false_iff_not,Bool.not_eq_true',Bool.not_eq_false',Int.toNat_natCast,r9,List.length_set,List.length_cons,List.length_nil]
  repeat' first|exact trivial|(refine And.intro ?_ ?_)|(intro _)
  all_goals (show ((_,()):Bool×Unit)=(B1 a b c,()); simp [B1, *])
def Y6 (h:v6) (p n:Int):Int:=if B1 h.2.1 (-1) (n - 1)=false then 1 else if B1 h.2.2.1 0 16777215=false then 1 else if h.2.1=p∨(p=0∧h.2.1≠-1)∨(p≠0∧h.2.1=-1∧(h.1=true∨0<h.2.2.1)) then 4 else 0
def b0w:u7:={ ps:=[.v Hand,.v A7,.v A7],rs:=[A7],pre:=fun x=>LE.le (α:=Int) 0 x.2.1∧LE.le (α:=Int) 1 x.2.2.1∧LE.le (α:=Int) x.2.2.1 1000,fn:=fun x=>(Y6 x.1 x.2.1 x.2.2.1,()),out:=fun _=>() }
noncomputable def b09:Env:={ P:=Try.prog,tt:=tt,D0:=[(145,a5M)],res:=[Go.ResultVar.tmp 6],rs:=[Ty.int IntKind.i64],ps:=[PK.v Hand,PK.v (Ty.int IntKind.i64),PK.v (Ty.int IntKind.i64)],E1:=[],nt:=52 }
theorem a8V:B3 b09:=D5 s7 ⟨a0F,trivial⟩
theorem a8M:E9 b09 Try.f231:=⟨rfl,rfl⟩
theorem b6r (x0_1:Bool) (x0_2_1:Int) (x0_2_2_1:Int) (x1:Int) (x2:Int):exec b09 1000 [.code (d9 Try.prog 231)] (A3 b0w.ps (((x0_1,x0_2_1,x0_2_2_1,()),x1,x2,()))) =
  .f9 (w9 IntKind.i64 (x2 - (1:Int))) (.f9 (True) (cond (!B1 x0_2_1 (-1:Int) (x2 - (1:Int))) (.ret (((1:Int),()))) (.f9 (True) (cond (!B1 x0_2_2_1 (0:Int) (16777215:Int)) (.ret (((1:Int),()))) (cond (decide (x0_2_1=x1)) (.ret (((4:Int),()))) (cond (decide (x1=(0:Int))) (cond (decide (x0_2_1≠(-1:Int))) (.ret (((4:Int),()))) (cond (decide (x1≠(0:Int))) (cond (decide (x0_2_1=(-1:Int))) (cond (x0_1) (.ret (((4:Int),()))) (cond (decide ((0:Int)<x0_2_2_1)) (.ret (((4:Int),()))) (.ret (((0:Int),()))))) (.ret (((0:Int),())))) (.ret (((0:Int),()))))) (cond (decide (x1≠(0:Int))) (cond (decide (x0_2_1=(-1:Int))) (cond (x0_1) (.ret (((4:Int),()))) (cond (decide ((0:Int)<x0_2_2_1)) (.ret (((4:Int),()))) (.ret (((0:Int),()))))) (.ret (((0:Int),())))) (.ret (((0:Int),())))))))))):=by kernel_rfl
theorem b0v:b0w.Valid Try.prog 231:=by
  refine u7.u6 a8V rfl rfl Try.func231 (c:=d9 Try.prog 231) rfl rfl a8M rfl ?_
  rintro ⟨⟨(b:Bool),(s:Int),(o:Int),⟨⟩⟩,(p:Int),(n:Int),⟨⟩⟩ ⟨(h0:0≤p),(h1:1≤n),(h2:n≤1000)⟩ -
  refine o4 (n:=1000) a8V a8M ?_
  refine n6 (b6r b s o p n) ?_
  have key:∀ {x:Int},x=Y6 (b,s,o,()) p n→((x,()):Int×Unit)=(Y6 (b,s,o,()) p n,()):=by rintro x rfl; rfl
  simp only [o7,Tree.holds,true_and,true_implies,decide_eq_true_eq,decide_eq_false_iff_not,Bool.not_eq_true',Bool.not_eq_false',Int.toNat_natCast,r9,List.length_set,List.length_cons,List.length_nil]
  refine ⟨by omega,fun _=>⟨fun a=>key (by rw [Y6,if_pos a]),fun a=>⟨fun c=>key (by rw [Y6,if_neg (by simp [a]),if_pos c]),fun c=>?_⟩⟩⟩
  have hd:Y6 (b,s,o,()) p n=if s=p∨(p=0∧s≠-1)∨(p≠0∧s=-1∧(b=true∨0<o)) then 4 else 0:=by rw [Y6,if_neg (by simp [a]),if_neg (by simp [c])]
  repeat' first|exact trivial|(refine And.intro ?_ ?_)|(intro _)
  all_goals first|(exfalso; omega)|(exfalso; simp_all; done)|skip
  all_goals (refine key ?_; rw [hd]; split<;>first|rfl|(exfalso; omega)|(exfalso; rename_i h8 h9; subst h8; simp at h9; omega)|(exfalso; rename_i h7 h8 h9; subst h7; simp at h9; omega))
def M7:v6:=(false,0,0,())
def t7:o8:=(0,0,0,())
def a01 (w:o8) (n:Int):Int:=if B1 w.1 0 (n - 1)=false then 1 else if B1 w.2.1 0 (n - 1)=false then 1 else if w.1=w.2.1 then 4 else if B1 w.2.2.1 0 1=false then 4 else 0
def a1h (t:F7) (i:Nat):Int:=Y6 (t.1.getD i M7) i t.1.length
def a54 (t:F7) (i:Nat):Int:=a01 (t.2.1.getD i t7) t.1.length
def G5 (t:F7):Int :=
  if B1 (t.1.length:Int) 1 6=false then 1 else if A6 (a1h t) t.1.length≠0 then A6 (a1h t) t.1.length else
  if (100:Int)<t.2.1.length then 2 else A6 (a54 t) t.2.1.length
def a24:u7:={ ps:=[.v a2k],rs:=[A7],pre:=fun _=>True,fn:=fun x=>(G5 x.1,()),out:=fun _=>() }
noncomputable def a3b:Env:={ P:=Try.prog,tt:=tt,D0:=[(145,a5M),(231,b0w)],res:=[Go.ResultVar.tmp 2],rs:=[Ty.int IntKind.i64],ps:=[PK.v (Ty.pair (Ty.d0 false Hand) (Ty.pair (Ty.d0 false i6) Ty.unit))],E1:=[(5,[(1,none),(3,none),(16,none),(17,none),(18,none)]),(14,[(3,none),(36,none),(37,none),(38,none)])],nt:=70 }
theorem a1L:B3 a3b:=D5 s7 ⟨a0F,b0v,trivial⟩
theorem a1J:E9 a3b Try.f144:=⟨rfl,rfl⟩
theorem b5y (x0_1:List (Bool×Int×Int×Unit)) (x0_2_1:List (Int×Int×Int×Unit)):exec a3b 1000 [.code (d9 Try.prog 144)] (A3 a24.ps (((x0_1,x0_2_1,()),()))) =
  .f9 (True) (cond (!B1 (↑(List.length x0_1):Int) (1:Int) (6:Int)) (.ret (((1:Int),()))) (.cut (j5 (d9 Try.prog 144) 5).1 (j5 (d9 Try.prog 144) 5).2 (St.mk [(1,AV.ptr 1 []),(3,AV.val (Ty.int IntKind.i64) (↑(List.length x0_1):Int)),(16,AV.val (Ty.d0 false Hand) x0_1),(17,AV.val (Ty.int IntKind.i64) (↑(List.length x0_1):Int)),(18,AV.val (Ty.int IntKind.i64) (0:Int))] [(1,f8.var (Ty.pair (Ty.d0 false Hand) (Ty.pair (Ty.d0 false i6) Ty.unit)) (x0_1,x0_2_1,()))]))):=by kernel_rfl
def a7b (v3:Int) (v16:List (Bool×Int×Int×Unit)) (v17:Int) (v18:Int) (o1_1:List (Bool×Int×Int×Unit)) (o1_2_1:List (Int×Int×Int×Unit)):St:=St.mk [(1,AV.ptr 1 []),(3,AV.val (Ty.int IntKind.i64) v3),(16,AV.val (Ty.d0 false Hand) v16),(17,AV.val (Ty.int IntKind.i64) v17),(18,AV.val (Ty.int IntKind.i64) v18)] [(1,f8.var (Ty.pair (Ty.d0 false Hand) (Ty.pair (Ty.d0 false i6) Ty.unit)) (o1_1,o1_2_1,()))]
theorem b4h (v3:Int) (v16:List (Bool×Int×Int×Unit)) (v17:Int) (v18:Int) (o1_1:List (Bool×Int×Int×Unit)) (o1_2_1:List (Int×Int×Int×Unit)):exec a3b 1000 (.code (j5 (d9 Try.prog 144) 5).1::.inLoop (j5 (d9 Try.prog 144) 5).1::(j5 (d9 Try.prog 144) 5).2) (a7b v3 v16 v17 v18 o1_1 o1_2_1) =
  cond (decide (v18<v17)) (.f9 ((0:Int)≤v18∧v18<(↑(List.length v16):Int)) (.f9 ((0:Int)≤v18∧(1:Int)≤v3∧v3≤(1000:Int)) (cond (decide (Y6 (List.getD v16 (Int.toNat v18) (false,(0:Int),(0:Int),())) v18 v3≠(0:Int))) (.ret ((Y6 (List.getD v16 (Int.toNat v18) (false,(0:Int),(0:Int),())) v18 v3,()))) (.f9 (w9 IntKind.i64 (v18+(1:Int))) (.cut (j5 (d9 Try.prog 144) 5).1 (j5 (d9 Try.prog 144) 5).2 (St.mk [(1,AV.ptr 1 []),(3,AV.val (Ty.int IntKind.i64) v3),(16,AV.val (Ty.d0 false Hand) v16),(17,AV.val (Ty.int IntKind.i64) v17),(18,AV.val (Ty.int IntKind.i64) (v18+(1:Int)))] [(1,f8.var (Ty.pair (Ty.d0 false Hand) (Ty.pair (Ty.d0 false i6) Ty.unit)) (o1_1,o1_2_1,()))])))))) (cond (decide ((100:Int)<(↑(List.length o1_2_1):Int))) (.ret (((2:Int),()))) (.cut (j5 (d9 Try.prog 144) 14).1 (j5 (d9 Try.prog 144) 14).2 (St.mk [(3,AV.val (Ty.int IntKind.i64) v3),(36,AV.val (Ty.d0 false i6) o1_2_1),(37,AV.val (Ty.int IntKind.i64) (↑(List.length o1_2_1):Int)),(38,AV.val (Ty.int IntKind.i64) (0:Int))] []))):=by kernel_rfl
def a5r (v3:Int) (v36:List (Int×Int×Int×Unit)) (v37:Int) (v38:Int):St:=St.mk [(3,AV.val (Ty.int IntKind.i64) v3),(36,AV.val (Ty.d0 false i6) v36),(37,AV.val (Ty.int IntKind.i64) v37),(38,AV.val (Ty.int IntKind.i64) v38)] []
theorem b19 (v3:Int) (v36:List (Int×Int×Int×Unit)) (v37:Int) (v38:Int):exec a3b 1000 (.code (j5 (d9 Try.prog 144) 14).1::.inLoop (j5 (d9 Try.prog 144) 14).1::(j5 (d9 Try.prog 144) 14).2) (a5r v3 v36 v37 v38) =
  cond (decide (v38<v37)) (.f9 ((0:Int)≤v38∧v38<(↑(List.length v36):Int)) (.f9 (w9 IntKind.i64 (v3 - (1:Int))) (.f9 (True) (cond (!B1 (Prod.fst (List.getD v36 (Int.toNat v38) ((0:Int),(0:Int),(0:Int),()))) (0:Int) (v3 - (1:Int))) (.ret (((1:Int),()))) (.f9 (w9 IntKind.i64 (v3 - (1:Int))) (.f9 (True) (cond (!B1 (Prod.fst (Prod.snd (List.getD v36 (Int.toNat v38) ((0:Int),(0:Int),(0:Int),())))) (0:Int) (v3 - (1:Int))) (.ret (((1:Int),()))) (cond (decide (Prod.fst (List.getD v36 (Int.toNat v38) ((0:Int),(0:Int),(0:Int),()))=Prod.fst (Prod.snd (List.getD v36 (Int.toNat v38) ((0:Int),(0:Int),(0:Int),()))))) (.ret (((4:Int),()))) (.f9 (True) (cond (!B1 (Prod.fst (Prod.snd (Prod.snd (List.getD v36 (Int.toNat v38) ((0:Int),(0:Int),(0:Int),()))))) (0:Int) (1:Int)) (.ret (((4:Int),()))) (.f9 (w9 IntKind.i64 (v38+(1:Int))) (.cut (j5 (d9 Try.prog 144) 14).1 (j5 (d9 Try.prog 144) 14).2 (St.mk [(3,AV.val (Ty.int IntKind.i64) v3),(36,AV.val (Ty.d0 false i6) v36),(37,AV.val (Ty.int IntKind.i64) v37),(38,AV.val (Ty.int IntKind.i64) (v38+(1:Int)))] []))))))))))))) (.ret (((0:Int),()))):=by kernel_rfl
theorem a1x:a24.Valid Try.prog 144:=by
  refine u7.u6 a1L rfl rfl Try.func144 (c:=d9 Try.prog 144) rfl rfl a1J rfl ?_
  rintro ⟨⟨(hs:List v6),(ws:List o8),⟨⟩⟩,⟨⟩⟩ - ⟨⟨⟨hl1,-⟩,⟨hl2,-⟩,-⟩,-⟩
  have hl1:hs.length≤9223372036854775807:=hl1
  have hl2:ws.length≤9223372036854775807:=hl2
  refine o4 (n:=1000) a1L a1J ?_
  refine n6 (b5y hs ws) ?_
  have key:∀ {x:Int},x=G5 (hs,ws,())→((x,()):Int×Unit)=(G5 (hs,ws,()),()):=by rintro x rfl; rfl
  have hd:G5 (hs,ws,())=if B1 (hs.length:Int) 1 6=false then 1 else if A6 (a1h (hs,ws,())) hs.length≠0 then A6 (a1h (hs,ws,())) hs.length else
    if (100:Int)<ws.length then 2 else A6 (a54 (hs,ws,())) ws.length:=rfl
  simp only [o7,Tree.holds,true_and,true_implies,decide_eq_true_eq,decide_eq_false_iff_not,Bool.not_eq_true',Bool.not_eq_false',Int.toNat_natCast,r9,List.length_set,List.length_cons,List.length_nil]
  refine ⟨fun a=>key (by rw [hd,if_pos a]),fun a=>?_⟩
  have hn:=E0.1 a
  rw [if_neg (by simp [a])] at hd
  refine Reach.S5 a1L a1J (fun i:Nat=>a7b (hs.length:Int) hs (hs.length:Int) (i:Int) hs ws) (fun i=>i≤hs.length∧A6 (a1h (hs,ws,())) i=0) (fun i=>hs.length - i) 1000 (fun _=>⟨x6 rfl,x6 rfl⟩) ?_ 0 ⟨by omega,rfl⟩
  rintro i ⟨k1,k2⟩ - ih
  have k1:i≤hs.length:=k1
  refine n6 (b4h ..) ?_
  simp only [o7,Tree.holds,true_and,true_implies,decide_eq_true_eq,decide_eq_false_iff_not,Bool.not_eq_true',Bool.not_eq_false',Int.toNat_natCast,r9,List.length_set,List.length_cons,List.length_nil]
  refine ⟨fun c=>⟨by omega,fun _=>⟨by omega,fun _=>?_⟩⟩,fun c=>?_⟩
  · have hc:a1h (hs,ws,()) i=Y6 (hs.getD i (false,0,0,())) i hs.length:=rfl
    refine ⟨fun e=>key ?_,fun e=>⟨by omega,fun _=>ih (i+1) ⟨by omega,V4 k2 (hc.trans (Decidable.not_not.1 e))⟩ (by omega)⟩⟩
    have h9:A6 (a1h (hs,ws,())) hs.length=a1h (hs,ws,()) i:=V3 k2 (by rw [hc]; exact e) (by omega)
    rw [hd,h9,if_pos (by rw [hc]; exact e),hc]
  · have e:i=hs.length:=by omega
    rw [e] at k2
    rw [if_neg (by simp [k2])] at hd
    refine ⟨fun d=>key (by rw [hd,if_pos d]),fun d=>?_⟩
    rw [if_neg d] at hd
    refine Reach.S5 a1L a1J (fun i:Nat=>a5r (hs.length:Int) ws (ws.length:Int) (i:Int)) (fun i=>i≤ws.length∧A6 (a54 (hs,ws,())) i=0) (fun i=>ws.length - i) 1000 (fun _=>⟨x6 rfl,x6 rfl⟩) ?_ 0 ⟨by omega,rfl⟩
    rintro i ⟨k1,k2⟩ - ih
    have k1:i≤ws.length:=k1
    refine n6 (b19 ..) ?_
    simp only [o7,Tree.holds,true_and,true_implies,decide_eq_true_eq,decide_eq_false_iff_not,Bool.not_eq_true',Bool.not_eq_false',Int.toNat_natCast,r9,List.length_set,List.length_cons,List.length_nil]
    have hc:a54 (hs,ws,()) i=a01 (ws.getD i (0,0,0,())) hs.length:=rfl
    generalize ws.getD i (0,0,0,())=w at hc
    obtain ⟨x,y,z,⟨⟩⟩:=w
    refine ⟨fun c=>⟨by omega,fun _=>⟨by omega,fun _=>?_⟩⟩,fun c=>key (by rw [hd,show ws.length=i by omega,k2])⟩
    have stop:∀ {v:Int},v≠0→a01 (x,y,z,()) hs.length=v→((v,()):Int×Unit)=(G5 (hs,ws,()),()):=fun hv h9=>key (by
      rw [hd,V3 k2 (by rw [hc,h9]; exact hv) (by omega),hc,h9])
    refine ⟨fun p1=>stop (by decide) (by rw [a01,if_pos p1]),fun p1=>⟨by omega,fun _=>⟨fun p2=>stop (by decide) (by rw [a01,if_neg (by simp [p1]),if_pos p2]),fun p2=>⟨fun p3=>stop (by decide) (by rw [a01,if_neg (by simp [p1]),if_neg (by simp [p2]),if_pos p3]),fun p3=>⟨fun p4=>stop (by decide) (by rw [a01,if_neg (by simp [p1]),if_neg (by simp [p2]),if_neg p3,if_pos p4]),fun p4=>⟨by omega,fun _=>ih (i+1) ⟨by omega,V4 k2 ?_⟩ (by omega)⟩⟩⟩⟩⟩⟩
    rw [hc,a01,if_neg (by simp [p1]),if_neg (by simp [p2]),if_neg p3,if_neg (by simp [p4])]
def a9v:u7:={ ps:=[.own (.d0 true i6),.v A7,.v A7],rs:=[.d0 true i6],pre:=fun x=>LE.le (α:=Int) 0 x.2.1∧LE.le (α:=Int) x.2.1 x.2.2.1∧LE.le (α:=Int) x.2.2.1 (List.length (α:=o8) x.1),fn:=fun x=>(List.take (α:=o8) (Int.toNat x.2.1) x.1++List.drop (α:=o8) (Int.toNat x.2.2.1) x.1,()),out:=fun _=>() }
noncomputable def b4f:Env:={ P:=Try.prog,tt:=tt,D0:=[],res:=[Go.ResultVar.tmp 6],rs:=[Ty.d0 true i6],ps:=[PK.own (Ty.d0 true i6),PK.v (Ty.int IntKind.i64),PK.v (Ty.int IntKind.i64)],E1:=[],nt:=33 }
theorem b05:B3 b4f:=D5 s7 trivial
theorem b00:E9 b4f Try.f142:=⟨rfl,rfl⟩
theorem b7F (x0:List (Int×Int×Int×Unit)) (x1:Int) (x2:Int):exec b4f 1000 [.code (d9 Try.prog 142)] (A3 a9v.ps ((x0,x1,x2,()))) =
  .f9 ((0:Int)≤x1∧x1≤x2∧x2≤(↑(List.length x0):Int)∧(↑(List.length x0):Int)≤(↑(List.length x0):Int)) (cond (decide (x1=x2)) (.ret ((x0,()))) (.f9 ((0:Int)≤(0:Int)∧(0:Int)≤x1∧x1≤(↑(List.length x0):Int)) (.f9 ((0:Int)≤x2∧x2≤(↑(List.length x0):Int)∧(↑(List.length x0):Int)≤(↑(List.length x0):Int)) (.f9 (x1+(↑(List.length (s9 x2 (↑(List.length x0):Int) x0)):Int)≤(↑(List.length x0):Int)) (.f9 ((0:Int)≤x1+(↑(List.length (s9 x2 (↑(List.length x0):Int) x0)):Int) - (0:Int)∧x1+(↑(List.length (s9 x2 (↑(List.length x0):Int) x0)):Int) - (0:Int)≤(↑(List.length x0):Int)∧(0:Int)+(↑(List.length x0):Int)≤(↑(List.length (List.take (Int.toNat x1) x0++s9 x2 (↑(List.length x0):Int) x0++List.drop (Int.toNat x1+List.length (s9 x2 (↑(List.length x0):Int) x0)) x0)):Int)) (.ret ((s9 (0:Int) (x1+(↑(List.length (s9 x2 (↑(List.length x0):Int) x0)):Int)) (List.take (Int.toNat ((0:Int)+(x1+(↑(List.length (s9 x2 (↑(List.length x0):Int) x0)):Int) - (0:Int)))) (List.take (Int.toNat x1) x0++s9 x2 (↑(List.length x0):Int) x0++List.drop (Int.toNat x1+List.length (s9 x2 (↑(List.length x0):Int) x0)) x0)++List.replicate (Int.toNat ((0:Int)+(↑(List.length x0):Int) - ((0:Int)+(x1+(↑(List.length (s9 x2 (↑(List.length x0):Int) x0)):Int) - (0:Int))))) ((0:Int),(0:Int),(0:Int),())++List.drop (Int.toNat ((0:Int)+(x1+(↑(List.length (s9 x2 (↑(List.length x0):Int) x0)):Int) - (0:Int)))+List.length (List.replicate (Int.toNat ((0:Int)+(↑(List.length x0):Int) - ((0:Int)+(x1+(↑(List.length (s9 x2 (↑(List.length x0):Int) x0)):Int) - (0:Int))))) ((0:Int),(0:Int),(0:Int),()))) (List.take (Int.toNat x1) x0++s9 x2 (↑(List.length x0):Int) x0++List.drop (Int.toNat x1+List.length (s9 x2 (↑(List.length x0):Int) x0)) x0)),())))))))):=by kernel_rfl
theorem a5i:a9v.Valid Try.prog 142:=by
  refine u7.u6 b05 rfl rfl Try.func142 (c:=d9 Try.prog 142) rfl rfl b00 rfl ?_
  rintro ⟨(l:List (o8)),(i:Int),(j:Int),⟨⟩⟩ ⟨(h0:0≤i),(h1:i≤j),(h2:j≤(l.length:Int))⟩ -
  refine o4 (n:=1000) b05 b00 ?_
  refine n6 (b7F l i j) ?_
  simp only [o7,Tree.holds,true_and,true_implies,decide_eq_true_eq,decide_eq_false_iff_not,Bool.not_eq_true',Bool.not_eq_false',Int.toNat_natCast,r9,List.length_set,List.length_cons,List.length_nil]
  have hc:=b2K h0 h1 h2 (l:=l)
  have hm:=a7E h0 h1 h2 (l:=l)
  refine ⟨⟨h0,h1,h2,Int.le_refl _⟩,fun _=>⟨fun e=>?_,fun e=>⟨by omega,fun _=>⟨by omega,fun _=>⟨by omega,fun _=>⟨by omega,fun _=>?_⟩⟩⟩⟩⟩⟩
  · subst e
    show ((l,()):List (o8)×Unit)=(l.take i.toNat++l.drop i.toNat,())
    rw [List.take_append_drop]
  · exact congrArg (fun y=>(y,())) (b7q h0 h1 h2 (l:=l))
theorem R4:Ty.wb i6=24:=rfl
def a44:u7:={ ps:=[.v (.d0 false i6)],rs:=[.d0 true i6],pre:=fun x=>List.length (α:=o8) x.1≤1048576,fn:=fun x=>x,out:=fun _=>() }
noncomputable def a7T:Env:={ P:=Try.prog,tt:=tt,D0:=[],res:=[Go.ResultVar.tmp 2],rs:=[Ty.d0 true i6],ps:=[PK.v (Ty.d0 false i6)],E1:=[],nt:=8 }
theorem a64:B3 a7T:=D5 s7 trivial
theorem a6U:E9 a7T Try.f230:=⟨rfl,rfl⟩
theorem b5r (x0:List (Int×Int×Int×Unit)):exec a7T 1000 [.code (d9 Try.prog 230)] (A3 a44.ps ((x0,()))) =
  .both (x0=[]) (.ret (([],()))) (.f9 ((0:Nat)+List.length x0≤140737488355328∧((0:Nat)+List.length x0)*Ty.wb i6≤140737488355328) (.ret (([]++x0,())))):=by kernel_rfl
theorem a3W:a44.Valid Try.prog 230:=by
  refine u7.u6 a64 rfl rfl Try.func230 (c:=d9 Try.prog 230) rfl rfl a6U rfl ?_
  rintro ⟨(l:List (o8)),⟨⟩⟩ hp -
  have hp:l.length≤1048576:=hp
  refine o4 (n:=1000) a64 a6U ?_
  refine n6 (b5r l) ?_
  simp only [o7,Tree.holds,true_and,true_implies,decide_eq_true_eq,decide_eq_false_iff_not,Bool.not_eq_true',Bool.not_eq_false',Int.toNat_natCast,r9,List.length_set,List.length_cons,List.length_nil,R4]
  refine ⟨fun h=>?_,by omega,fun _=>rfl⟩
  show (([],()):List (o8)×Unit)=(l,())
  rw [show l=[] from h]
theorem b5G:Ty.wb Hand=24:=rfl
def a7J:u7:={ ps:=[.v (.d0 false Hand)],rs:=[.d0 true Hand],pre:=fun x=>List.length (α:=v6) x.1≤1048576,fn:=fun x=>x,out:=fun _=>() }
noncomputable def a70:Env:={ P:=Try.prog,tt:=tt,D0:=[],res:=[Go.ResultVar.tmp 2],rs:=[Ty.d0 true Hand],ps:=[PK.v (Ty.d0 false Hand)],E1:=[],nt:=8 }
theorem a7c:B3 a70:=D5 s7 trivial
theorem a61:E9 a70 Try.f232:=⟨rfl,rfl⟩
theorem b5z (x0:List (Bool×Int×Int×Unit)):exec a70 1000 [.code (d9 Try.prog 232)] (A3 a7J.ps ((x0,()))) =
  .both (x0=[]) (.ret (([],()))) (.f9 ((0:Nat)+List.length x0≤140737488355328∧((0:Nat)+List.length x0)*Ty.wb Hand≤140737488355328) (.ret (([]++x0,())))):=by kernel_rfl
theorem a9g:a7J.Valid Try.prog 232:=by
  refine u7.u6 a7c rfl rfl Try.func232 (c:=d9 Try.prog 232) rfl rfl a61 rfl ?_
  rintro ⟨(l:List (v6)),⟨⟩⟩ hp -
  have hp:l.length≤1048576:=hp
  refine o4 (n:=1000) a7c a61 ?_
  refine n6 (b5z l) ?_
  simp only [o7,Tree.holds,true_and,true_implies,decide_eq_true_eq,decide_eq_false_iff_not,Bool.not_eq_true',Bool.not_eq_false',Int.toNat_natCast,r9,List.length_set,List.length_cons,List.length_nil,b5G]
  refine ⟨fun h=>?_,by omega,fun _=>rfl⟩
  show (([],()):List (v6)×Unit)=(l,())
  rw [show l=[] from h]
def a23:u7:={ ps:=[.v a2k],rs:=[a6T],pre:=fun x=>List.length (α:=v6) x.1.1≤1048576∧List.length (α:=o8) x.1.2.1≤1048576,fn:=fun x=>x,out:=fun _=>() }
noncomputable def a7Z:Env:={ P:=Try.prog,tt:=tt,D0:=[(232,a7J),(230,a44)],res:=[Go.ResultVar.cell 2 69],rs:=[Ty.pair (Ty.d0 true Hand) (Ty.pair (Ty.d0 true i6) Ty.unit)],ps:=[PK.v (Ty.pair (Ty.d0 false Hand) (Ty.pair (Ty.d0 false i6) Ty.unit))],E1:=[],nt:=10 }
theorem a7a:B3 a7Z:=D5 s7 ⟨a9g,a3W,trivial⟩
theorem a60:E9 a7Z Try.f146:=⟨rfl,rfl⟩
theorem b5x (x0_1:List (Bool×Int×Int×Unit)) (x0_2_1:List (Int×Int×Int×Unit)):exec a7Z 1000 [.code (d9 Try.prog 146)] (A3 a23.ps (((x0_1,x0_2_1,()),()))) =
  .f9 (List.length x0_1≤1048576) (.f9 (List.length x0_2_1≤1048576) (.ret (((x0_1,x0_2_1,()),())))):=by kernel_rfl
theorem a1w:a23.Valid Try.prog 146:=by
  refine u7.u6 a7a rfl rfl Try.func146 (c:=d9 Try.prog 146) rfl rfl a60 rfl ?_
  rintro ⟨⟨(hs:List v6),(ws:List o8),⟨⟩⟩,⟨⟩⟩ ⟨h1,h2⟩ -
  refine o4 (n:=1000) a7a a60 ?_
  refine n6 (b5x hs ws) ?_
  exact ⟨h1,fun _=>⟨h2,fun _=>rfl⟩⟩
def hAt (t:F7) (p:Int):v6:=t.1.getD p.toNat M7
def a5L (h:v6) (p:Int):Bool:=decide (p=0) || decide (h.2.1=-1) || h.1 || decide (0<h.2.2.1)
def a2F (t:F7) (p:Int):F7:=if a5L (hAt t p) p=true then t else (t.1.set p.toNat ((hAt t p).1,-1,(hAt t p).2.2),t.2.1++[(p,(hAt t p).2.1,0,())],())
def a9w:u7:={ ps:=[.rw a6T,.v A7],rs:=[],pre:=fun x=>LE.le (α:=Int) 0 x.2.1∧LT.lt (α:=Int) x.2.1 (List.length (α:=v6) x.1.1)∧List.length (α:=o8) x.1.2.1≤1048576,fn:=fun _=>(),out:=fun x=>(a2F x.1 x.2.1,()) }
noncomputable def b4g:Env:={ P:=Try.prog,tt:=tt,D0:=[],res:=[],rs:=[],ps:=[PK.rw (Ty.pair (Ty.d0 true Hand) (Ty.pair (Ty.d0 true i6) Ty.unit)),PK.v (Ty.int IntKind.i64)],E1:=[],nt:=51 }
theorem b1b:B3 b4g:=D5 s7 trivial
theorem b01:E9 b4g Try.f147:=⟨rfl,rfl⟩
theorem b7G (x0_1:List (Bool×Int×Int×Unit)) (x0_2_1:List (Int×Int×Int×Unit)) (x1:Int):exec b4g 1000 [.code (d9 Try.prog 147)] (A3 a9w.ps (((x0_1,x0_2_1,()),x1,()))) =
  .f9 ((0:Int)≤x1∧x1<(↑(List.length x0_1):Int)) (cond (decide (x1=(0:Int))) (.ret (((x0_1,x0_2_1,()),()))) (cond (decide (Prod.fst (Prod.snd (List.getD x0_1 (Int.toNat x1) (false,(0:Int),(0:Int),())))=(-1:Int))) (.ret (((x0_1,x0_2_1,()),()))) (cond (Prod.fst (List.getD x0_1 (Int.toNat x1) (false,(0:Int),(0:Int),()))) (.ret (((x0_1,x0_2_1,()),()))) (cond (decide ((0:Int)<Prod.fst (Prod.snd (Prod.snd (List.getD x0_1 (Int.toNat x1) (false,(0:Int),(0:Int),())))))) (.ret (((x0_1,x0_2_1,()),()))) (.f9 ([]++[Step.j6 1]=[]++[Step.j6 1]∧List.length x0_2_1+List.length (List.set [((0:Int),(0:Int),(0:Int),())] (Int.toNat (↑0:Int)) (x1,Prod.fst (Prod.snd (List.getD x0_1 (Int.toNat x1) (false,(0:Int),(0:Int),()))),(0:Int),()))≤140737488355328∧(List.length x0_2_1+List.length (List.set [((0:Int),(0:Int),(0:Int),())] (Int.toNat (↑0:Int)) (x1,Prod.fst (Prod.snd (List.getD x0_1 (Int.toNat x1) (false,(0:Int),(0:Int),()))),(0:Int),())))*Ty.wb i6≤140737488355328) (.ret (((List.set x0_1 (Int.toNat x1) (Prod.fst (List.getD x0_1 (Int.toNat x1) (false,(0:Int),(0:Int),())),(-1:Int),Prod.snd (Prod.snd (List.getD x0_1 (Int.toNat x1) (false,(0:Int),(0:Int),())))),x0_2_1++List.set [((0:Int),(0:Int),(0:Int),())] (Int.toNat (↑0:Int)) (x1,Prod.fst (Prod.snd (List.getD x0_1 (Int.toNat x1) (false,(0:Int),(0:Int),()))),(0:Int),()),()),())))))))):=by kernel_rfl
theorem a5j:a9w.Valid Try.prog 147:=by
  refine u7.u6 b1b rfl rfl Try.func147 (c:=d9 Try.prog 147) rfl rfl b01 rfl ?_
  rintro ⟨⟨(hs:List v6),(ws:List o8),⟨⟩⟩,(p:Int),⟨⟩⟩ ⟨(h0:0≤p),(h1:p<(hs.length:Int)),(h2:ws.length≤1048576)⟩ -
  refine o4 (n:=1000) b1b b01 ?_
  refine n6 (b7G hs ws p) ?_
  have key:∀ {x:F7},x=a2F (hs,ws,()) p→((x,()):F7×Unit)=(a2F (hs,ws,()) p,()):=by rintro x rfl; rfl
  have hd:a2F (hs,ws,()) p=if a5L (hs.getD p.toNat (false,0,0,())) p=true then (hs,ws,()) else (hs.set p.toNat ((hs.getD p.toNat (false,0,0,())).1,-1,(hs.getD p.toNat (false,0,0,())).2.2),ws++[(p,(hs.getD p.toNat (false,0,0,())).2.1,0,())],()):=rfl
  generalize hs.getD p.toNat (false,0,0,())=h at hd
  obtain ⟨b,s,o,⟨⟩⟩:=h
  simp only [o7,Tree.holds,true_and,true_implies,decide_eq_true_eq,decide_eq_false_iff_not,Bool.not_eq_true',Bool.not_eq_false',Int.toNat_natCast,r9,List.length_set,List.length_cons,List.length_nil,R4]
  refine ⟨⟨h0,h1⟩,fun _=>⟨fun a=>key (by rw [hd,if_pos (by simp [a5L,a])]),fun a=>⟨fun c=>key (by rw [hd,if_pos (by simp [a5L,c])]),fun c=>⟨fun d=>key (by rw [hd,if_pos (by simp [a5L,d])]),fun d=>⟨fun e=>key (by rw [hd,if_pos (by simp [a5L,e])]),fun e=>?_⟩⟩⟩⟩⟩
  refine ⟨⟨by omega,by omega⟩,fun _=>key ?_⟩
  rw [hd,if_neg (by simp [a5L,a,c,d]; omega)]
  rfl
def o0:F7:=([],[],())
def wAt (t:F7) (k:Int):o8:=t.2.1.getD k.toNat t7
def b59 (t:F7) (k:Int):List o8:=t.2.1.take k.toNat++t.2.1.drop (k+1).toNat
def b8S (n:Int):Int:=if n - 1<0 then 0 else n - 1
def b8j (h:v6):v6:=(h.1,h.2.1,b8S h.2.2.1,h.2.2.2)
def b22 (t:F7) (k:Int):F7 :=
  if (wAt t k).2.2.1=0 then a2F (t.1.set (wAt t k).2.1.toNat (b8j (hAt t (wAt t k).2.1)),b59 t k,()) (wAt t k).2.1
  else if (wAt t k).2.1≠0∧(hAt t (wAt t k).2.1).2.1=-1 then (t.1.set (wAt t k).2.1.toNat (true,(wAt t k).1,(hAt t (wAt t k).2.1).2.2),b59 t k,())
  else (t.1.set (wAt t k).2.1.toNat (true,(hAt t (wAt t k).2.1).2),b59 t k++[((wAt t k).2.1,(wAt t k).1,0,())],())
def Q6 (t:F7) (k:Int):F7×Int×Unit:=if G5 t≠0 then (o0,G5 t,()) else if B1 k 0 (t.2.1.length - 1)=false then (o0,6,()) else (b22 t k,0,())
def b0s:u7:={ ps:=[.v a2k,.v A7],rs:=[a6T,A7],pre:=fun _=>True,fn:=fun x=>Q6 x.1 x.2.1,out:=fun _=>() }
noncomputable def b07:Env:={ P:=Try.prog,tt:=tt,D0:=[(145,a5M),(144,a24),(146,a23),(142,a9v),(147,a9w)],res:=[Go.ResultVar.cell 4 69,Go.ResultVar.tmp 5],rs:=[Ty.pair (Ty.d0 true Hand) (Ty.pair (Ty.d0 true i6) Ty.unit),Ty.int IntKind.i64],ps:=[PK.v (Ty.pair (Ty.d0 false Hand) (Ty.pair (Ty.d0 false i6) Ty.unit)),PK.v (Ty.int IntKind.i64)],E1:=[],nt:=88 }
theorem a8T:B3 b07:=D5 s7 ⟨a0F,a1x,a1w,a5i,a5j,trivial⟩
theorem a8K:E9 b07 Try.f39:=⟨rfl,rfl⟩
theorem b6o (x0_1:List (Bool×Int×Int×Unit)) (x0_2_1:List (Int×Int×Int×Unit)) (x1:Int):exec b07 1000 [.code (d9 Try.prog 39)] (A3 b0s.ps (((x0_1,x0_2_1,()),x1,()))) =
  .f9 (True) (cond (decide (G5 (x0_1,x0_2_1,())≠(0:Int))) (.ret ((([],[],()),G5 (x0_1,x0_2_1,()),()))) (.f9 (w9 IntKind.i64 ((↑(List.length x0_2_1):Int) - (1:Int))) (.f9 (True) (cond (!B1 x1 (0:Int) ((↑(List.length x0_2_1):Int) - (1:Int))) (.ret ((([],[],()),(6:Int),()))) (.f9 (List.length x0_1≤1048576∧List.length x0_2_1≤1048576) (.f9 ((0:Int)≤x1∧x1<(↑(List.length x0_2_1):Int)) (.f9 (w9 IntKind.i64 (x1+(1:Int))) (.f9 (True∧[]++[Step.j6 1]=[]++[Step.j6 1]∧(0:Int)≤x1∧x1≤x1+(1:Int)∧x1+(1:Int)≤(↑(List.length x0_2_1):Int)) (.f9 ((0:Int)≤Prod.fst (Prod.snd (List.getD x0_2_1 (Int.toNat x1) ((0:Int),(0:Int),(0:Int),())))∧Prod.fst (Prod.snd (List.getD x0_2_1 (Int.toNat x1) ((0:Int),(0:Int),(0:Int),())))<(↑(List.length x0_1):Int)) (cond (decide (Prod.fst (Prod.snd (Prod.snd (List.getD x0_2_1 (Int.toNat x1) ((0:Int),(0:Int),(0:Int),()))))=(0:Int))) (.f9 (w9 IntKind.i64 (Prod.fst (Prod.snd (Prod.snd (List.getD x0_1 (Int.toNat (Prod.fst (Prod.snd (List.getD x0_2_1 (Int.toNat x1) ((0:Int),(0:Int),(0:Int),()))))) (false,(0:Int),(0:Int),())))) - (1:Int))) (.f9 ((0:Int)≤Prod.fst (Prod.snd (List.getD x0_2_1 (Int.toNat x1) ((0:Int),(0:Int),(0:Int),())))∧Prod.fst (Prod.snd (List.getD x0_2_1 (Int.toNat x1) ((0:Int),(0:Int),(0:Int),())))<(↑(List.length (List.set x0_1 (Int.toNat (Prod.fst (Prod.snd (List.getD x0_2_1 (Int.toNat x1) ((0:Int),(0:Int),(0:Int),()))))) (Prod.fst (List.getD x0_1 (Int.toNat (Prod.fst (Prod.snd (List.getD x0_2_1 (Int.toNat x1) ((0:Int),(0:Int),(0:Int),()))))) (false,(0:Int),(0:Int),())),Prod.fst (Prod.snd (List.getD x0_1 (Int.toNat (Prod.fst (Prod.snd (List.getD x0_2_1 (Int.toNat x1) ((0:Int),(0:Int),(0:Int),()))))) (false,(0:Int),(0:Int),()))),if Prod.fst (Prod.snd (Prod.snd (List.getD x0_1 (Int.toNat (Prod.fst (Prod.snd (List.getD x0_2_1 (Int.toNat x1) ((0:Int),(0:Int),(0:Int),()))))) (false,(0:Int),(0:Int),())))) - (1:Int)<(0:Int) then (0:Int) else Prod.fst (Prod.snd (Prod.snd (List.getD x0_1 (Int.toNat (Prod.fst (Prod.snd (List.getD x0_2_1 (Int.toNat x1) ((0:Int),(0:Int),(0:Int),()))))) (false,(0:Int),(0:Int),())))) - (1:Int),Prod.snd (Prod.snd (Prod.snd (List.getD x0_1 (Int.toNat (Prod.fst (Prod.snd (List.getD x0_2_1 (Int.toNat x1) ((0:Int),(0:Int),(0:Int),()))))) (false,(0:Int),(0:Int),()))))))):Int)∧List.length (List.take (Int.toNat x1) x0_2_1++List.drop (Int.toNat (x1+(1:Int))) x0_2_1)≤1048576) (.ret ((a2F (List.set x0_1 (Int.toNat (Prod.fst (Prod.snd (List.getD x0_2_1 (Int.toNat x1) ((0:Int),(0:Int),(0:Int),()))))) (Prod.fst (List.getD x0_1 (Int.toNat (Prod.fst (Prod.snd (List.getD x0_2_1 (Int.toNat x1) ((0:Int),(0:Int),(0:Int),()))))) (false,(0:Int),(0:Int),())),Prod.fst (Prod.snd (List.getD x0_1 (Int.toNat (Prod.fst (Prod.snd (List.getD x0_2_1 (Int.toNat x1) ((0:Int),(0:Int),(0:Int),()))))) (false,(0:Int),(0:Int),()))),if Prod.fst (Prod.snd (Prod.snd (List.getD x0_1 (Int.toNat (Prod.fst (Prod.snd (List.getD x0_2_1 (Int.toNat x1) ((0:Int),(0:Int),(0:Int),()))))) (false,(0:Int),(0:Int),())))) - (1:Int)<(0:Int) then (0:Int) else Prod.fst (Prod.snd (Prod.snd (List.getD x0_1 (Int.toNat (Prod.fst (Prod.snd (List.getD x0_2_1 (Int.toNat x1) ((0:Int),(0:Int),(0:Int),()))))) (false,(0:Int),(0:Int),())))) - (1:Int),Prod.snd (Prod.snd (Prod.snd (List.getD x0_1 (Int.toNat (Prod.fst (Prod.snd (List.getD x0_2_1 (Int.toNat x1) ((0:Int),(0:Int),(0:Int),()))))) (false,(0:Int),(0:Int),()))))),List.take (Int.toNat x1) x0_2_1++List.drop (Int.toNat (x1+(1:Int))) x0_2_1,()) (Prod.fst (Prod.snd (List.getD x0_2_1 (Int.toNat x1) ((0:Int),(0:Int),(0:Int),())))),(0:Int),()))))) (cond (decide (Prod.fst (Prod.snd (List.getD x0_2_1 (Int.toNat x1) ((0:Int),(0:Int),(0:Int),())))≠(0:Int))) (cond (decide (Prod.fst (Prod.snd (List.getD (List.set x0_1 (Int.toNat (Prod.fst (Prod.snd (List.getD x0_2_1 (Int.toNat x1) ((0:Int),(0:Int),(0:Int),()))))) (true,Prod.snd (List.getD x0_1 (Int.toNat (Prod.fst (Prod.snd (List.getD x0_2_1 (Int.toNat x1) ((0:Int),(0:Int),(0:Int),()))))) (false,(0:Int),(0:Int),())))) (Int.toNat (Prod.fst (Prod.snd (List.getD x0_2_1 (Int.toNat x1) ((0:Int),(0:Int),(0:Int),()))))) (false,(0:Int),(0:Int),())))=(-1:Int))) (.ret (((List.set (List.set x0_1 (Int.toNat (Prod.fst (Prod.snd (List.getD x0_2_1 (Int.toNat x1) ((0:Int),(0:Int),(0:Int),()))))) (true,Prod.snd (List.getD x0_1 (Int.toNat (Prod.fst (Prod.snd (List.getD x0_2_1 (Int.toNat x1) ((0:Int),(0:Int),(0:Int),()))))) (false,(0:Int),(0:Int),())))) (Int.toNat (Prod.fst (Prod.snd (List.getD x0_2_1 (Int.toNat x1) ((0:Int),(0:Int),(0:Int),()))))) (Prod.fst (List.getD (List.set x0_1 (Int.toNat (Prod.fst (Prod.snd (List.getD x0_2_1 (Int.toNat x1) ((0:Int),(0:Int),(0:Int),()))))) (true,Prod.snd (List.getD x0_1 (Int.toNat (Prod.fst (Prod.snd (List.getD x0_2_1 (Int.toNat x1) ((0:Int),(0:Int),(0:Int),()))))) (false,(0:Int),(0:Int),())))) (Int.toNat (Prod.fst (Prod.snd (List.getD x0_2_1 (Int.toNat x1) ((0:Int),(0:Int),(0:Int),()))))) (false,(0:Int),(0:Int),())),Prod.fst (List.getD x0_2_1 (Int.toNat x1) ((0:Int),(0:Int),(0:Int),())),Prod.snd (Prod.snd (List.getD (List.set x0_1 (Int.toNat (Prod.fst (Prod.snd (List.getD x0_2_1 (Int.toNat x1) ((0:Int),(0:Int),(0:Int),()))))) (true,Prod.snd (List.getD x0_1 (Int.toNat (Prod.fst (Prod.snd (List.getD x0_2_1 (Int.toNat x1) ((0:Int),(0:Int),(0:Int),()))))) (false,(0:Int),(0:Int),())))) (Int.toNat (Prod.fst (Prod.snd (List.getD x0_2_1 (Int.toNat x1) ((0:Int),(0:Int),(0:Int),()))))) (false,(0:Int),(0:Int),())))),List.take (Int.toNat x1) x0_2_1++List.drop (Int.toNat (x1+(1:Int))) x0_2_1,()),(0:Int),()))) (.f9 (True∧[]++[Step.j6 1]=[]++[Step.j6 1]∧List.length (List.take (Int.toNat x1) x0_2_1++List.drop (Int.toNat (x1+(1:Int))) x0_2_1)+List.length (List.set [((0:Int),(0:Int),(0:Int),())] (Int.toNat (↑0:Int)) (Prod.fst (Prod.snd (List.getD x0_2_1 (Int.toNat x1) ((0:Int),(0:Int),(0:Int),()))),Prod.fst (List.getD x0_2_1 (Int.toNat x1) ((0:Int),(0:Int),(0:Int),())),(0:Int),()))≤140737488355328∧(List.length (List.take (Int.toNat x1) x0_2_1++List.drop (Int.toNat (x1+(1:Int))) x0_2_1)+List.length (List.set [((0:Int),(0:Int),(0:Int),())] (Int.toNat (↑0:Int)) (Prod.fst (Prod.snd (List.getD x0_2_1 (Int.toNat x1) ((0:Int),(0:Int),(0:Int),()))),Prod.fst (List.getD x0_2_1 (Int.toNat x1) ((0:Int),(0:Int),(0:Int),())),(0:Int),())))*Ty.wb i6≤140737488355328) (.ret (((List.set x0_1 (Int.toNat (Prod.fst (Prod.snd (List.getD x0_2_1 (Int.toNat x1) ((0:Int),(0:Int),(0:Int),()))))) (true,Prod.snd (List.getD x0_1 (Int.toNat (Prod.fst (Prod.snd (List.getD x0_2_1 (Int.toNat x1) ((0:Int),(0:Int),(0:Int),()))))) (false,(0:Int),(0:Int),()))),List.take (Int.toNat x1) x0_2_1++List.drop (Int.toNat (x1+(1:Int))) x0_2_1++List.set [((0:Int),(0:Int),(0:Int),())] (Int.toNat (↑0:Int)) (Prod.fst (Prod.snd (List.getD x0_2_1 (Int.toNat x1) ((0:Int),(0:Int),(0:Int),()))),Prod.fst (List.getD x0_2_1 (Int.toNat x1) ((0:Int),(0:Int),(0:Int),())),(0:Int),()),()),(0:Int),()))))) (.f9 (True∧[]++[Step.j6 1]=[]++[Step.j6 1]∧List.length (List.take (Int.toNat x1) x0_2_1++List.drop (Int.toNat (x1+(1:Int))) x0_2_1)+List.length (List.set [((0:Int),(0:Int),(0:Int),())] (Int.toNat (↑0:Int)) (Prod.fst (Prod.snd (List.getD x0_2_1 (Int.toNat x1) ((0:Int),(0:Int),(0:Int),()))),Prod.fst (List.getD x0_2_1 (Int.toNat x1) ((0:Int),(0:Int),(0:Int),())),(0:Int),()))≤140737488355328∧(List.length (List.take (Int.toNat x1) x0_2_1++List.drop (Int.toNat (x1+(1:Int))) x0_2_1)+List.length (List.set [((0:Int),(0:Int),(0:Int),())] (Int.toNat (↑0:Int)) (Prod.fst (Prod.snd (List.getD x0_2_1 (Int.toNat x1) ((0:Int),(0:Int),(0:Int),()))),Prod.fst (List.getD x0_2_1 (Int.toNat x1) ((0:Int),(0:Int),(0:Int),())),(0:Int),())))*Ty.wb i6≤140737488355328) (.ret (((List.set x0_1 (Int.toNat (Prod.fst (Prod.snd (List.getD x0_2_1 (Int.toNat x1) ((0:Int),(0:Int),(0:Int),()))))) (true,Prod.snd (List.getD x0_1 (Int.toNat (Prod.fst (Prod.snd (List.getD x0_2_1 (Int.toNat x1) ((0:Int),(0:Int),(0:Int),()))))) (false,(0:Int),(0:Int),()))),List.take (Int.toNat x1) x0_2_1++List.drop (Int.toNat (x1+(1:Int))) x0_2_1++List.set [((0:Int),(0:Int),(0:Int),())] (Int.toNat (↑0:Int)) (Prod.fst (Prod.snd (List.getD x0_2_1 (Int.toNat x1) ((0:Int),(0:Int),(0:Int),()))),Prod.fst (List.getD x0_2_1 (Int.toNat x1) ((0:Int),(0:Int),(0:Int),())),(0:Int),()),()),(0:Int),()))))))))))))))):=by kernel_rfl
structure OOk (t:F7):Prop where
  n:1≤t.1.length∧t.1.length≤6
  h:∀ i:Nat,i<t.1.length→(-1≤(t.1.getD i M7).2.1∧(t.1.getD i M7).2.1<t.1.length)∧(0≤(t.1.getD i M7).2.2.1∧(t.1.getD i M7).2.2.1≤16777215)∧(t.1.getD i M7).2.1≠i∧(i=0→(t.1.getD i M7).2.1=-1) ∧
    (i≠0→(t.1.getD i M7).2.1=-1→(t.1.getD i M7).1=false∧(t.1.getD i M7).2.2.1≤0)
  l:t.2.1.length≤100
  w:∀ k,k<t.2.1.length→(0≤(t.2.1.getD k t7).1∧(t.2.1.getD k t7).1<t.1.length)∧(0≤(t.2.1.getD k t7).2.1∧(t.2.1.getD k t7).2.1<t.1.length)∧(t.2.1.getD k t7).1≠(t.2.1.getD k t7).2.1∧(0≤(t.2.1.getD k t7).2.2.1∧(t.2.1.getD k t7).2.2.1≤1)
theorem a8j {h:v6} {p n:Int}:Y6 h p n=0↔(-1≤h.2.1∧h.2.1≤n - 1)∧(0≤h.2.2.1∧h.2.2.1≤16777215)∧¬ (h.2.1=p∨(p=0∧h.2.1≠-1)∨(p≠0∧h.2.1=-1∧(h.1=true∨0<h.2.2.1))):=by
  rw [Y6,← E0,← E0]
  cases B1 h.2.1 (-1) (n - 1)<;>cases B1 h.2.2.1 0 16777215<;>simp
theorem a8h {w:o8} {n:Int}:a01 w n=0↔(0≤w.1∧w.1≤n - 1)∧(0≤w.2.1∧w.2.1≤n - 1)∧w.1≠w.2.1∧(0≤w.2.2.1∧w.2.2.1≤1):=by
  rw [a01,← E0,← E0,← E0]
  cases B1 w.1 0 (n - 1)<;>cases B1 w.2.1 0 (n - 1)<;>cases B1 w.2.2.1 0 1<;>simp
theorem a3r {t:F7}:G5 t=0↔OOk t:=by
  constructor
  · intro h
    unfold G5 at h
    split at h
    · cases h
    · rename_i h1
      split at h
      · exact absurd h (by assumption)
      · rename_i h2
        split at h
        · cases h
        · rename_i h3
          have h1:=E0.1 (by simpa using h1)
          have h2:=H4.1 (Decidable.not_not.1 h2)
          have h4:=H4.1 h
          refine ⟨by omega,fun i hi=>?_,by omega,fun k hk=>?_⟩
          · obtain ⟨q1,q2,q3⟩:=a8j.1 (h2 i hi)
            refine ⟨by omega,q2,fun e=>q3 (.inl e),fun e=>?_,fun e1 e2=>?_⟩
            · rcases Decidable.em ((t.1.getD i M7).2.1=-1) with h|h
              · exact h
              · exact absurd (.inr (.inl ⟨by omega,h⟩)) q3
            · refine ⟨?_,?_⟩
              · cases hb:(t.1.getD i M7).1 with
                | false=>rfl
                | true=>exact absurd (.inr (.inr ⟨by omega,e2,.inl hb⟩)) q3
              · rcases Int.lt_or_le 0 (t.1.getD i M7).2.2.1 with h|h
                · exact absurd (.inr (.inr ⟨by omega,e2,.inr h⟩)) q3
                · exact h
          · obtain ⟨q1,q2,q3,q4⟩:=a8h.1 (h4 k hk)
            exact ⟨by omega,by omega,q3,q4⟩
  · intro h
    rw [G5,if_neg (by rw [E0.2 (show (1:Int)≤t.1.length∧(t.1.length:Int)≤6 by have:=h.n; omega)]; simp),if_neg,if_neg (by have:=h.l; omega)]
    · refine H4.2 (fun k hk=>a8h.2 ?_)
      obtain ⟨q1,q2,q3,q4⟩:=h.w k hk
      exact ⟨by omega,by omega,q3,q4⟩
    · refine not_not_intro (H4.2 (fun i hi=>a8j.2 ?_))
      obtain ⟨q1,q2,q3,q4,q5⟩:=h.h i hi
      refine ⟨by omega,q2,?_⟩
      rintro (e|⟨e1,e2⟩|⟨e1,e2,e3⟩)
      · exact q3 e
      · exact e2 (q4 (by omega))
      · obtain ⟨r1,r2⟩:=q5 (by omega) e2
        rcases e3 with e3|e3
        · rw [r1] at e3; cases e3
        · omega
theorem a0a {α:Type} {l:List α} {i:Nat} {x d:α} (h:i<l.length):(l.set i x).getD i d=x:=by rw [R7 h,if_pos rfl]
theorem b0r:b0s.Valid Try.prog 39:=by
  refine u7.u6 a8T rfl rfl Try.func39 (c:=d9 Try.prog 39) rfl rfl a8K rfl ?_
  rintro ⟨⟨(hs:List v6),(ws:List o8),⟨⟩⟩,(k:Int),⟨⟩⟩ - ⟨⟨⟨hl1,-⟩,⟨hl2,-⟩,-⟩,-⟩
  have hl1:hs.length≤9223372036854775807:=hl1
  have hl2:ws.length≤9223372036854775807:=hl2
  refine o4 (n:=1000) a8T a8K ?_
  refine n6 (b6o hs ws k) ?_
  have key:∀ {x:F7×Int×Unit},x=Q6 (hs,ws,()) k→x=Q6 (hs,ws,()) k:=fun h=>h
  simp only [o7,Tree.holds,true_and,true_implies,decide_eq_true_eq,decide_eq_false_iff_not,Bool.not_eq_true',Bool.not_eq_false',Int.toNat_natCast,r9,List.length_set,List.length_cons,List.length_nil,R4]
  refine ⟨fun a=>?_,fun a=>⟨by omega,fun _=>⟨fun c=>?_,fun c=>?_⟩⟩⟩
  · show ((o0,G5 (hs,ws,()),()):F7×Int×Unit)=Q6 (hs,ws,()) k
    rw [Q6,if_pos a]
  · show ((o0,6,()):F7×Int×Unit)=Q6 (hs,ws,()) k
    rw [Q6,if_neg a,if_pos c]
  have hok:=a3r.1 (Decidable.not_not.1 a)
  have hk:=E0.1 c
  have hn:hs.length≤6:=hok.n.2
  have hw100:ws.length≤100:=hok.l
  have hw:=hok.w k.toNat (show k.toNat<ws.length by omega)
  have hh:=hok.h (ws.getD k.toNat t7).2.1.toNat
  have ho:Q6 (hs,ws,()) k=(b22 (hs,ws,()) k,0,()):=by rw [Q6,if_neg a,if_neg (by simp [c])]
  have ht:b22 (hs,ws,()) k=if (ws.getD k.toNat t7).2.2.1=0 then a2F (hs.set (ws.getD k.toNat t7).2.1.toNat (b8j (hs.getD (ws.getD k.toNat t7).2.1.toNat M7)),ws.take k.toNat++ws.drop (k+1).toNat,()) (ws.getD k.toNat t7).2.1
    else if (ws.getD k.toNat t7).2.1≠0∧(hs.getD (ws.getD k.toNat t7).2.1.toNat M7).2.1=-1 then (hs.set (ws.getD k.toNat t7).2.1.toNat (true,(ws.getD k.toNat t7).1,(hs.getD (ws.getD k.toNat t7).2.1.toNat M7).2.2),ws.take k.toNat++ws.drop (k+1).toNat,())
    else (hs.set (ws.getD k.toNat t7).2.1.toNat (true,(hs.getD (ws.getD k.toNat t7).2.1.toNat M7).2),ws.take k.toNat++ws.drop (k+1).toNat++[((ws.getD k.toNat t7).2.1,(ws.getD k.toNat t7).1,0,())],()):=rfl
  change _∧_ at hw
  simp only at hw hh
  rw [show ws.getD k.toNat (0,0,0,())=ws.getD k.toNat t7 from rfl] at *
  generalize ws.getD k.toNat t7=w at *
  obtain ⟨x,y,z,⟨⟩⟩:=w
  simp only at hw hh ht ⊢
  have hy:y.toNat<hs.length:=by omega
  have hh:=hh hy
  rw [show hs.getD y.toNat (false,0,0,())=hs.getD y.toNat M7 from rfl]
  have hlen:(List.take k.toNat ws++List.drop (k+1).toNat ws).length≤100:=by simp only [List.length_append,List.length_take,List.length_drop]; omega
  simp only [a0a hy]
  generalize hs.getD y.toNat M7=h at *
  obtain ⟨b,s,o,⟨⟩⟩:=h
  simp only at hh ht ⊢
  rw [ho]
  refine ⟨⟨by omega,by omega⟩,fun _=>⟨⟨by omega,by omega⟩,fun _=>⟨by omega,fun _=>⟨⟨by omega,by omega,by omega⟩,fun _=>⟨⟨by omega,by omega⟩,fun _=>⟨fun d=>?_,fun d=>?_⟩⟩⟩⟩⟩⟩
  · refine ⟨by omega,fun _=>⟨⟨by omega,by omega,by omega⟩,fun _=>?_⟩⟩
    rw [ht,if_pos d]; rfl
  · refine ⟨fun e=>⟨fun f=>?_,fun f=>⟨⟨by omega,by omega⟩,fun _=>?_⟩⟩,fun e=>⟨⟨by omega,by omega⟩,fun _=>?_⟩⟩
    · rw [ht,if_neg d,if_pos ⟨e,f⟩,List.set_set]; rfl
    · rw [ht,if_neg d,if_neg (fun h=>f h.2)]; rfl
    · rw [ht,if_neg d,if_neg (fun h=>e h.1)]; rfl
end Go.Proofs.Ytekbamiaenbhjaa
