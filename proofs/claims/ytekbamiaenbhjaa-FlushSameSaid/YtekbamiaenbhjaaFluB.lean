/- FlushKeeps. No condition. -/
import Derived.Test.YtekbamiaenbhjaaFluA
namespace Go.Proofs.Ytekbamiaenbhjaa
open Go.Ex
set_option maxRecDepth 100000
theorem a17 {α:Type}:∀ (l:List (List α)) (i:Nat),((l.take i).map List.length).sum≤l.flatten.length
  | [],i=>by simp
  | a::l,0=>by simp
  | a::l,i+1=>by have:=a17 l i; simp only [List.take_succ_cons,List.map_cons,List.sum_cons,List.flatten_cons,List.length_append]; omega
theorem a77 {α:Type} {l:List α} {i:Nat} (h:i<l.length) (d:α):l.take (i+1)=l.take i++[l.getD i d]:=by
  rw [List.take_add_one,List.getElem?_eq_getElem h,List.getD_eq_getElem?_getD,List.getElem?_eq_getElem h]; rfl
def a98:D4:={ ps:=[.L5,.v J3],rs:=[.d0 true J3],pre:=fun x=>LE.le (α:=Int) 0 x.2.1∧LE.le (α:=Int) x.2.1 1048576,fn:=fun _=>([],()),out:=fun _=>() }
noncomputable def b0F:Env:={ P:=Try.prog,tt:=tt,G8:=[],res:=[Go.ResultVar.tmp 4],rs:=[Ty.d0 true (Ty.int IntKind.i64)],ps:=[PK.L5,PK.v (Ty.int IntKind.i64)],J6:=[],nt:=27 }
theorem a8L:H8 b0F:=L9 w7 trivial
theorem a8G:L7 b0F Try.f125:=⟨rfl,rfl⟩
theorem b6a (x1:Int):exec b0F 1000 [.code (g9 Try.prog 125)] (G9 a98.ps (((),x1,()))) =
  cond (decide (x1<(0:Int))) (.stuck "op") (.n8 (A4 IntKind.i64 ((0:Int) - (0:Int))) (.n8 (A4 IntKind.i64 (x1 - ((0:Int) - (0:Int)))) (cond (decide ((0:Int)<x1 - ((0:Int) - (0:Int)))) (.n8 ((0:Int)=(0:Int)∧(0:Int)=(0:Int)) (.n8 ((0:Int)≤x1 - ((0:Int) - (0:Int))∧x1 - ((0:Int) - (0:Int))≤(140737488355328:Int)∧(x1 - ((0:Int) - (0:Int)))*(↑(Ty.wb (Ty.int IntKind.i64)):Int)≤(140737488355328:Int)) (.n8 ((0:Int)≤(0:Int)∧(0:Int)≤(0:Int)∧(0:Int)≤(↑(List.length (List.replicate (Int.toNat (x1 - ((0:Int) - (0:Int)))) (0:Int))):Int)) (.ret ((G1 (0:Int) (0:Int) (List.replicate (Int.toNat (x1 - ((0:Int) - (0:Int)))) (0:Int)),())))))) (.ret (([],())))))):=by kernel_rfl
theorem a97:a98.Valid Try.prog 125:=by
  refine D4.F1 a8L rfl rfl Try.func125 (c:=g9 Try.prog 125) rfl rfl a8G rfl ?_
  rintro ⟨⟨⟩,(n:Int),⟨⟩⟩ ⟨(h0:0≤n),(h1:n≤1048576)⟩ -
  refine r8 (n:=1000) a8L a8G ?_
  refine s5 (b6a n) ?_
  simp only [x6,Tree.holds,true_and,true_implies,decide_eq_true_eq,decide_eq_false_iff_not,Bool.not_eq_true',Bool.not_eq_false',Int.toNat_natCast,F8,List.length_set,List.length_cons,List.length_nil,a9i]
  refine ⟨fun h=>by omega,fun _=>⟨by omega,fun _=>⟨by omega,fun _=>⟨fun _=>⟨by omega,fun _=>⟨by omega,fun _=>?_⟩⟩,fun _=>rfl⟩⟩⟩⟩
  rfl
def b3y:D4:={ ps:=[.v (.d0 false (.d0 false J3))],rs:=[.d0 true J3],pre:=fun x=>(List.flatten (α:=Int) x.1).length≤1048576,fn:=fun x=>(List.flatten (α:=Int) x.1,()),out:=fun _=>() }
noncomputable def a7v:Env:={ P:=Try.prog,tt:=tt,G8:=[(125,a98)],res:=[Go.ResultVar.tmp 2],rs:=[Ty.d0 true (Ty.int IntKind.i64)],ps:=[PK.v (Ty.d0 false (Ty.d0 false (Ty.int IntKind.i64)))],J6:=[(3,[(0,none),(3,none),(9,none),(10,none),(11,none)]),(11,[(6,some Is),(25,none),(26,none),(27,none)])],nt:=36 }
theorem a4d:H8 a7v:=L9 w7 ⟨a97,trivial⟩
theorem a4b:L7 a7v Try.f18:=⟨rfl,rfl⟩
theorem b7q (x0:List (List Int)):exec a7v 1000 [.code (g9 Try.prog 18)] (G9 b3y.ps ((x0,()))) =
  .cut (j8 (g9 Try.prog 18) 3).1 (j8 (g9 Try.prog 18) 3).2 (St.mk [(0,AV.val (Ty.d0 false (Ty.d0 false (Ty.int IntKind.i64))) x0),(3,AV.val (Ty.int IntKind.i64) (0:Int)),(9,AV.val (Ty.d0 false (Ty.d0 false (Ty.int IntKind.i64))) x0),(10,AV.val (Ty.int IntKind.i64) (↑(List.length x0):Int)),(11,AV.val (Ty.int IntKind.i64) (0:Int))] []):=by kernel_rfl
def b0P (v0:List (List Int)) (v3:Int) (v9:List (List Int)) (v10:Int) (v11:Int):St:=St.mk [(0,AV.val (Ty.d0 false (Ty.d0 false (Ty.int IntKind.i64))) v0),(3,AV.val (Ty.int IntKind.i64) v3),(9,AV.val (Ty.d0 false (Ty.d0 false (Ty.int IntKind.i64))) v9),(10,AV.val (Ty.int IntKind.i64) v10),(11,AV.val (Ty.int IntKind.i64) v11)] []
theorem b6f (v0:List (List Int)) (v3:Int) (v9:List (List Int)) (v10:Int) (v11:Int):exec a7v 1000 (.code (j8 (g9 Try.prog 18) 3).1::.inLoop (j8 (g9 Try.prog 18) 3).1::(j8 (g9 Try.prog 18) 3).2) (b0P v0 v3 v9 v10 v11) =
  cond (decide (v11<v10)) (.n8 ((0:Int)≤v11∧v11<(↑(List.length v9):Int)) (.n8 (A4 IntKind.i64 (v3+(↑(List.length (List.getD v9 (Int.toNat v11) [])):Int))) (cond (decide (v3+(↑(List.length (List.getD v9 (Int.toNat v11) [])):Int)<(0:Int))) (.stuck "op") (.n8 (A4 IntKind.i64 (v11+(1:Int))) (.cut (j8 (g9 Try.prog 18) 3).1 (j8 (g9 Try.prog 18) 3).2 (St.mk [(0,AV.val (Ty.d0 false (Ty.d0 false (Ty.int IntKind.i64))) v0),(3,AV.val (Ty.int IntKind.i64) (v3+(↑(List.length (List.getD v9 (Int.toNat v11) [])):Int))),(9,AV.val (Ty.d0 false (Ty.d0 false (Ty.int IntKind.i64))) v9),(10,AV.val (Ty.int IntKind.i64) v10),(11,AV.val (Ty.int IntKind.i64) (v11+(1:Int)))] [])))))) (.n8 ((0:Int)≤v3∧v3≤(1048576:Int)) (.cut (j8 (g9 Try.prog 18) 11).1 (j8 (g9 Try.prog 18) 11).2 (St.mk [(6,AV.at_ 1000006 []),(25,AV.val (Ty.d0 false (Ty.d0 false (Ty.int IntKind.i64))) v0),(26,AV.val (Ty.int IntKind.i64) (↑(List.length v0):Int)),(27,AV.val (Ty.int IntKind.i64) (0:Int))] [(1000006,f9.own Is [])]))):=by kernel_rfl
def a8P (v25:List (List Int)) (v26:Int) (v27:Int) (o1000006:List Int):St:=St.mk [(6,AV.at_ 1000006 []),(25,AV.val (Ty.d0 false (Ty.d0 false (Ty.int IntKind.i64))) v25),(26,AV.val (Ty.int IntKind.i64) v26),(27,AV.val (Ty.int IntKind.i64) v27)] [(1000006,f9.own Is o1000006)]
theorem b5k (v25:List (List Int)) (v26:Int) (v27:Int) (o1000006:List Int):exec a7v 1000 (.code (j8 (g9 Try.prog 18) 11).1::.inLoop (j8 (g9 Try.prog 18) 11).1::(j8 (g9 Try.prog 18) 11).2) (a8P v25 v26 v27 o1000006) =
  cond (decide (v27<v26)) (.n8 ((0:Int)≤v27∧v27<(↑(List.length v25):Int)) (.n8 (List.length o1000006+List.length (List.getD v25 (Int.toNat v27) [])≤140737488355328∧(List.length o1000006+List.length (List.getD v25 (Int.toNat v27) []))*Ty.wb (Ty.int IntKind.i64)≤140737488355328) (.n8 (A4 IntKind.i64 (v27+(1:Int))) (.cut (j8 (g9 Try.prog 18) 11).1 (j8 (g9 Try.prog 18) 11).2 (St.mk [(6,AV.at_ 1000006 []),(25,AV.val (Ty.d0 false (Ty.d0 false (Ty.int IntKind.i64))) v25),(26,AV.val (Ty.int IntKind.i64) v26),(27,AV.val (Ty.int IntKind.i64) (v27+(1:Int)))] [(1000006,f9.own Is (o1000006++List.getD v25 (Int.toNat v27) []))]))))) (.ret ((o1000006,()))):=by kernel_rfl
theorem b1y:b3y.Valid Try.prog 18:=by
  refine D4.F1 a4d rfl rfl Try.func18 (c:=g9 Try.prog 18) rfl rfl a4b rfl ?_
  rintro ⟨(l:List (List (Int))),⟨⟩⟩ hp ⟨⟨hl,-⟩,-⟩
  have hl:l.length≤9223372036854775807:=hl
  have hp:l.flatten.length≤1048576:=hp
  refine r8 (n:=1000) a4d a4b ?_
  refine s5 (b7q l) ?_
  refine Reach.Z9 a4d a4b (fun i:Nat=>b0P l (((l.take i).map List.length).sum:Nat) l (l.length:Int) (i:Int)) (fun i=>i≤l.length)
    (fun i=>l.length - i) 1000 (fun _=>⟨A3 rfl,A3 rfl⟩) ?_ 0 (Nat.zero_le _)
  rintro i k1 - ih
  have k1:i≤l.length:=k1
  refine s5 (b6f ..) ?_
  have hs:=a17 l i
  simp only [x6,Tree.holds,true_and,true_implies,decide_eq_true_eq,decide_eq_false_iff_not,Bool.not_eq_true',Bool.not_eq_false',Int.toNat_natCast,F8,List.length_set,List.length_cons,List.length_nil]
  refine ⟨fun c=>⟨by omega,fun _=>?_⟩,fun c=>?_⟩
  · have tk:=a77 (show i<l.length by omega) ([]:List (Int))
    have hs1:=a17 l (i+1)
    have e1:((l.take (i+1)).map List.length).sum=((l.take i).map List.length).sum+(l.getD i []).length:=by rw [tk]; simp
    rw [e1] at hs1
    have:=ih (i+1) (by show i+1≤l.length; omega) (by omega)
    rw [e1] at this
    exact ⟨by omega,fun _=>⟨fun h=>by omega,fun _=>⟨by omega,fun _=>this⟩⟩⟩
  · refine ⟨by omega,fun _=>?_⟩
    refine Reach.Z9 a4d a4b (fun i:Nat=>a8P l (l.length:Int) (i:Int) (l.take i).flatten) (fun i=>i≤l.length)
      (fun i=>l.length - i) 1000 (fun _=>⟨A3 rfl,A3 rfl⟩) ?_ 0 (Nat.zero_le _)
    rintro i k1 - ih
    have k1:i≤l.length:=k1
    refine s5 (b5k ..) ?_
    simp only [x6,Tree.holds,true_and,true_implies,decide_eq_true_eq,decide_eq_false_iff_not,Bool.not_eq_true',Bool.not_eq_false',Int.toNat_natCast,F8,List.length_set,List.length_cons,List.length_nil,a9i]
    refine ⟨fun c=>?_,fun c=>?_⟩
    · have tk:=a77 (show i<l.length by omega) ([]:List (Int))
      have e1:(l.take (i+1)).flatten=(l.take i).flatten++l.getD i []:=by rw [tk]; simp
      have hb:((l.take i).flatten++l.getD i []).length≤l.flatten.length:=by
        rw [← e1]
        conv=>rhs; rw [← List.take_append_drop (i+1) l,List.flatten_append,List.length_append]
        omega
      rw [List.length_append] at hb
      have:=ih (i+1) (by show i+1≤l.length; omega) (by omega)
      rw [e1] at this
      exact ⟨by omega,fun _=>⟨by omega,fun _=>⟨by omega,fun _=>this⟩⟩⟩
    · rw [List.take_of_length_le (by omega)]
      rfl
theorem b62 {L:Int} (h:A4 .u8 L) {p:Int} (h0:0≤p) (h1:p≤5):V5 L p=if bit L p.toNat=true then 1 else 0:=by
  have g:=u8_in.1 h
  have key:∀ n:Fin 256,∀ q:Fin 6,V5 ((n.val:Nat):Int) ((q.val:Nat):Int)=if bit ((n.val:Nat):Int) q.val=true then 1 else 0:=by decide +kernel
  have:=key ⟨L.toNat,by omega⟩ ⟨p.toNat,by omega⟩
  simp only [Int.toNat_of_nonneg g.1,Int.toNat_of_nonneg h0] at this
  exact this
end Go.Proofs.Ytekbamiaenbhjaa
