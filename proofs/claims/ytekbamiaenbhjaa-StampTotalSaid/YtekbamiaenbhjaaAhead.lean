/- stamp.Ahead: its contract: which events are ahead of which. -/
import Derived.Test.YtekbamiaenbhjaaBase
import Derived.Test.YtekbamiaenbhjaaHist
namespace Go.Proofs.Ytekbamiaenbhjaa
open Go.Ex
set_option maxRecDepth 100000
def W3 (h:List Ev) (a b:Nat):Bool:=decide ((h.getD a e0).1=(h.getD b e0).1) || (decide ((h.getD a e0).2.1=2) && decide ((h.getD b e0).2.1=3) && decide ((h.getD a e0).2.2.1=(h.getD b e0).2.2.1))
def Y5 (h:List Ev) (T:Nat→Nat→Bool) (b:Nat):Nat→Nat→Bool
  | 0,_=>false
  | a+1,k=>Y5 h T b a k || (W3 h a b && (decide (k=a) || T a k))
def a53 (h:List Ev):Nat→Nat→Nat→Bool
  | 0,_,_=>false
  | n+1,b,k=>if b=n then Y5 h (a53 h n) n n k else a53 h n b k
def hb (h:List Ev) (b k:Nat):Bool:=a53 h (b+1) b k
def N1 (h:List Ev) (a:Nat):Nat→List (Int×Int×Unit)
  | 0=>[]
  | b+1=>N1 h a b++(if hb h b a=true then [((a:Int),(b:Int),())] else [])
def L9 (h:List Ev) (n:Nat):Nat→List (Int×Int×Unit)
  | 0=>[]
  | a+1=>L9 h n a++N1 h a n
def M0 (h:List Ev):List (Int×Int×Unit)×Int×Unit:=if B0 h≠0 then ([],B0 h,()) else (L9 h h.length h.length,0,())
def b1d:D7:={ ps:=[.v Es],rs:=[.d0 true J7,C8],pre:=fun _=>True,fn:=fun x=>M0 x.1,out:=fun _=>() }
noncomputable def a0B:Env:={ P:=Try.prog,tt:=tt,H8:=[(127,a59)],res:=[Go.ResultVar.tmp 2,Go.ResultVar.tmp 3],rs:=[Ty.d0 true J7,Ty.int IntKind.i64],ps:=[PK.v (Ty.d0 false p7)],K0:=[(6,[(0,none),(5,some (Ty.d0 true (Ty.d0 true Ty.bool))),(23,none),(24,none),(25,none)]),(10,[(0,none),(5,some (Ty.d0 true (Ty.d0 true Ty.bool))),(6,none),(7,none),(23,none),(24,none),(25,none),(38,none),(39,none),(40,none)]),(15,[(0,none),(5,some (Ty.d0 true (Ty.d0 true Ty.bool))),(6,none),(7,none),(23,none),(24,none),(25,none),(38,none),(39,none),(40,none),(77,none),(78,none),(79,none)]),(23,[(0,none),(5,some (Ty.d0 true (Ty.d0 true Ty.bool))),(12,some (Ty.d0 true J7)),(104,none),(105,none)]),(26,[(0,none),(5,some (Ty.d0 true (Ty.d0 true Ty.bool))),(12,some (Ty.d0 true J7)),(13,none),(104,none),(105,none),(109,none),(110,none)])],nt:=129 }
theorem a0g:I6 a0B:=L6 y7 ⟨a4L,trivial⟩
theorem a0f:M3 a0B Try.f27:=⟨rfl,rfl⟩
theorem b7T (x0:List (Int×Int×Int×Unit)):exec a0B 1000 [.code (d9 Try.prog 27)] (H7 b1d.ps ((x0,()))) =
  .i5 (True) (cond (decide (B0 x0≠(0:Int))) (.ret (([],B0 x0,()))) (.i5 ((0:Int)≤(↑(List.length x0):Int)∧(↑(List.length x0):Int)≤(↑(List.length x0):Int)∧(↑(List.length x0):Int)≤(140737488355328:Int)∧(↑(List.length x0):Int)*(↑(Ty.wb (Ty.d0 true Ty.bool)):Int)≤(140737488355328:Int)) (.cut (e8 (d9 Try.prog 27) 6).1 (e8 (d9 Try.prog 27) 6).2 (St.mk [(0,AV.val (Ty.d0 false p7) x0),(5,AV.at_ 1000005 []),(23,AV.val (Ty.d0 false p7) x0),(24,AV.val (Ty.int IntKind.i64) (↑(List.length x0):Int)),(25,AV.val (Ty.int IntKind.i64) (0:Int))] [(1000005,g9.own (Ty.d0 true (Ty.d0 true Ty.bool)) (List.replicate (Int.toNat (↑(List.length x0):Int)) []))])))):=by kernel_rfl
def a9w (v0:List (Int×Int×Int×Unit)) (v23:List (Int×Int×Int×Unit)) (v24:Int) (v25:Int) (o1000005:List (List Bool)):St:=St.mk [(0,AV.val (Ty.d0 false p7) v0),(5,AV.at_ 1000005 []),(23,AV.val (Ty.d0 false p7) v23),(24,AV.val (Ty.int IntKind.i64) v24),(25,AV.val (Ty.int IntKind.i64) v25)] [(1000005,g9.own (Ty.d0 true (Ty.d0 true Ty.bool)) o1000005)]
theorem b6o (v0:List (Int×Int×Int×Unit)) (v23:List (Int×Int×Int×Unit)) (v24:Int) (v25:Int) (o1000005:List (List Bool)):exec a0B 1000 (.code (e8 (d9 Try.prog 27) 6).1::.inLoop (e8 (d9 Try.prog 27) 6).1::(e8 (d9 Try.prog 27) 6).2) (a9w v0 v23 v24 v25 o1000005) =
  cond (decide (v25<v24)) (.i5 ((0:Int)≤v25∧v25<(↑(List.length v23):Int)) (.i5 ((0:Int)≤(↑(List.length v0):Int)∧(↑(List.length v0):Int)≤(↑(List.length v0):Int)∧(↑(List.length v0):Int)≤(140737488355328:Int)∧(↑(List.length v0):Int)*(↑(Ty.wb Ty.bool):Int)≤(140737488355328:Int)) (.i5 ((0:Int)≤v25∧v25<(↑(List.length o1000005):Int)) (.i5 ((0:Int)≤(0:Int)∧(0:Int)≤v25∧v25≤(↑(List.length v0):Int)) (.cut (e8 (d9 Try.prog 27) 10).1 (e8 (d9 Try.prog 27) 10).2 (St.mk [(0,AV.val (Ty.d0 false p7) v0),(5,AV.at_ 1000005 []),(6,AV.val (Ty.int IntKind.i64) v25),(7,AV.ptr 7 []),(23,AV.val (Ty.d0 false p7) v23),(24,AV.val (Ty.int IntKind.i64) v24),(25,AV.val (Ty.int IntKind.i64) v25),(38,AV.val (Ty.d0 false p7) (G0 (0:Int) v25 v0)),(39,AV.val (Ty.int IntKind.i64) (↑(List.length (G0 (0:Int) v25 v0)):Int)),(40,AV.val (Ty.int IntKind.i64) (0:Int))] [(7,g9.var p7 (List.getD v23 (Int.toNat v25) ((0:Int),(0:Int),(0:Int),()))),(1000005,g9.own (Ty.d0 true (Ty.d0 true Ty.bool)) (List.set o1000005 (Int.toNat v25) (List.replicate (Int.toNat (↑(List.length v0):Int)) false)))])))))) (.cut (e8 (d9 Try.prog 27) 23).1 (e8 (d9 Try.prog 27) 23).2 (St.mk [(0,AV.val (Ty.d0 false p7) v0),(5,AV.at_ 1000005 []),(12,AV.at_ 1000012 []),(104,AV.val (Ty.int IntKind.i64) (↑(List.length v0):Int)),(105,AV.val (Ty.int IntKind.i64) (0:Int))] [(1000005,g9.own (Ty.d0 true (Ty.d0 true Ty.bool)) o1000005),(1000012,g9.own (Ty.d0 true J7) [])])):=by kernel_rfl
def a4C (v0:List (Int×Int×Int×Unit)) (v6:Int) (v23:List (Int×Int×Int×Unit)) (v24:Int) (v25:Int) (v38:List (Int×Int×Int×Unit)) (v39:Int) (v40:Int) (o7_1:Int) (o7_2_1:Int) (o7_2_2_1:Int) (o1000005:List (List Bool)):St:=St.mk [(0,AV.val (Ty.d0 false p7) v0),(5,AV.at_ 1000005 []),(6,AV.val (Ty.int IntKind.i64) v6),(7,AV.ptr 7 []),(23,AV.val (Ty.d0 false p7) v23),(24,AV.val (Ty.int IntKind.i64) v24),(25,AV.val (Ty.int IntKind.i64) v25),(38,AV.val (Ty.d0 false p7) v38),(39,AV.val (Ty.int IntKind.i64) v39),(40,AV.val (Ty.int IntKind.i64) v40)] [(7,g9.var p7 (o7_1,o7_2_1,o7_2_2_1,())),(1000005,g9.own (Ty.d0 true (Ty.d0 true Ty.bool)) o1000005)]
theorem b41 (v0:List (Int×Int×Int×Unit)) (v6:Int) (v23:List (Int×Int×Int×Unit)) (v24:Int) (v25:Int) (v38:List (Int×Int×Int×Unit)) (v39:Int) (v40:Int) (o7_1:Int) (o7_2_1:Int) (o7_2_2_1:Int) (o1000005:List (List Bool)):exec a0B 1000 (.code (e8 (d9 Try.prog 27) 10).1::.inLoop (e8 (d9 Try.prog 27) 10).1::(e8 (d9 Try.prog 27) 10).2) (a4C v0 v6 v23 v24 v25 v38 v39 v40 o7_1 o7_2_1 o7_2_2_1 o1000005) =
  cond (decide (v40<v39)) (.i5 ((0:Int)≤v40∧v40<(↑(List.length v38):Int)) (cond (decide (Prod.fst (List.getD v38 (Int.toNat v40) ((0:Int),(0:Int),(0:Int),()))≠o7_1)) (cond (decide (Prod.fst (Prod.snd (List.getD v38 (Int.toNat v40) ((0:Int),(0:Int),(0:Int),())))=(2:Int))) (cond (decide (o7_2_1=(3:Int))) (cond (!decide (Prod.fst (Prod.snd (Prod.snd (List.getD v38 (Int.toNat v40) ((0:Int),(0:Int),(0:Int),()))))=o7_2_2_1)) (.i5 (v5 IntKind.i64 (v40+(1:Int))) (.cut (e8 (d9 Try.prog 27) 10).1 (e8 (d9 Try.prog 27) 10).2 (St.mk [(0,AV.val (Ty.d0 false p7) v0),(5,AV.at_ 1000005 []),(6,AV.val (Ty.int IntKind.i64) v6),(7,AV.ptr 7 []),(23,AV.val (Ty.d0 false p7) v23),(24,AV.val (Ty.int IntKind.i64) v24),(25,AV.val (Ty.int IntKind.i64) v25),(38,AV.val (Ty.d0 false p7) v38),(39,AV.val (Ty.int IntKind.i64) v39),(40,AV.val (Ty.int IntKind.i64) (v40+(1:Int)))] [(7,g9.var p7 (o7_1,o7_2_1,o7_2_2_1,())),(1000005,g9.own (Ty.d0 true (Ty.d0 true Ty.bool)) o1000005)]))) (.i5 ((0:Int)≤v6∧v6<(↑(List.length o1000005):Int)) (.i5 ((0:Int)≤v40∧v40<(↑(List.length (List.getD o1000005 (Int.toNat v6) [])):Int)) (.i5 ((0:Int)≤v40∧v40<(↑(List.length (List.set o1000005 (Int.toNat v6) (List.set (List.getD o1000005 (Int.toNat v6) []) (Int.toNat v40) true))):Int)) (.cut (e8 (d9 Try.prog 27) 15).1 (e8 (d9 Try.prog 27) 15).2 (St.mk [(0,AV.val (Ty.d0 false p7) v0),(5,AV.at_ 1000005 []),(6,AV.val (Ty.int IntKind.i64) v6),(7,AV.ptr 7 []),(23,AV.val (Ty.d0 false p7) v23),(24,AV.val (Ty.int IntKind.i64) v24),(25,AV.val (Ty.int IntKind.i64) v25),(38,AV.val (Ty.d0 false p7) v38),(39,AV.val (Ty.int IntKind.i64) v39),(40,AV.val (Ty.int IntKind.i64) v40),(77,AV.at_ 1000005 [Step.idx v40]),(78,AV.val (Ty.int IntKind.i64) (↑(List.length (List.getD (List.set o1000005 (Int.toNat v6) (List.set (List.getD o1000005 (Int.toNat v6) []) (Int.toNat v40) true)) (Int.toNat v40) [])):Int)),(79,AV.val (Ty.int IntKind.i64) (0:Int))] [(7,g9.var p7 (o7_1,o7_2_1,o7_2_2_1,())),(1000005,g9.own (Ty.d0 true (Ty.d0 true Ty.bool)) (List.set o1000005 (Int.toNat v6) (List.set (List.getD o1000005 (Int.toNat v6) []) (Int.toNat v40) true)))])))))) (.i5 (v5 IntKind.i64 (v40+(1:Int))) (.cut (e8 (d9 Try.prog 27) 10).1 (e8 (d9 Try.prog 27) 10).2 (St.mk [(0,AV.val (Ty.d0 false p7) v0),(5,AV.at_ 1000005 []),(6,AV.val (Ty.int IntKind.i64) v6),(7,AV.ptr 7 []),(23,AV.val (Ty.d0 false p7) v23),(24,AV.val (Ty.int IntKind.i64) v24),(25,AV.val (Ty.int IntKind.i64) v25),(38,AV.val (Ty.d0 false p7) v38),(39,AV.val (Ty.int IntKind.i64) v39),(40,AV.val (Ty.int IntKind.i64) (v40+(1:Int)))] [(7,g9.var p7 (o7_1,o7_2_1,o7_2_2_1,())),(1000005,g9.own (Ty.d0 true (Ty.d0 true Ty.bool)) o1000005)])))) (.i5 (v5 IntKind.i64 (v40+(1:Int))) (.cut (e8 (d9 Try.prog 27) 10).1 (e8 (d9 Try.prog 27) 10).2 (St.mk [(0,AV.val (Ty.d0 false p7) v0),(5,AV.at_ 1000005 []),(6,AV.val (Ty.int IntKind.i64) v6),(7,AV.ptr 7 []),(23,AV.val (Ty.d0 false p7) v23),(24,AV.val (Ty.int IntKind.i64) v24),(25,AV.val (Ty.int IntKind.i64) v25),(38,AV.val (Ty.d0 false p7) v38),(39,AV.val (Ty.int IntKind.i64) v39),(40,AV.val (Ty.int IntKind.i64) (v40+(1:Int)))] [(7,g9.var p7 (o7_1,o7_2_1,o7_2_2_1,())),(1000005,g9.own (Ty.d0 true (Ty.d0 true Ty.bool)) o1000005)])))) (.i5 ((0:Int)≤v6∧v6<(↑(List.length o1000005):Int)) (.i5 ((0:Int)≤v40∧v40<(↑(List.length (List.getD o1000005 (Int.toNat v6) [])):Int)) (.i5 ((0:Int)≤v40∧v40<(↑(List.length (List.set o1000005 (Int.toNat v6) (List.set (List.getD o1000005 (Int.toNat v6) []) (Int.toNat v40) true))):Int)) (.cut (e8 (d9 Try.prog 27) 15).1 (e8 (d9 Try.prog 27) 15).2 (St.mk [(0,AV.val (Ty.d0 false p7) v0),(5,AV.at_ 1000005 []),(6,AV.val (Ty.int IntKind.i64) v6),(7,AV.ptr 7 []),(23,AV.val (Ty.d0 false p7) v23),(24,AV.val (Ty.int IntKind.i64) v24),(25,AV.val (Ty.int IntKind.i64) v25),(38,AV.val (Ty.d0 false p7) v38),(39,AV.val (Ty.int IntKind.i64) v39),(40,AV.val (Ty.int IntKind.i64) v40),(77,AV.at_ 1000005 [Step.idx v40]),(78,AV.val (Ty.int IntKind.i64) (↑(List.length (List.getD (List.set o1000005 (Int.toNat v6) (List.set (List.getD o1000005 (Int.toNat v6) []) (Int.toNat v40) true)) (Int.toNat v40) [])):Int)),(79,AV.val (Ty.int IntKind.i64) (0:Int))] [(7,g9.var p7 (o7_1,o7_2_1,o7_2_2_1,())),(1000005,g9.own (Ty.d0 true (Ty.d0 true Ty.bool)) (List.set o1000005 (Int.toNat v6) (List.set (List.getD o1000005 (Int.toNat v6) []) (Int.toNat v40) true)))]))))))) (.i5 (v5 IntKind.i64 (v25+(1:Int))) (.cut (e8 (d9 Try.prog 27) 6).1 (e8 (d9 Try.prog 27) 6).2 (St.mk [(0,AV.val (Ty.d0 false p7) v0),(5,AV.at_ 1000005 []),(23,AV.val (Ty.d0 false p7) v23),(24,AV.val (Ty.int IntKind.i64) v24),(25,AV.val (Ty.int IntKind.i64) (v25+(1:Int)))] [(1000005,g9.own (Ty.d0 true (Ty.d0 true Ty.bool)) o1000005)]))):=by kernel_rfl
def a8c (v0:List (Int×Int×Int×Unit)) (v104:Int) (v105:Int) (o1000005:List (List Bool)) (o1000012:List (Int×Int×Unit)):St:=St.mk [(0,AV.val (Ty.d0 false p7) v0),(5,AV.at_ 1000005 []),(12,AV.at_ 1000012 []),(104,AV.val (Ty.int IntKind.i64) v104),(105,AV.val (Ty.int IntKind.i64) v105)] [(1000005,g9.own (Ty.d0 true (Ty.d0 true Ty.bool)) o1000005),(1000012,g9.own (Ty.d0 true J7) o1000012)]
theorem b4Z (v0:List (Int×Int×Int×Unit)) (v104:Int) (v105:Int) (o1000005:List (List Bool)) (o1000012:List (Int×Int×Unit)):exec a0B 1000 (.code (e8 (d9 Try.prog 27) 23).1::.inLoop (e8 (d9 Try.prog 27) 23).1::(e8 (d9 Try.prog 27) 23).2) (a8c v0 v104 v105 o1000005 o1000012) =
  cond (decide (v105<v104)) (.cut (e8 (d9 Try.prog 27) 26).1 (e8 (d9 Try.prog 27) 26).2 (St.mk [(0,AV.val (Ty.d0 false p7) v0),(5,AV.at_ 1000005 []),(12,AV.at_ 1000012 []),(13,AV.val (Ty.int IntKind.i64) v105),(104,AV.val (Ty.int IntKind.i64) v104),(105,AV.val (Ty.int IntKind.i64) v105),(109,AV.val (Ty.int IntKind.i64) (↑(List.length v0):Int)),(110,AV.val (Ty.int IntKind.i64) (0:Int))] [(1000005,g9.own (Ty.d0 true (Ty.d0 true Ty.bool)) o1000005),(1000012,g9.own (Ty.d0 true J7) o1000012)])) (.ret ((o1000012,(0:Int),()))):=by kernel_rfl
def a4B (v0:List (Int×Int×Int×Unit)) (v6:Int) (v23:List (Int×Int×Int×Unit)) (v24:Int) (v25:Int) (v38:List (Int×Int×Int×Unit)) (v39:Int) (v40:Int) (v77i:Int) (v78:Int) (v79:Int) (o7_1:Int) (o7_2_1:Int) (o7_2_2_1:Int) (o1000005:List (List Bool)):St:=St.mk [(0,AV.val (Ty.d0 false p7) v0),(5,AV.at_ 1000005 []),(6,AV.val (Ty.int IntKind.i64) v6),(7,AV.ptr 7 []),(23,AV.val (Ty.d0 false p7) v23),(24,AV.val (Ty.int IntKind.i64) v24),(25,AV.val (Ty.int IntKind.i64) v25),(38,AV.val (Ty.d0 false p7) v38),(39,AV.val (Ty.int IntKind.i64) v39),(40,AV.val (Ty.int IntKind.i64) v40),(77,AV.at_ 1000005 [Step.idx v77i]),(78,AV.val (Ty.int IntKind.i64) v78),(79,AV.val (Ty.int IntKind.i64) v79)] [(7,g9.var p7 (o7_1,o7_2_1,o7_2_2_1,())),(1000005,g9.own (Ty.d0 true (Ty.d0 true Ty.bool)) o1000005)]
theorem b40 (v0:List (Int×Int×Int×Unit)) (v6:Int) (v23:List (Int×Int×Int×Unit)) (v24:Int) (v25:Int) (v38:List (Int×Int×Int×Unit)) (v39:Int) (v40:Int) (v77i:Int) (v78:Int) (v79:Int) (o7_1:Int) (o7_2_1:Int) (o7_2_2_1:Int) (o1000005:List (List Bool)):exec a0B 1000 (.code (e8 (d9 Try.prog 27) 15).1::.inLoop (e8 (d9 Try.prog 27) 15).1::(e8 (d9 Try.prog 27) 15).2) (a4B v0 v6 v23 v24 v25 v38 v39 v40 v77i v78 v79 o7_1 o7_2_1 o7_2_2_1 o1000005) =
  cond (decide (v79<v78)) (.i5 ((0:Int)≤v79∧v79<(↑(List.length (List.getD o1000005 (Int.toNat v77i) [])):Int)) (.i5 ((0:Int)≤v6∧v6<(↑(List.length o1000005):Int)) (.i5 ((0:Int)≤v6∧v6<(↑(List.length o1000005):Int)) (.i5 ((0:Int)≤v79∧v79<(↑(List.length (List.getD o1000005 (Int.toNat v6) [])):Int)) (cond (List.getD (List.getD o1000005 (Int.toNat v6) []) (Int.toNat v79) false) (.i5 ((0:Int)≤v79∧v79<(↑(List.length (List.getD o1000005 (Int.toNat v6) [])):Int)) (.i5 (v5 IntKind.i64 (v79+(1:Int))) (.cut (e8 (d9 Try.prog 27) 15).1 (e8 (d9 Try.prog 27) 15).2 (St.mk [(0,AV.val (Ty.d0 false p7) v0),(5,AV.at_ 1000005 []),(6,AV.val (Ty.int IntKind.i64) v6),(7,AV.ptr 7 []),(23,AV.val (Ty.d0 false p7) v23),(24,AV.val (Ty.int IntKind.i64) v24),(25,AV.val (Ty.int IntKind.i64) v25),(38,AV.val (Ty.d0 false p7) v38),(39,AV.val (Ty.int IntKind.i64) v39),(40,AV.val (Ty.int IntKind.i64) v40),(77,AV.at_ 1000005 [Step.idx v77i]),(78,AV.val (Ty.int IntKind.i64) v78),(79,AV.val (Ty.int IntKind.i64) (v79+(1:Int)))] [(7,g9.var p7 (o7_1,o7_2_1,o7_2_2_1,())),(1000005,g9.own (Ty.d0 true (Ty.d0 true Ty.bool)) (List.set o1000005 (Int.toNat v6) (List.set (List.getD o1000005 (Int.toNat v6) []) (Int.toNat v79) true)))])))) (.i5 ((0:Int)≤v79∧v79<(↑(List.length (List.getD o1000005 (Int.toNat v6) [])):Int)) (.i5 (v5 IntKind.i64 (v79+(1:Int))) (.cut (e8 (d9 Try.prog 27) 15).1 (e8 (d9 Try.prog 27) 15).2 (St.mk [(0,AV.val (Ty.d0 false p7) v0),(5,AV.at_ 1000005 []),(6,AV.val (Ty.int IntKind.i64) v6),(7,AV.ptr 7 []),(23,AV.val (Ty.d0 false p7) v23),(24,AV.val (Ty.int IntKind.i64) v24),(25,AV.val (Ty.int IntKind.i64) v25),(38,AV.val (Ty.d0 false p7) v38),(39,AV.val (Ty.int IntKind.i64) v39),(40,AV.val (Ty.int IntKind.i64) v40),(77,AV.at_ 1000005 [Step.idx v77i]),(78,AV.val (Ty.int IntKind.i64) v78),(79,AV.val (Ty.int IntKind.i64) (v79+(1:Int)))] [(7,g9.var p7 (o7_1,o7_2_1,o7_2_2_1,())),(1000005,g9.own (Ty.d0 true (Ty.d0 true Ty.bool)) (List.set o1000005 (Int.toNat v6) (List.set (List.getD o1000005 (Int.toNat v6) []) (Int.toNat v79) (List.getD (List.getD o1000005 (Int.toNat v77i) []) (Int.toNat v79) false))))]))))))))) (.i5 (v5 IntKind.i64 (v40+(1:Int))) (.cut (e8 (d9 Try.prog 27) 10).1 (e8 (d9 Try.prog 27) 10).2 (St.mk [(0,AV.val (Ty.d0 false p7) v0),(5,AV.at_ 1000005 []),(6,AV.val (Ty.int IntKind.i64) v6),(7,AV.ptr 7 []),(23,AV.val (Ty.d0 false p7) v23),(24,AV.val (Ty.int IntKind.i64) v24),(25,AV.val (Ty.int IntKind.i64) v25),(38,AV.val (Ty.d0 false p7) v38),(39,AV.val (Ty.int IntKind.i64) v39),(40,AV.val (Ty.int IntKind.i64) (v40+(1:Int)))] [(7,g9.var p7 (o7_1,o7_2_1,o7_2_2_1,())),(1000005,g9.own (Ty.d0 true (Ty.d0 true Ty.bool)) o1000005)]))):=by kernel_rfl
def a8b (v0:List (Int×Int×Int×Unit)) (v13:Int) (v104:Int) (v105:Int) (v109:Int) (v110:Int) (o1000005:List (List Bool)) (o1000012:List (Int×Int×Unit)):St:=St.mk [(0,AV.val (Ty.d0 false p7) v0),(5,AV.at_ 1000005 []),(12,AV.at_ 1000012 []),(13,AV.val (Ty.int IntKind.i64) v13),(104,AV.val (Ty.int IntKind.i64) v104),(105,AV.val (Ty.int IntKind.i64) v105),(109,AV.val (Ty.int IntKind.i64) v109),(110,AV.val (Ty.int IntKind.i64) v110)] [(1000005,g9.own (Ty.d0 true (Ty.d0 true Ty.bool)) o1000005),(1000012,g9.own (Ty.d0 true J7) o1000012)]
theorem b4Y (v0:List (Int×Int×Int×Unit)) (v13:Int) (v104:Int) (v105:Int) (v109:Int) (v110:Int) (o1000005:List (List Bool)) (o1000012:List (Int×Int×Unit)):exec a0B 1000 (.code (e8 (d9 Try.prog 27) 26).1::.inLoop (e8 (d9 Try.prog 27) 26).1::(e8 (d9 Try.prog 27) 26).2) (a8b v0 v13 v104 v105 v109 v110 o1000005 o1000012) =
  cond (decide (v110<v109)) (.i5 ((0:Int)≤v110∧v110<(↑(List.length o1000005):Int)) (.i5 ((0:Int)≤v13∧v13<(↑(List.length (List.getD o1000005 (Int.toNat v110) [])):Int)) (cond (List.getD (List.getD o1000005 (Int.toNat v110) []) (Int.toNat v13) false) (.i5 (List.length o1000012+List.length (List.set [((0:Int),(0:Int),())] (Int.toNat (↑0:Int)) (v13,v110,()))≤140737488355328∧(List.length o1000012+List.length (List.set [((0:Int),(0:Int),())] (Int.toNat (↑0:Int)) (v13,v110,())))*Ty.wb J7≤140737488355328) (.i5 (v5 IntKind.i64 (v110+(1:Int))) (.cut (e8 (d9 Try.prog 27) 26).1 (e8 (d9 Try.prog 27) 26).2 (St.mk [(0,AV.val (Ty.d0 false p7) v0),(5,AV.at_ 1000005 []),(12,AV.at_ 1000012 []),(13,AV.val (Ty.int IntKind.i64) v13),(104,AV.val (Ty.int IntKind.i64) v104),(105,AV.val (Ty.int IntKind.i64) v105),(109,AV.val (Ty.int IntKind.i64) v109),(110,AV.val (Ty.int IntKind.i64) (v110+(1:Int)))] [(1000005,g9.own (Ty.d0 true (Ty.d0 true Ty.bool)) o1000005),(1000012,g9.own (Ty.d0 true J7) (o1000012++List.set [((0:Int),(0:Int),())] (Int.toNat (↑0:Int)) (v13,v110,())))])))) (.i5 (v5 IntKind.i64 (v110+(1:Int))) (.cut (e8 (d9 Try.prog 27) 26).1 (e8 (d9 Try.prog 27) 26).2 (St.mk [(0,AV.val (Ty.d0 false p7) v0),(5,AV.at_ 1000005 []),(12,AV.at_ 1000012 []),(13,AV.val (Ty.int IntKind.i64) v13),(104,AV.val (Ty.int IntKind.i64) v104),(105,AV.val (Ty.int IntKind.i64) v105),(109,AV.val (Ty.int IntKind.i64) v109),(110,AV.val (Ty.int IntKind.i64) (v110+(1:Int)))] [(1000005,g9.own (Ty.d0 true (Ty.d0 true Ty.bool)) o1000005),(1000012,g9.own (Ty.d0 true J7) o1000012)])))))) (.i5 (v5 IntKind.i64 (v105+(1:Int))) (.cut (e8 (d9 Try.prog 27) 23).1 (e8 (d9 Try.prog 27) 23).2 (St.mk [(0,AV.val (Ty.d0 false p7) v0),(5,AV.at_ 1000005 []),(12,AV.at_ 1000012 []),(104,AV.val (Ty.int IntKind.i64) v104),(105,AV.val (Ty.int IntKind.i64) (v105+(1:Int)))] [(1000005,g9.own (Ty.d0 true (Ty.d0 true Ty.bool)) o1000005),(1000012,g9.own (Ty.d0 true J7) o1000012)]))):=by kernel_rfl

theorem b0M {h:List Ev}:∀ {n b:Nat},b<n→∀ k,a53 h n b k=hb h b k
  | 0,_,hb,_=>by omega
  | n+1,b,hlt,k=>by
    by_cases e:b=n
    · subst e; rfl
    · simp only [a53,if_neg e]; exact b0M (by omega) k
theorem a6t {h:List Ev} {T T':Nat→Nat→Bool} {b:Nat}:∀ {a:Nat},(∀ c,c<a→∀ k,T c k=T' c k)→∀ k,Y5 h T b a k=Y5 h T' b a k
  | 0,_,_=>rfl
  | a+1,hT,k=>by simp only [Y5,a6t (a:=a) (fun c hc=>hT c (by omega)),hT a (by omega)]
theorem b5N {h:List Ev} {b k:Nat}:hb h b k=Y5 h (hb h) b b k:=by
  rw [hb,a53,if_pos rfl]
  exact a6t (fun c hc k=>b0M hc k) k
theorem a81 {h:List Ev} {T:Nat→Nat→Bool} {b k:Nat}:∀ {a:Nat},Y5 h T b a k=true↔∃ c,c<a∧W3 h c b=true∧(k=c∨T c k=true)
  | 0=>by simp [Y5]
  | a+1=>by
    simp only [Y5,Bool.or_eq_true,Bool.and_eq_true,decide_eq_true_eq,a81 (a:=a)]
    constructor
    · rintro (⟨c,a1,a2⟩|⟨a1,a2⟩)
      · exact ⟨c,by omega,a2⟩
      · exact ⟨a,by omega,a1,a2⟩
    · rintro ⟨c,a1,a2,a3⟩
      by_cases e:c=a
      · subst e; exact .inr ⟨a2,a3⟩
      · exact .inl ⟨c,by omega,a2,a3⟩
theorem b9q {h:List Ev} {b k:Nat}:hb h b k=true↔∃ c,c<b∧W3 h c b=true∧(k=c∨hb h c k=true):=by rw [b5N,a81]

/-! the table, as it grows -/
def a1n (h:List Ev) (b:Nat):List Bool:=(List.range h.length).map (hb h b)
def a0F (h:List Ev) (b a:Nat):List Bool:=(List.range h.length).map (Y5 h (hb h) b a)
def a32 (h:List Ev) (b a k:Nat):List Bool:=(List.range h.length).map (fun j=>Y5 h (hb h) b a j || decide (j=a) || (decide (j<k) && hb h a j))
def W0 (h:List Ev) (b:Nat) (r:List Bool):List (List Bool):=(List.range b).map (a1n h)++r::List.replicate (h.length - (b+1)) []
theorem b5q {h:List Ev} {b:Nat}:a0F h b b=a1n h b:=by
  refine List.map_congr_left (fun k _=>?_)
  exact b5N.symm
theorem b5o {h:List Ev} {b:Nat}:a0F h b 0=List.replicate h.length false:=by
  refine List.ext_getElem (by simp [a0F]) (fun i h1 h2=>?_)
  simp [a0F,Y5]
theorem b5l {h:List Ev} {b a:Nat} (ha:a<h.length):(a0F h b a).set a true=a32 h b a 0:=by
  rw [a0F,a4E _ _ ha]
  refine List.map_congr_left (fun j _=>?_)
  by_cases e:j=a
  · simp [e]
  · simp [e]
theorem b5m {h:List Ev} {b a k:Nat} (hk:k<h.length):(a32 h b a k).set k ((a32 h b a k).getD k false || hb h a k)=a32 h b a (k+1):=by
  rw [a32,a1w _ _ hk,a4E _ _ hk]
  refine List.map_congr_left (fun j _=>?_)
  by_cases e:j=k
  · subst e
    rw [if_pos rfl]
    simp [show ¬ j<j by omega,show j<j+1 by omega]
  · rw [if_neg e,show decide (j<k+1)=decide (j<k) from decide_eq_decide.2 (by omega)]
theorem b5n {h:List Ev} {b a:Nat} (he:W3 h a b=true):a32 h b a h.length=a0F h b (a+1):=by
  refine List.map_congr_left (fun j hj=>?_)
  have hj:j<h.length:=List.mem_range.1 hj
  simp [Y5,he,hj,Bool.or_assoc]
theorem b5p {h:List Ev} {b a:Nat} (he:W3 h a b=false):a0F h b (a+1)=a0F h b a:=by
  refine List.map_congr_left (fun j _=>?_)
  simp [Y5,he]
theorem a96 {h:List Ev} {b:Nat} {r:List Bool} (hb:b<h.length):(W0 h b r).length=h.length:=by simp [W0]; omega
theorem b2G {h:List Ev} {b:Nat} {r:List Bool}:(W0 h b r).getD b []=r:=by
  rw [W0,List.getD_eq_getElem?_getD,List.getElem?_append_right (by simp)]; simp
theorem a95 {h:List Ev} {b a:Nat} {r:List Bool} (hab:a<b):(W0 h b r).getD a []=a1n h a:=by
  rw [W0,List.getD_eq_getElem?_getD,List.getElem?_append_left (by simpa using hab),List.getElem?_map,List.getElem?_range hab]; rfl
theorem a94 {h:List Ev} {b:Nat} {r x:List Bool}:(W0 h b r).set b x=W0 h b x:=by
  rw [W0,List.set_append,if_neg (by simp)]; simp [W0]
theorem b5e {h:List Ev} {b:Nat} (hb:b<h.length) (x:List Bool):((List.range b).map (a1n h)++List.replicate (h.length - b) []).set b x=W0 h b x:=by
  rw [List.set_append,if_neg (by simp),show h.length - b=(h.length - (b+1))+1 by omega,List.replicate_succ]; simp [W0]
theorem b6u {h:List Ev} {b:Nat} (hb:b<h.length):W0 h b (a1n h b)=(List.range (b+1)).map (a1n h)++List.replicate (h.length - (b+1)) []:=by
  rw [W0,List.range_succ,List.map_append,List.append_assoc]; rfl
theorem a6P {h:List Ev} {a:Nat}:(a1n h a).length=h.length:=by simp [a1n]
theorem b6D {h:List Ev} {b a:Nat}:(a0F h b a).length=h.length:=by simp [a0F]
theorem b6C {h:List Ev} {b a k:Nat}:(a32 h b a k).length=h.length:=by simp [a32]
theorem b2O {h:List Ev} {a k:Nat} (hk:k<h.length):(a1n h a).getD k false=hb h a k:=a1w _ _ hk
theorem b6t {α:Type} {l:List α} {a b:Nat} {d:α} (h:a<b):(l.take b).getD a d=l.getD a d:=by
  rw [List.getD_eq_getElem?_getD,List.getD_eq_getElem?_getD,List.getElem?_take,if_pos h]
theorem a2y {h:List Ev} {a:Nat}:∀ {b:Nat},(N1 h a b).length≤b
  | 0=>by simp [N1]
  | b+1=>by
    have:=a2y (h:=h) (a:=a) (b:=b)
    simp only [N1,List.length_append]
    split<;>simp<;>omega
theorem a5w {h:List Ev} {n:Nat} (hn:n≤60):∀ {a:Nat},(L9 h n a).length≤a*60
  | 0=>by simp [L9]
  | a+1=>by
    have h1:=a5w (h:=h) hn (a:=a)
    have h2:=a2y (h:=h) (a:=a) (b:=n)
    simp only [L9,List.length_append]
    omega
theorem b7k {α:Type} (l:List α) (n:Nat):G0 0 (n:Int) l=l.take n:=by simp [G0]
theorem b45 (o:Bool) (t:Ty):Ty.wb (.d0 o t)=24:=rfl
theorem b1c:b1d.Valid Try.prog 27:=by
  refine D7.E6 a0g rfl rfl Try.func27 (c:=d9 Try.prog 27) rfl rfl a0f rfl ?_
  rintro ⟨(h:List Ev),⟨⟩⟩ - -
  refine s4 (n:=1000) a0g a0f ?_
  refine n9 (b7T h) ?_
  simp only [q8,Tree.holds,true_and,true_implies,decide_eq_true_eq,decide_eq_false_iff_not,Bool.not_eq_true',Bool.not_eq_false',Int.toNat_natCast,w7,List.length_set,List.length_cons,List.length_nil,b45]
  refine ⟨fun a=>?_,fun a=>?_⟩
  · show (([],B0 h,()):List (Int×Int×Unit)×Int×Unit)=M0 h; rw [M0,if_pos a]
  have hh:B0 h=0:=Decidable.of_not_not a
  have hl:=(Z3 hh).1
  refine ⟨⟨by omega,by omega,by omega,by omega⟩,fun _=>?_⟩
  refine Reach.K1 a0g a0f (fun b:Nat=>a9w h h (h.length:Int) (b:Int) ((List.range b).map (a1n h)++List.replicate (h.length - b) [])) (fun b=>b≤h.length)
    (fun b=>h.length - b) 1000 (fun _=>⟨s6 rfl,s6 rfl⟩) ?_ 0 (by omega)
  rintro b kb - ihb
  refine n9 (b6o ..) ?_
  simp only [q8,Tree.holds,true_and,true_implies,decide_eq_true_eq,decide_eq_false_iff_not,Bool.not_eq_true',Bool.not_eq_false',Int.toNat_natCast,w7,List.length_set,List.length_cons,List.length_nil,b45,b8k,List.length_append,List.length_map,List.length_range,List.length_replicate]
  have hk:v5 .i64 ((b:Int)+1):=w7.2 ⟨by omega,by omega⟩
  refine ⟨fun hb=>⟨by omega,fun _=>⟨⟨by omega,by omega,by omega,by omega⟩,fun _=>⟨by omega,fun _=>⟨⟨by omega,by omega⟩,fun _=>?_⟩⟩⟩⟩,fun hb=>?_⟩
  · have hb:b<h.length:=by omega
    rw [b5e hb,← b5o (h:=h) (b:=b),b7k]
    refine Reach.K1 a0g a0f (fun a:Nat=>a4C h (b:Int) h (h.length:Int) (b:Int) (h.take b) ((h.take b).length:Int) (a:Int) (h.getD b e0).1 (h.getD b e0).2.1 (h.getD b e0).2.2.1 (W0 h b (a0F h b a))) (fun a=>a≤b)
      (fun a=>b - a) 1000 (fun _=>⟨s6 rfl,s6 rfl⟩) ?_ 0 (by omega)
    rintro a ka - iha
    refine n9 (b41 ..) ?_
    have htl:(h.take b).length=b:=by simp; omega
    simp only [q8,Tree.holds,true_and,true_implies,decide_eq_true_eq,decide_eq_false_iff_not,Bool.not_eq_true',Bool.not_eq_false',Int.toNat_natCast,w7,List.length_set,List.length_cons,List.length_nil,htl,a96 hb,b2G,b6D,a94]
    have hke:a<b→∀ {P:Prop},v5 .i64 ((a:Int)+1):=fun h _=>w7.2 ⟨by omega,by omega⟩
    refine ⟨fun hab=>⟨by omega,fun _=>?_⟩,fun hab=>⟨by omega,fun _=>?_⟩⟩
    · have hab:a<b:=by omega
      rw [b6t hab]
      rw [show ((W0 h b ((a0F h b a).set a true)).getD a []).length=h.length by rw [a95 hab,a6P]]
      have hin:W3 h a b=true→Ex.Reach a0B Try.f27 (M0 h) () (.code (e8 (d9 Try.prog 27) 15).1::.inLoop (e8 (d9 Try.prog 27) 15).1::(e8 (d9 Try.prog 27) 15).2)
          (a4B h (b:Int) h (h.length:Int) (b:Int) (h.take b) (b:Int) (a:Int) (a:Int) (h.length:Int) 0 (h.getD b e0).1 (h.getD b e0).2.1 (h.getD b e0).2.2.1 (W0 h b ((a0F h b a).set a true))):=by
        intro he
        rw [b5l (by omega)]
        refine Reach.K1 a0g a0f (fun k:Nat=>a4B h (b:Int) h (h.length:Int) (b:Int) (h.take b) (b:Int) (a:Int) (a:Int) (h.length:Int) (k:Int) (h.getD b e0).1 (h.getD b e0).2.1 (h.getD b e0).2.2.1 (W0 h b (a32 h b a k))) (fun k=>k≤h.length)
          (fun k=>h.length - k) 1000 (fun _=>⟨s6 rfl,s6 rfl⟩) ?_ 0 (by omega)
        rintro k kk - ihk
        refine n9 (b40 ..) ?_
        simp only [q8,Tree.holds,true_and,true_implies,decide_eq_true_eq,decide_eq_false_iff_not,Bool.not_eq_true',Bool.not_eq_false',Int.toNat_natCast,w7,List.length_set,List.length_cons,List.length_nil,a96 hb,b2G,a95 hab,b6C,a6P,a94]
        refine ⟨fun hkl=>?_,fun hkl=>⟨by omega,fun _=>?_⟩⟩
        · have hkl:k<h.length:=by omega
          have h9:=ihk (k+1) (by omega) (by omega)
          rw [← b5m hkl] at h9
          rw [b2O hkl]
          refine ⟨by omega,fun _=>⟨by omega,fun _=>⟨by omega,fun _=>⟨by omega,fun _=>⟨fun hr=>⟨by omega,fun _=>⟨by omega,fun _=>?_⟩⟩,fun hr=>⟨by omega,fun _=>⟨by omega,fun _=>?_⟩⟩⟩⟩⟩⟩⟩
          · rw [hr,Bool.true_or] at h9; exact h9
          · rw [hr,Bool.false_or] at h9; exact h9
        · have hkl:k=h.length:=by omega
          subst hkl
          rw [b5n he]
          have h9:=iha (a+1) (by omega) (by omega)
          rw [htl] at h9
          exact h9
      have hsk:W3 h a b=false→Ex.Reach a0B Try.f27 (M0 h) () (.code (e8 (d9 Try.prog 27) 10).1::.inLoop (e8 (d9 Try.prog 27) 10).1::(e8 (d9 Try.prog 27) 10).2)
          (a4C h (b:Int) h (h.length:Int) (b:Int) (h.take b) (b:Int) ((a:Int)+1) (h.getD b e0).1 (h.getD b e0).2.1 (h.getD b e0).2.2.1 (W0 h b (a0F h b a))):=by
        intro he
        have h9:=iha (a+1) (by omega) (by omega)
        rw [b5p he,htl] at h9
        exact h9
      have hK:-9223372036854775808≤(a:Int)+1∧(a:Int)+1≤9223372036854775807:=by omega
      refine ⟨fun e1=>⟨fun e2=>⟨fun e3=>⟨fun e4=>⟨hK,fun _=>hsk (by simp [W3,-List.getD_eq_getElem?_getD,e1,e4])⟩,fun e4=>⟨by omega,fun _=>⟨by omega,fun _=>⟨by omega,fun _=>hin (by simp [W3,-List.getD_eq_getElem?_getD,e2,e3,e4])⟩⟩⟩⟩,
        fun e3=>⟨hK,fun _=>hsk (by simp [W3,-List.getD_eq_getElem?_getD,e1,e3])⟩⟩,fun e2=>⟨hK,fun _=>hsk (by simp [W3,-List.getD_eq_getElem?_getD,e1,e2])⟩⟩,fun e1=>⟨by omega,fun _=>⟨by omega,fun _=>⟨by omega,fun _=>hin (by simp [W3,-List.getD_eq_getElem?_getD,Decidable.of_not_not e1])⟩⟩⟩⟩
    · have hab:a=b:=by omega
      subst hab
      rw [b5q,b6u hb]
      exact ihb (a+1) (by omega) (by omega)
  have hbe:b=h.length:=by omega
  subst hbe
  rw [Nat.sub_self,List.replicate_zero,List.append_nil]
  have htl:((List.range h.length).map (a1n h)).length=h.length:=by simp
  clear ihb
  refine Reach.K1 a0g a0f (fun a:Nat=>a8c h (h.length:Int) (a:Int) ((List.range h.length).map (a1n h)) (L9 h h.length a)) (fun a=>a≤h.length)
    (fun a=>h.length - a) 1000 (fun _=>⟨s6 rfl,s6 rfl⟩) ?_ 0 (by omega)
  rintro a ka - iha
  refine n9 (b4Z ..) ?_
  simp only [q8,Tree.holds,true_and,true_implies,decide_eq_true_eq,decide_eq_false_iff_not,Bool.not_eq_true',Bool.not_eq_false',Int.toNat_natCast,w7,List.length_set,List.length_cons,List.length_nil]
  refine ⟨fun ha=>?_,fun ha=>?_⟩
  · have ha:a<h.length:=by omega
    rw [show L9 h h.length a=L9 h h.length a++N1 h a 0 by simp [N1]]
    refine Reach.K1 a0g a0f (fun b:Nat=>a8b h (a:Int) (h.length:Int) (a:Int) (h.length:Int) (b:Int) ((List.range h.length).map (a1n h)) (L9 h h.length a++N1 h a b)) (fun b=>b≤h.length)
      (fun b=>h.length - b) 1000 (fun _=>⟨s6 rfl,s6 rfl⟩) ?_ 0 (by omega)
    rintro b kb - ihb
    refine n9 (b4Y ..) ?_
    simp only [q8,Tree.holds,true_and,true_implies,decide_eq_true_eq,decide_eq_false_iff_not,Bool.not_eq_true',Bool.not_eq_false',Int.toNat_natCast,w7,List.length_set,List.length_cons,List.length_nil,htl]
    have q1:=a5w (h:=h) hl (a:=a)
    have q2:=a2y (h:=h) (a:=a) (b:=b)
    refine ⟨fun hb=>?_,fun hb=>⟨by omega,fun _=>?_⟩⟩
    · have hb:b<h.length:=by omega
      have h9:=ihb (b+1) (by omega) (by omega)
      rw [a1w _ _ hb,a6P,b2O ha]
      refine ⟨by omega,fun _=>⟨by omega,fun _=>⟨fun hr=>⟨?_,fun _=>⟨by omega,fun _=>?_⟩⟩,fun hr=>⟨by omega,fun _=>?_⟩⟩⟩⟩
      · simp only [List.length_append,b8j]; omega
      · rw [N1,if_pos hr,← List.append_assoc] at h9; exact h9
      · rw [N1,if_neg (by simp [hr]),List.append_nil] at h9; exact h9
    · have hb:b=h.length:=by omega
      subst hb
      exact iha (a+1) (by omega) (by omega)
  · have ha:a=h.length:=by omega
    subst ha
    show ((L9 h h.length h.length,0,()):List (Int×Int×Unit)×Int×Unit)=M0 h
    rw [M0,if_neg (by simp [hh])]
end Go.Proofs.Ytekbamiaenbhjaa
