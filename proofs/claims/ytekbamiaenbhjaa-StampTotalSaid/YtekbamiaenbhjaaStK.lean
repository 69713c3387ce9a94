/- stamp.Total: the events in the order of their stamps. StampTotal. No condition. -/
import Derived.Test.YtekbamiaenbhjaaStJ
import Derived.Test.YtekbamiaenbhjaaHist2
namespace Go.Proofs.Ytekbamiaenbhjaa
open Go.Ex Go.Sort
set_option maxRecDepth 100000
def N7 (n:Nat):List Int:=(List.range n).map (fun (i:Nat)=>(i:Int))
def M8 (h:List I5):List Int×Int×Unit:=if B0 h≠0 then ([],B0 h,()) else (y8 (x6 (stamps h).1 h) (N7 h.length),0,())
def b02:D7:={ ps:=[.v Es],rs:=[Is,C8],pre:=fun _=>True,fn:=fun x=>M8 x.1,out:=fun _=>() }
noncomputable def a77:Env:={ P:=Try.prog,tt:=tt,H8:=[(71,a8A),(129,b06)],res:=[Go.ResultVar.tmp 2,Go.ResultVar.tmp 3],rs:=[Ty.d0 true (Ty.int IntKind.i64),Ty.int IntKind.i64],ps:=[PK.v (Ty.d0 false p7)],K0:=[(6,[(1,none),(4,none),(6,some Is),(17,none),(18,none)])],nt:=30 }
theorem a5F:I6 a77:=L6 y7 ⟨a9I,b05,trivial⟩
theorem a5D:M3 a77 Try.f28:=⟨rfl,rfl⟩
theorem b7C (x0:List (Int×Int×Int×Unit)):exec a77 1000 [.code (d9 Try.prog 28)] (H7 b02.ps ((x0,()))) =
  .i5 (True) (cond (decide (Prod.fst (Prod.snd (stamps x0))≠(0:Int))) (.ret (([],Prod.fst (Prod.snd (stamps x0)),()))) (.cut (e8 (d9 Try.prog 28) 6).1 (e8 (d9 Try.prog 28) 6).2 (St.mk [(1,AV.ptr 1 []),(4,AV.ptr 4 []),(6,AV.at_ 1000006 []),(17,AV.val (Ty.int IntKind.i64) (↑(List.length x0):Int)),(18,AV.val (Ty.int IntKind.i64) (0:Int))] [(1,g9.var (Ty.d0 false p7) x0),(4,g9.var Is (Prod.fst (stamps x0))),(1000006,g9.own Is [])]))):=by kernel_rfl
def a9q (v17:Int) (v18:Int) (o1:List (Int×Int×Int×Unit)) (o4:List Int) (o1000006:List Int):St:=St.mk [(1,AV.ptr 1 []),(4,AV.ptr 4 []),(6,AV.at_ 1000006 []),(17,AV.val (Ty.int IntKind.i64) v17),(18,AV.val (Ty.int IntKind.i64) v18)] [(1,g9.var (Ty.d0 false p7) o1),(4,g9.var Is o4),(1000006,g9.own Is o1000006)]
theorem b6h (v17:Int) (v18:Int) (o1:List (Int×Int×Int×Unit)) (o4:List Int) (o1000006:List Int):exec a77 1000 (.code (e8 (d9 Try.prog 28) 6).1::.inLoop (e8 (d9 Try.prog 28) 6).1::(e8 (d9 Try.prog 28) 6).2) (a9q v17 v18 o1 o4 o1000006) =
  cond (decide (v18<v17)) (.i5 (List.length o1000006+List.length (List.set [(0:Int)] (Int.toNat (↑0:Int)) v18)≤140737488355328∧(List.length o1000006+List.length (List.set [(0:Int)] (Int.toNat (↑0:Int)) v18))*Ty.wb (Ty.int IntKind.i64)≤140737488355328) (.i5 (v5 IntKind.i64 (v18+(1:Int))) (.cut (e8 (d9 Try.prog 28) 6).1 (e8 (d9 Try.prog 28) 6).2 (St.mk [(1,AV.ptr 1 []),(4,AV.ptr 4 []),(6,AV.at_ 1000006 []),(17,AV.val (Ty.int IntKind.i64) v17),(18,AV.val (Ty.int IntKind.i64) (v18+(1:Int)))] [(1,g9.var (Ty.d0 false p7) o1),(4,g9.var Is o4),(1000006,g9.own Is (o1000006++List.set [(0:Int)] (Int.toNat (↑0:Int)) v18))])))) (.i5 (List.length o1000006<1000000∧OkL o4 o1 o1000006) (.ret ((y8 (x6 o4 o1) o1000006,(0:Int),())))):=by kernel_rfl
theorem a2d {n:Nat}:(N7 n).length=n:=by simp [N7]
theorem a2f {n:Nat} {x:Int}:x∈N7 n↔0≤x∧x<(n:Int):=by
  simp only [N7,List.mem_map,List.mem_range]
  constructor
  · rintro ⟨k,hk,rfl⟩; omega
  · rintro ⟨h1,h2⟩; exact ⟨x.toNat,by omega,by omega⟩
theorem b0w {n:Nat}:(N7 n).Nodup:=by
  rw [N7,List.Nodup,List.pairwise_map]
  exact List.nodup_range.imp (fun h e=>h (by omega))
theorem b1X {n:Nat}:N7 (n+1)=N7 n++[(n:Int)]:=by simp [N7,List.range_succ]
theorem a8W {h:List I5} (hh:B0 h=0):OkL (stamps h).1 h (N7 h.length):=by
  obtain ⟨s1,-,-⟩:=a1D hh
  have hl:=(Z3 hh).1
  refine ⟨s1,⟨by rw [a2d]; omega,fun x hx=>by rw [a2f] at hx; omega⟩,?_⟩
  intro a ha b hb e1 e2
  rw [a2f] at ha hb
  simp only [x6,decide_eq_false_iff_not,a3u] at e1 e2
  have hp:(h.getD a.toNat ev0).1=(h.getD b.toNat ev0).1:=by omega
  have hs:(stamps h).1.getD a.toNat 0=(stamps h).1.getD b.toNat 0:=by omega
  have hp2:pr h a.toNat=pr h b.toNat:=congrArg Int.toNat hp
  rcases Nat.lt_trichotomy a.toNat b.toNat with c|c|c
  · have:=a6S hh c (by omega) hp2; omega
  · omega
  · have:=a6S hh c (by omega) hp2.symm; omega
theorem b01:b02.Valid Try.prog 28:=by
  refine D7.E6 a5F rfl rfl Try.func28 (c:=d9 Try.prog 28) rfl rfl a5D rfl ?_
  rintro ⟨(h:List I5),⟨⟩⟩ - ⟨⟨hl,-⟩,-⟩
  refine s4 (n:=1000) a5F a5D ?_
  refine n9 (b7C h) ?_
  have hd:M8 h=if B0 h≠0 then ([],B0 h,()) else (y8 (x6 (stamps h).1 h) (N7 h.length),0,()):=rfl
  have he:(stamps h).2.1=B0 h:=b3x
  rw [he]
  simp only [q8,Tree.holds,true_and,true_implies,decide_eq_true_eq,decide_eq_false_iff_not,Bool.not_eq_true',Bool.not_eq_false',Int.toNat_natCast,w7,List.length_set,List.length_cons,List.length_nil]
  refine ⟨fun a=>?_,fun a=>?_⟩
  · show (([],B0 h,()):List Int×Int×Unit)=M8 h
    rw [hd,if_pos a]
  have hh:=Decidable.not_not.1 a
  have hok:=a8W hh
  have hl:=(Z3 hh).1
  rw [if_neg a] at hd
  generalize (stamps h).1=S at *
  refine Reach.K1 a5F a5D (fun i:Nat=>a9q (h.length:Int) (i:Int) h S (N7 i)) (fun i=>i≤h.length) (fun i=>h.length - i) 1000 (fun _=>⟨s6 rfl,s6 rfl⟩) ?_ 0 (Nat.zero_le _)
  rintro i (k1:i≤h.length) - ih
  refine n9 (b6h ..) ?_
  have e1:List.set [(0:Int)] (Int.toNat (0:Int)) (i:Int)=[(i:Int)]:=rfl
  have w8:Ty.wb C8=8:=rfl
  simp only [q8,Tree.holds,true_and,true_implies,decide_eq_true_eq,decide_eq_false_iff_not,Bool.not_eq_true',Bool.not_eq_false',Int.toNat_natCast,w7,List.length_set,List.length_cons,List.length_nil,e1,a2d,w8]
  refine ⟨fun c=>⟨⟨by omega,by omega⟩,fun _=>⟨by omega,fun _=>?_⟩⟩,fun c=>?_⟩
  · have next:=ih (i+1) (by omega) (by omega)
    rw [b1X] at next
    exact next
  · obtain rfl:i=h.length:=by omega
    refine ⟨⟨by omega,hok⟩,fun _=>?_⟩
    rw [hd]; rfl
def a0t (at_:List Int) (x:Int×Int×Unit):Bool:=decide (at_.getD x.2.1.toNat 0≤at_.getD x.1.toNat 0)
def b7q:D7:={ ps:=[.v J7,.rd (.d0 false C8)],rs:=[.bool],pre:=fun x=>(LE.le (α:=Int) 0 x.1.1∧LT.lt (α:=Int) x.1.1 (List.length (α:=Int) x.2.1))∧LE.le (α:=Int) 0 x.1.2.1∧LT.lt (α:=Int) x.1.2.1 (List.length (α:=Int) x.2.1),fn:=fun x=>(a0t x.2.1 x.1,()),out:=fun _=>() }
noncomputable def b7S:Env:={ P:=Try.prog,tt:=tt,H8:=[],res:=[Go.ResultVar.tmp 3],rs:=[Ty.bool],ps:=[PK.v J7,PK.rd (Ty.d0 false (Ty.int IntKind.i64))],K0:=[],nt:=15 }
theorem b3r:I6 b7S:=L6 y7 trivial
theorem b3n:M3 b7S Try.f50:=⟨rfl,rfl⟩
theorem b9L (x0_1:Int) (x0_2_1:Int) (x1:List Int):exec b7S 1000 [.code (d9 Try.prog 50)] (H7 b7q.ps (((x0_1,x0_2_1,()),x1,()))) =
  .i5 ((0:Int)≤x0_1∧x0_1<(↑(List.length x1):Int)) (.i5 ((0:Int)≤x0_2_1∧x0_2_1<(↑(List.length x1):Int)) (.ret ((decide (List.getD x1 (Int.toNat x0_2_1) (0:Int)≤List.getD x1 (Int.toNat x0_1) (0:Int)),())))):=by kernel_rfl
theorem b4t:b7q.Valid Try.prog 50:=by
  refine D7.E6 b3r rfl rfl Try.func50 (c:=d9 Try.prog 50) rfl rfl b3n rfl ?_
  rintro ⟨⟨(a:Int),(b:Int),⟨⟩⟩,(l:List Int),⟨⟩⟩ ⟨⟨(h1:0≤a),(h2:a<(l.length:Int))⟩,(h3:0≤b),(h4:b<(l.length:Int))⟩ -
  refine s4 (n:=1000) b3r b3n ?_
  refine n9 (b9L a b l) ?_
  exact ⟨⟨h1,h2⟩,fun _=>⟨⟨h3,h4⟩,fun _=>rfl⟩⟩
def b4n:D7:={ ps:=[.v (.d0 false J7),.s5 50 [.d0 false C8]],rs:=[C8],pre:=fun x=>∀ y∈(show List (Int×Int×Unit) from x.1),(0≤y.1∧y.1<(List.length (α:=Int) x.2.1.1:Int))∧(0≤y.2.1∧y.2.1<(List.length (α:=Int) x.2.1.1:Int)),fn:=fun x=>(idxOf (fun y=>a0t x.2.1.1 y) x.1,()),out:=fun _=>() }
noncomputable def a9Y:Env:={ P:=Try.prog,tt:=tt,H8:=[(50,b7q)],res:=[Go.ResultVar.tmp 4],rs:=[Ty.int IntKind.i64],ps:=[PK.v (Ty.d0 false J7),PK.s5 50 [Ty.d0 false (Ty.int IntKind.i64)]],K0:=[(2,[(0,none),(1,none),(7,none),(8,none)])],nt:=19 }
theorem a7j:I6 a9Y:=L6 y7 ⟨b4t,trivial⟩
theorem a7c:M3 a9Y Try.f153:=⟨rfl,rfl⟩
theorem b83 (x0:List (Int×Int×Unit)) (x1c0:List Int):exec a9Y 1000 [.code (d9 Try.prog 153)] (H7 b4n.ps ((x0,(x1c0,()),()))) =
  .cut (e8 (d9 Try.prog 153) 2).1 (e8 (d9 Try.prog 153) 2).2 (St.mk [(0,AV.val (Ty.d0 false J7) x0),(1,AV.s5 50 (AV.cons (AV.s9 (Ty.d0 false (Ty.int IntKind.i64)) x1c0) AV.nil)),(7,AV.val (Ty.int IntKind.i64) (↑(List.length x0):Int)),(8,AV.val (Ty.int IntKind.i64) (0:Int))] []):=by kernel_rfl
def b1H (v0:List (Int×Int×Unit)) (v1a:List Int) (v7:Int) (v8:Int):St:=St.mk [(0,AV.val (Ty.d0 false J7) v0),(1,AV.s5 50 (AV.cons (AV.s9 (Ty.d0 false (Ty.int IntKind.i64)) v1a) AV.nil)),(7,AV.val (Ty.int IntKind.i64) v7),(8,AV.val (Ty.int IntKind.i64) v8)] []
theorem b7O (v0:List (Int×Int×Unit)) (v1a:List Int) (v7:Int) (v8:Int):exec a9Y 1000 (.code (e8 (d9 Try.prog 153) 2).1::.inLoop (e8 (d9 Try.prog 153) 2).1::(e8 (d9 Try.prog 153) 2).2) (b1H v0 v1a v7 v8) =
  cond (decide (v8<v7)) (.i5 ((0:Int)≤v8∧v8<(↑(List.length v0):Int)) (.i5 (((0:Int)≤Prod.fst (List.getD v0 (Int.toNat v8) ((0:Int),(0:Int),()))∧Prod.fst (List.getD v0 (Int.toNat v8) ((0:Int),(0:Int),()))<(↑(List.length v1a):Int))∧(0:Int)≤Prod.fst (Prod.snd (List.getD v0 (Int.toNat v8) ((0:Int),(0:Int),())))∧Prod.fst (Prod.snd (List.getD v0 (Int.toNat v8) ((0:Int),(0:Int),())))<(↑(List.length v1a):Int)) (cond (a0t v1a (List.getD v0 (Int.toNat v8) ((0:Int),(0:Int),()))) (.ret ((v8,()))) (.i5 (v5 IntKind.i64 (v8+(1:Int))) (.cut (e8 (d9 Try.prog 153) 2).1 (e8 (d9 Try.prog 153) 2).2 (St.mk [(0,AV.val (Ty.d0 false J7) v0),(1,AV.s5 50 (AV.cons (AV.s9 (Ty.d0 false (Ty.int IntKind.i64)) v1a) AV.nil)),(7,AV.val (Ty.int IntKind.i64) v7),(8,AV.val (Ty.int IntKind.i64) (v8+(1:Int)))] [])))))) (.ret (((-1:Int),()))):=by kernel_rfl
theorem b2m:b4n.Valid Try.prog 153:=by
  refine D7.E6 a7j rfl rfl Try.func153 (c:=d9 Try.prog 153) rfl rfl a7c rfl ?_
  rintro ⟨(l:List (Int×Int×Unit)),⟨(at_:List Int),⟨⟩⟩,⟨⟩⟩ hp ⟨⟨hl,-⟩,-⟩
  have hl:l.length≤9223372036854775807:=hl
  have hp:∀ y∈l,(0≤y.1∧y.1<(at_.length:Int))∧(0≤y.2.1∧y.2.1<(at_.length:Int)):=hp
  refine s4 (n:=1000) a7j a7c ?_
  refine n9 (b83 l at_) ?_
  refine Reach.K1 a7j a7c (fun i:Nat=>b1H l at_ (l.length:Int) (i:Int)) (fun i=>i≤l.length∧idxOf (fun y=>a0t at_ y) l=a1H (fun y=>a0t at_ y) (l.drop i) i)
    (fun i=>l.length - i) 1000 (fun _=>⟨s6 rfl,s6 rfl⟩) ?_ 0 ⟨by omega,rfl⟩
  rintro i ⟨k1,k2⟩ - ih
  refine n9 (b7O ..) ?_
  simp only [q8,Tree.holds,true_and,true_implies,decide_eq_true_eq,decide_eq_false_iff_not,Bool.not_eq_true',Bool.not_eq_false',Int.toNat_natCast,w7,List.length_set,List.length_cons,List.length_nil]
  refine ⟨fun h=>?_,fun h=>?_⟩
  · rw [V9 (show i<l.length by omega) (0,0,()),a1H] at k2
    refine ⟨by omega,fun _=>⟨hp _ (a1v (by omega)),fun _=>⟨fun c=>?_,fun c=>⟨by omega,fun _=>ih (i+1) ⟨by omega,?_⟩ (by omega)⟩⟩⟩⟩
    · show (((i:Int),()):Int×Unit)=(idxOf (fun y=>a0t at_ y) l,())
      rw [k2,if_pos (show (fun y=>a0t at_ y) (l.getD i (0,0,()))=true from c)]
    · rw [k2,if_neg (show ¬ (fun y=>a0t at_ y) (l.getD i (0,0,()))=true from fun h9=>Bool.noConfusion (Eq.trans (Eq.symm h9) c))]
  · rw [List.drop_eq_nil_of_le (by omega)] at k2
    show (((-1:Int),()):Int×Unit)=(idxOf (fun y=>a0t at_ y) l,())
    rw [k2]; rfl
def b4r:D7:={ ps:=[.v (.d0 false J7),.s5 50 [.d0 false C8]],rs:=[.bool],pre:=fun x=>∀ y∈(show List (Int×Int×Unit) from x.1),(0≤y.1∧y.1<(List.length (α:=Int) x.2.1.1:Int))∧(0≤y.2.1∧y.2.1<(List.length (α:=Int) x.2.1.1:Int)),fn:=fun x=>(List.any (α:=Int×Int×Unit) x.1 (fun y=>a0t x.2.1.1 y),()),out:=fun _=>() }
noncomputable def b4W:Env:={ P:=Try.prog,tt:=tt,H8:=[(153,b4n)],res:=[Go.ResultVar.tmp 4],rs:=[Ty.bool],ps:=[PK.v (Ty.d0 false J7),PK.s5 50 [Ty.d0 false (Ty.int IntKind.i64)]],K0:=[],nt:=9 }
theorem b1L:I6 b4W:=L6 y7 ⟨b2m,trivial⟩
theorem b1x:M3 b4W Try.f49:=⟨rfl,rfl⟩
theorem b86 (x0:List (Int×Int×Unit)) (x1c0:List Int):exec b4W 1000 [.code (d9 Try.prog 49)] (H7 b4r.ps ((x0,(x1c0,()),()))) =
  .i5 (∀ (y:Int×Int×Unit),y∈x0→((0:Int)≤Prod.fst y∧Prod.fst y<(↑(List.length x1c0):Int))∧(0:Int)≤Prod.fst (Prod.snd y)∧Prod.fst (Prod.snd y)<(↑(List.length x1c0):Int)) (.ret ((decide ((0:Int)≤idxOf (fun y=>a0t x1c0 y) x0),()))):=by kernel_rfl
theorem b2p:b4r.Valid Try.prog 49:=by
  refine D7.E6 b1L rfl rfl Try.func49 (c:=d9 Try.prog 49) rfl rfl b1x rfl ?_
  rintro ⟨(l:List (Int×Int×Unit)),⟨(at_:List Int),⟨⟩⟩,⟨⟩⟩ hp -
  refine s4 (n:=1000) b1L b1x ?_
  refine n9 (b86 l at_) ?_
  refine ⟨hp,fun _=>?_⟩
  show ((decide (0≤idxOf (fun y=>a0t at_ y) l),()):Bool×Unit)=(l.any (fun y=>a0t at_ y),())
  rw [b24]
def a6C:D7:={ ps:=[.v Es],rs:=[.bool],pre:=fun _=>True,fn:=fun _=>(true,()),out:=fun _=>() }
noncomputable def a1O:Env:={ P:=Try.prog,tt:=tt,H8:=[(28,b02),(27,b1d),(19,b7p),(48,b1b),(49,b4r)],res:=[Go.ResultVar.tmp 2],rs:=[Ty.bool],ps:=[PK.v (Ty.d0 false p7)],K0:=[(10,[(0,none),(5,some Is),(7,some (Ty.d0 true J7)),(9,none),(49,some Is),(50,none),(51,none)])],nt:=87 }
theorem a1C:I6 a1O:=L6 y7 ⟨b01,b1c,b4p,b1a,b2p,trivial⟩
theorem a1B:M3 a1O Try.f7:=⟨rfl,rfl⟩
theorem a9M (x0:List (Int×Int×Int×Unit)):exec a1O 1000 [.code (d9 Try.prog 7)] (H7 a6C.ps ((x0,()))) =
  .i5 (True) (.i5 (True) (cond (!decide (Prod.fst (M8 (List.set (List.set [((0:Int),(0:Int),(0:Int),()),((0:Int),(0:Int),(0:Int),())] (Int.toNat (↑0:Int)) ((1:Int),(1:Int),(0:Int),())) (Int.toNat (↑1:Int)) ((0:Int),(1:Int),(0:Int),())))=List.set (List.set [(0:Int),(0:Int)] (Int.toNat (↑0:Int)) (1:Int)) (Int.toNat (↑1:Int)) (0:Int))) (.ret ((false,()))) (.i5 (True) (.i5 (True) (cond (decide (Prod.fst (Prod.snd (M8 x0))≠(0:Int))) (.ret ((decide (Prod.fst (Prod.snd (M8 x0))=Prod.fst (Prod.snd (M0 x0))),()))) (cond (decide (Prod.fst (Prod.snd (M0 x0))≠(0:Int))) (.ret ((decide (Prod.fst (Prod.snd (M8 x0))=Prod.fst (Prod.snd (M0 x0))),()))) (.i5 ((0:Int)≤(↑(List.length x0):Int)∧(↑(List.length x0):Int)≤(↑(List.length x0):Int)∧(↑(List.length x0):Int)≤(140737488355328:Int)∧(↑(List.length x0):Int)*(↑(Ty.wb (Ty.int IntKind.i64)):Int)≤(140737488355328:Int)) (.cut (e8 (d9 Try.prog 7) 10).1 (e8 (d9 Try.prog 7) 10).2 (St.mk [(0,AV.val (Ty.d0 false p7) x0),(5,AV.at_ 1000049 []),(7,AV.at_ 1000007 []),(9,AV.ptr 9 []),(49,AV.at_ 1000049 []),(50,AV.val (Ty.int IntKind.i64) (↑(List.length (Prod.fst (M8 x0))):Int)),(51,AV.val (Ty.int IntKind.i64) (0:Int))] [(9,g9.var Is (List.replicate (Int.toNat (↑(List.length x0):Int)) (0:Int))),(1000007,g9.own (Ty.d0 true J7) (Prod.fst (M0 x0))),(1000049,g9.own Is (Prod.fst (M8 x0)))]))))))))):=by kernel_rfl
def a3f (v0:List (Int×Int×Int×Unit)) (v50:Int) (v51:Int) (o9:List Int) (o1000007:List (Int×Int×Unit)) (o1000049:List Int):St:=St.mk [(0,AV.val (Ty.d0 false p7) v0),(5,AV.at_ 1000049 []),(7,AV.at_ 1000007 []),(9,AV.ptr 9 []),(49,AV.at_ 1000049 []),(50,AV.val (Ty.int IntKind.i64) v50),(51,AV.val (Ty.int IntKind.i64) v51)] [(9,g9.var Is o9),(1000007,g9.own (Ty.d0 true J7) o1000007),(1000049,g9.own Is o1000049)]
theorem a8d (v0:List (Int×Int×Int×Unit)) (v50:Int) (v51:Int) (o9:List Int) (o1000007:List (Int×Int×Unit)) (o1000049:List Int):exec a1O 1000 (.code (e8 (d9 Try.prog 7) 10).1::.inLoop (e8 (d9 Try.prog 7) 10).1::(e8 (d9 Try.prog 7) 10).2) (a3f v0 v50 v51 o9 o1000007 o1000049) =
  cond (decide (v51<v50)) (.i5 ((0:Int)≤v51∧v51<(↑(List.length o1000049):Int)) (cond (decide (List.getD o1000049 (Int.toNat v51) (0:Int)<(0:Int))) (.ret ((false,()))) (cond (decide ((↑(List.length v0):Int)≤List.getD o1000049 (Int.toNat v51) (0:Int))) (.ret ((false,()))) (.i5 ((0:Int)≤(0:Int)∧(0:Int)≤v51∧v51≤(↑(List.length o1000049):Int)) (.i5 (True) (cond (decide (List.getD o1000049 (Int.toNat v51) (0:Int)∈G0 (0:Int) v51 o1000049)) (.ret ((false,()))) (.i5 ((0:Int)≤List.getD o1000049 (Int.toNat v51) (0:Int)∧List.getD o1000049 (Int.toNat v51) (0:Int)<(↑(List.length o9):Int)) (.i5 (v5 IntKind.i64 (v51+(1:Int))) (.cut (e8 (d9 Try.prog 7) 10).1 (e8 (d9 Try.prog 7) 10).2 (St.mk [(0,AV.val (Ty.d0 false p7) v0),(5,AV.at_ 1000049 []),(7,AV.at_ 1000007 []),(9,AV.ptr 9 []),(49,AV.at_ 1000049 []),(50,AV.val (Ty.int IntKind.i64) v50),(51,AV.val (Ty.int IntKind.i64) (v51+(1:Int)))] [(9,g9.var Is (List.set o9 (Int.toNat (List.getD o1000049 (Int.toNat v51) (0:Int))) v51)),(1000007,g9.own (Ty.d0 true J7) o1000007),(1000049,g9.own Is o1000049)])))))))))) (cond (decide ((↑(List.length o1000049):Int)=(↑(List.length v0):Int))) (.i5 (∀ (y:Int×Int×Unit),y∈o1000007→((0:Int)≤Prod.fst y∧Prod.fst y<(↑(List.length o9):Int))∧(0:Int)≤Prod.fst (Prod.snd y)∧Prod.fst (Prod.snd y)<(↑(List.length o9):Int)) (.ret ((!List.any o1000007 fun y=>a0t o9 y,())))) (.ret ((false,())))):=by kernel_rfl
theorem b0E {T:List Int} (h:T.Nodup) {i j:Nat} (hi:i<T.length) (hj:j<T.length) (e:T.getD j 0=T.getD i 0):j=i:=by
  have g:∀ k (hk:k<T.length),T.getD k 0=T[k]:=fun k hk=>by rw [List.getD_eq_getElem?_getD,List.getElem?_eq_getElem hk]; rfl
  rw [g j hj,g i hi] at e
  rcases Nat.lt_trichotomy j i with c|c|c
  · exact absurd e (List.pairwise_iff_getElem.1 h j i hj hi c)
  · exact c
  · exact absurd e.symm (List.pairwise_iff_getElem.1 h i j hi hj c)
theorem b3v:(M8 [(1,1,0,()),(0,1,0,())]).1=[1,0]:=by
  have h0:B0 [(1,1,0,()),(0,1,0,())]=0:=by decide +kernel
  rw [M8,if_neg (by rw [h0]; simp)]
  refine (Z2 (a97 _ _) ?_ ?_ ?_).symm
  · exact List.Perm.swap 0 1 []
  · decide +kernel
  · have:=a8W h0
    exact this.2.2
theorem b6O {h:List I5} (hh:B0 h=0) {at_ T:List Int} (hT:T=y8 (x6 (stamps h).1 h) (N7 h.length)) (hat:∀ j,j<h.length→at_.getD (T.getD j 0).toNat 0=(j:Int)) {a b:Nat} (ha:a<h.length) (hbl:b<h.length) (hab:hb h b a=true):a0t at_ ((a:Int),(b:Int),())=false:=by
  have hO:=a97 (stamps h).1 h
  have hp:T.Perm (N7 h.length):=by rw [hT]; exact G5 _ _
  have hs:T.Pairwise (fun x y=>x6 (stamps h).1 h y x=false):=by rw [hT]; exact S8 hO _
  have hl:T.length=h.length:=by rw [hp.length_eq,a2d]
  have find:∀ k,k<h.length→∃ i,i<T.length∧T.getD i 0=(k:Int):=fun k hk=>b0H (hp.mem_iff.2 (a2f.2 ⟨by omega,by omega⟩))
  obtain ⟨i,hi,ei⟩:=find a ha
  obtain ⟨j,hj,ej⟩:=find b hbl
  have h1:=hat i (by omega)
  have h2:=hat j (by omega)
  rw [ei,Int.toNat_natCast] at h1
  rw [ej,Int.toNat_natCast] at h2
  obtain ⟨-,hlt⟩:=b9n hh hbl hab
  have hll:x6 (stamps h).1 h (a:Int) (b:Int)=true:=by
    rw [x6,decide_eq_true_eq,a3u,Int.toNat_natCast,Int.toNat_natCast]; exact .inl hlt
  show decide (at_.getD (Int.toNat (b:Int)) 0≤at_.getD (Int.toNat (a:Int)) 0)=false
  rw [Int.toNat_natCast,Int.toNat_natCast,h1,h2,decide_eq_false_iff_not]
  intro hc
  have hij:j≤i:=by omega
  by_cases e:j=i
  · subst e
    rw [ei] at ej
    rw [ej,hO.irrefl] at hll; cases hll
  · have:=List.pairwise_iff_getElem.1 hs j i hj hi (by omega)
    have g1:T[j]=(b:Int):=by rw [← ej,List.getD_eq_getElem?_getD,List.getElem?_eq_getElem hj]; rfl
    have g2:T[i]=(a:Int):=by rw [← ei,List.getD_eq_getElem?_getD,List.getElem?_eq_getElem hi]; rfl
    rw [g1,g2,hll] at this; cases this
theorem a6h:a6C.Valid Try.prog 7:=by
  refine D7.E6 a1C rfl rfl Try.func7 (c:=d9 Try.prog 7) rfl rfl a1B rfl ?_
  rintro ⟨(h:List I5),⟨⟩⟩ - ⟨⟨hlen,-⟩,-⟩
  refine s4 (n:=1000) a1C a1B ?_
  refine n9 (a9M h) ?_
  have e0:(M8 (List.set (List.set [((0:Int),(0:Int),(0:Int),()),(0,0,0,())] (Int.toNat (0:Int)) (1,1,0,())) (Int.toNat (1:Int)) (0,1,0,()))).1=List.set (List.set [(0:Int),0] (Int.toNat (0:Int)) 1) (Int.toNat (1:Int)) 0:=b3v
  have et:(M8 h).2.1=B0 h:=by rw [M8]; split<;>simp_all
  have ea:(M0 h).2.1=B0 h:=b6b
  have w8:Ty.wb C8=8:=rfl
  rw [et,ea]
  simp only [q8,Tree.holds,true_and,true_implies,decide_eq_true_eq,decide_eq_false_iff_not,Bool.not_eq_true',Bool.not_eq_false',Int.toNat_natCast,w7,List.length_set,List.length_cons,List.length_nil,w8]
  refine ⟨fun c=>absurd e0 c,fun _=>⟨fun c=>b93 trivial,fun c=>⟨fun d=>absurd d c,fun _=>?_⟩⟩⟩
  have hh:=Decidable.not_not.1 c
  have hl:=(Z3 hh).1
  have hT:(M8 h).1=y8 (x6 (stamps h).1 h) (N7 h.length):=by rw [M8,if_neg c]
  have hA:∀ y∈(M0 h).1,∃ a b:Nat,a<h.length∧b<h.length∧hb h b a=true∧y=((a:Int),(b:Int),()):=fun y hy=>(b5y hh).1 hy
  have hp:(M8 h).1.Perm (N7 h.length):=by rw [hT]; exact G5 _ _
  generalize (M8 h).1=T at *
  generalize (M0 h).1=A at *
  have hTl:T.length=h.length:=by rw [hp.length_eq,a2d]
  have hTn:T.Nodup:=hp.nodup_iff.2 b0w
  have hTm:∀ i,i<T.length→0≤T.getD i 0∧T.getD i 0<(h.length:Int):=fun i hi=>a2f.1 (hp.mem_iff.1 (a1v hi))
  refine ⟨⟨by omega,by omega,by omega,by omega⟩,fun _=>?_⟩
  refine Reach.K1 a1C a1B (fun s:Nat×List Int=>a3f h (T.length:Int) (s.1:Int) s.2 A T) (fun s=>s.1≤T.length∧s.2.length=h.length∧∀ j,j<s.1→s.2.getD (T.getD j 0).toNat 0=(j:Int)) (fun s=>T.length - s.1) 1000 (fun _=>⟨s6 rfl,s6 rfl⟩) ?_ (0,List.replicate (Int.toNat (h.length:Int)) 0) ⟨Nat.zero_le _,by simp,fun j hj=>absurd hj (Nat.not_lt_zero _)⟩
  rintro ⟨i,q⟩ ⟨(k1:i≤T.length),(k2:q.length=h.length),(k3:∀ j,j<i→q.getD (T.getD j 0).toNat 0=(j:Int))⟩ - ih
  refine n9 (a8d ..) ?_
  have ec:G0 0 (i:Int) T=T.take i:=by rw [G0,Int.toNat_zero,List.drop_zero,show ((i:Int) - 0).toNat=i by omega]
  simp only [q8,Tree.holds,true_and,true_implies,decide_eq_true_eq,decide_eq_false_iff_not,Bool.not_eq_true',Bool.not_eq_false',Int.toNat_natCast,w7,List.length_set,List.length_cons,List.length_nil,ec]
  refine ⟨fun c=>?_,fun c=>⟨fun _=>?_,fun d=>absurd (by omega) d⟩⟩
  · have hi:i<T.length:=by omega
    have hm:=hTm i hi
    refine ⟨by omega,fun _=>⟨fun d=>by omega,fun _=>⟨fun d=>by omega,fun _=>⟨by omega,fun _=>⟨fun d=>?_,fun d=>⟨by omega,fun _=>⟨by omega,fun _=>?_⟩⟩⟩⟩⟩⟩⟩
    · exfalso
      obtain ⟨j,hj,e⟩:=b0H (d:=0) d
      rw [List.length_take] at hj
      rw [List.getD_eq_getElem?_getD,List.getElem?_take,if_pos (by omega),← List.getD_eq_getElem?_getD] at e
      have:=b0E hTn hi (by omega) e
      omega
    · refine ih (i+1,q.set (T.getD i 0).toNat (i:Int)) ⟨by show i+1≤_; omega,by show (q.set _ _).length=_; rw [List.length_set]; exact k2,fun j hj=>?_⟩ (by show T.length - (i+1)<T.length - i; omega)
      have hj:j<i+1:=hj
      show (q.set (T.getD i 0).toNat (i:Int)).getD (T.getD j 0).toNat 0=(j:Int)
      rw [I7 (by omega)]
      by_cases e:j=i
      · subst e; rw [if_pos rfl]
      · have hj2:=hTm j (by omega)
        rw [if_neg (fun h9=>?_)]
        · exact k3 j (by omega)
        · have h10:T.getD j 0=T.getD i 0:=by omega
          exact e (b0E hTn hi (by omega) h10)
  · obtain rfl:i=T.length:=by omega
    refine ⟨fun y hy=>?_,fun _=>?_⟩
    · obtain ⟨a,b,h1,h2,-,rfl⟩:=hA y hy
      show (0≤(a:Int)∧(a:Int)<_)∧0≤(b:Int)∧(b:Int)<_
      omega
    · have:A.any (fun y=>a0t q y)=false:=by
        rw [List.any_eq_false]
        intro y hy
        obtain ⟨a,b,h1,h2,h3,rfl⟩:=hA y hy
        rw [b6O hh hT (fun j hj=>k3 j (by omega)) h1 h2 h3]; simp
      rw [this]; rfl
end Go.Proofs.Ytekbamiaenbhjaa
