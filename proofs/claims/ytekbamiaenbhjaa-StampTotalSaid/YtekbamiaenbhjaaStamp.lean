/- The contracts of the package stamp's functions. -/
import Derived.Test.YtekbamiaenbhjaaBase
namespace Go.Proofs.Ytekbamiaenbhjaa
open Go.Ex
set_option maxRecDepth 100000
abbrev Ev:=Int×Int×Int×Unit
abbrev Ck:Ty:=.pair (.arr 30 C8) (.pair (.arr 30 (.arr 6 .bool)) .unit)
abbrev CkD:=List Int×List (List Bool)×Unit

theorem b8j:Ty.wb J7=16:=rfl
def b7m:D7:={ ps:=[.v C8,.v C8,.v C8],rs:=[.bool],pre:=fun _=>True,fn:=fun x=>(inF x.1 x.2.1 x.2.2.1,()),out:=fun _=>() }
noncomputable def b7K:Env:={ P:=Try.prog,tt:=tt,H8:=[],res:=[Go.ResultVar.tmp 6],rs:=[Ty.bool],ps:=[PK.v (Ty.int IntKind.i64),PK.v (Ty.int IntKind.i64),PK.v (Ty.int IntKind.i64)],K0:=[],nt:=15 }
theorem b3o:I6 b7K:=L6 y7 trivial
theorem b3m:M3 b7K Try.f277:=⟨rfl,rfl⟩
theorem b9H (x0:Int) (x1:Int) (x2:Int):exec b7K 1000 [.code (d9 Try.prog 277)] (H7 b7m.ps ((x0,x1,x2,()))) =
  cond (decide (x1≤x0)) (.ret ((decide (x0≤x2),()))) (.ret ((false,()))):=by kernel_rfl
theorem b4h:b7m.Valid Try.prog 277:=by
  refine D7.E6 b3o rfl rfl Try.func277 (c:=d9 Try.prog 277) rfl rfl b3m rfl ?_
  rintro ⟨(a:Int),(b:Int),(c:Int),⟨⟩⟩ - -
  refine s4 (n:=1000) b3o b3m ?_
  refine n9 (b9H a b c) ?_
  simp only [q8,Tree.holds,true_and,true_implies,decide_eq_true_eq,decide_eq_false_iff_not,Bool.not_eq_true',Bool.not_eq_false',Int.toNat_natCast,w7,List.length_set,List.length_cons,List.length_nil]
  repeat' first|exact trivial|(refine And.intro ?_ ?_)|(intro _)
  all_goals (show ((_,()):Bool×Unit)=(inF a b c,()); simp [inF, *])

abbrev f6:List Bool:=[false,false,false,false,false,false]
abbrev e0:Ev:=(0,0,0,())
def a0D (c:CkD) (e:Ev):Int :=
  if inF e.1 0 5=false then 1 else if inF e.2.2.1 0 29=false then 1
  else if e.2.1=1 then (if e.2.2.1≠0 then 4 else 0)
  else if e.2.1=2 then (if 0<c.1.getD e.2.2.1.toNat 0 then 4 else 0)
  else if e.2.1=3 then (if c.1.getD e.2.2.1.toNat 0=0 then 4 else if c.1.getD e.2.2.1.toNat 0=e.1+1 then 4 else if (c.2.1.getD e.2.2.1.toNat f6).getD e.1.toNat false=true then 4 else 0)
  else 4
def a4k (c:CkD) (e:Ev):CkD :=
  if a0D c e≠0 then c
  else if e.2.1=2 then (c.1.set e.2.2.1.toNat (e.1+1),c.2)
  else if e.2.1=3 then (c.1,c.2.1.set e.2.2.1.toNat ((c.2.1.getD e.2.2.1.toNat f6).set e.1.toNat true),())
  else c
def b09:D7:={ ps:=[.rw Ck,.v Event],rs:=[C8],pre:=fun _=>True,fn:=fun x=>(a0D x.1 x.2.1,()),out:=fun x=>(a4k x.1 x.2.1,()) }
noncomputable def b1J:Env:={ P:=Try.prog,tt:=tt,H8:=[(277,b7m)],res:=[Go.ResultVar.tmp 4],rs:=[Ty.int IntKind.i64],ps:=[PK.rw (Ty.pair (Ty.arr 30 (Ty.int IntKind.i64)) (Ty.pair (Ty.arr 30 (Ty.arr 6 Ty.bool)) Ty.unit)),PK.v p7],K0:=[],nt:=85 }
theorem a9u:I6 b1J:=L6 y7 ⟨b4h,trivial⟩
theorem a9o:M3 b1J Try.f221:=⟨rfl,rfl⟩
theorem b7Q (x0_1:List Int) (x0_2_1:List (List Bool)) (x1_1:Int) (x1_2_1:Int) (x1_2_2_1:Int):exec b1J 1000 [.code (d9 Try.prog 221)] (H7 b09.ps (((x0_1,x0_2_1,()),(x1_1,x1_2_1,x1_2_2_1,()),()))) =
  .i5 (True) (cond (!inF x1_1 (0:Int) (5:Int)) (.ret (((1:Int),(x0_1,x0_2_1,()),()))) (.i5 (True) (cond (!inF x1_2_2_1 (0:Int) (29:Int)) (.ret (((1:Int),(x0_1,x0_2_1,()),()))) (cond (decide (x1_2_1=(1:Int))) (cond (decide (x1_2_2_1≠(0:Int))) (.ret (((4:Int),(x0_1,x0_2_1,()),()))) (.ret (((0:Int),(x0_1,x0_2_1,()),())))) (cond (decide (x1_2_1=(2:Int))) (.i5 ((0:Int)≤x1_2_2_1∧x1_2_2_1<(↑30:Int)) (cond (decide ((0:Int)<List.getD x0_1 (Int.toNat x1_2_2_1) (0:Int))) (.ret (((4:Int),(x0_1,x0_2_1,()),()))) (.i5 (v5 IntKind.i64 (x1_1+(1:Int))) (.i5 ((0:Int)≤x1_2_2_1∧x1_2_2_1<(↑30:Int)) (.ret (((0:Int),(List.set x0_1 (Int.toNat x1_2_2_1) (x1_1+(1:Int)),x0_2_1,()),()))))))) (cond (decide (x1_2_1=(3:Int))) (.i5 ((0:Int)≤x1_2_2_1∧x1_2_2_1<(↑30:Int)) (cond (decide (List.getD x0_1 (Int.toNat x1_2_2_1) (0:Int)=(0:Int))) (.ret (((4:Int),(x0_1,x0_2_1,()),()))) (.i5 ((0:Int)≤x1_2_2_1∧x1_2_2_1<(↑30:Int)) (.i5 (v5 IntKind.i64 (x1_1+(1:Int))) (cond (decide (List.getD x0_1 (Int.toNat x1_2_2_1) (0:Int)=x1_1+(1:Int))) (.ret (((4:Int),(x0_1,x0_2_1,()),()))) (.i5 ((0:Int)≤x1_2_2_1∧x1_2_2_1<(↑30:Int)) (.i5 ((0:Int)≤x1_1∧x1_1<(↑6:Int)) (cond (List.getD (List.getD x0_2_1 (Int.toNat x1_2_2_1) [false,false,false,false,false,false]) (Int.toNat x1_1) false) (.ret (((4:Int),(x0_1,x0_2_1,()),()))) (.i5 ((0:Int)≤x1_2_2_1∧x1_2_2_1<(↑30:Int)) (.i5 ((0:Int)≤x1_1∧x1_1<(↑6:Int)) (.ret (((0:Int),(x0_1,List.set x0_2_1 (Int.toNat x1_2_2_1) (List.set (List.getD x0_2_1 (Int.toNat x1_2_2_1) [false,false,false,false,false,false]) (Int.toNat x1_1) true),()),()))))))))))))) (.ret (((4:Int),(x0_1,x0_2_1,()),()))))))))):=by kernel_rfl
theorem b08:b09.Valid Try.prog 221:=by
  refine D7.E6 a9u rfl rfl Try.func221 (c:=d9 Try.prog 221) rfl rfl a9o rfl ?_
  rintro ⟨⟨(sd:List Int),(tk:List (List Bool)),⟨⟩⟩,⟨(p:Int),(k:Int),(m:Int),⟨⟩⟩,⟨⟩⟩ - -
  refine s4 (n:=1000) a9u a9o ?_
  refine n9 (b7Q sd tk p k m) ?_
  simp only [q8,Tree.holds,true_and,true_implies,decide_eq_true_eq,decide_eq_false_iff_not,Bool.not_eq_true',Bool.not_eq_false',Int.toNat_natCast,w7,List.length_set,List.length_cons,List.length_nil]
  repeat' first|exact trivial|(refine And.intro ?_ ?_)|(intro _)
  all_goals first
    | (simp only [a3E] at *; omega)
    | (show _=(a0D (sd,tk,()) (p,k,m,()),a4k (sd,tk,()) (p,k,m,()),()); simp [-List.getD_eq_getElem?_getD,a0D,a4k, *]; try rfl)

def ck0:CkD:=(List.replicate 30 0,List.replicate 30 f6,())
def Y0 (c:CkD):List Ev→Int
  | []=>0
  | e::l=>if a0D c e≠0 then a0D c e else Y0 (a4k c e) l
def B0 (h:List Ev):Int:=if 60<h.length then 2 else Y0 ck0 h
def a59:D7:={ ps:=[.v Es],rs:=[C8],pre:=fun _=>True,fn:=fun x=>(B0 x.1,()),out:=fun _=>() }
noncomputable def a6d:Env:={ P:=Try.prog,tt:=tt,H8:=[(221,b09)],res:=[Go.ResultVar.tmp 2],rs:=[Ty.int IntKind.i64],ps:=[PK.v (Ty.d0 false p7)],K0:=[(5,[(3,none),(12,none),(13,none),(14,none)])],nt:=25 }
theorem a4z:I6 a6d:=L6 y7 ⟨b08,trivial⟩
theorem a4v:M3 a6d Try.f127:=⟨rfl,rfl⟩
theorem b6n (x0:List (Int×Int×Int×Unit)):exec a6d 1000 [.code (d9 Try.prog 127)] (H7 a59.ps ((x0,()))) =
  cond (decide ((60:Int)<(↑(List.length x0):Int))) (.ret (((2:Int),()))) (.cut (e8 (d9 Try.prog 127) 5).1 (e8 (d9 Try.prog 127) 5).2 (St.mk [(3,AV.ptr 11 []),(12,AV.val (Ty.d0 false p7) x0),(13,AV.val (Ty.int IntKind.i64) (↑(List.length x0):Int)),(14,AV.val (Ty.int IntKind.i64) (0:Int))] [(11,g9.var (Ty.pair (Ty.arr 30 (Ty.int IntKind.i64)) (Ty.pair (Ty.arr 30 (Ty.arr 6 Ty.bool)) Ty.unit)) ([(0:Int),(0:Int),(0:Int),(0:Int),(0:Int),(0:Int),(0:Int),(0:Int),(0:Int),(0:Int),(0:Int),(0:Int),(0:Int),(0:Int),(0:Int),(0:Int),(0:Int),(0:Int),(0:Int),(0:Int),(0:Int),(0:Int),(0:Int),(0:Int),(0:Int),(0:Int),(0:Int),(0:Int),(0:Int),(0:Int)],[[false,false,false,false,false,false],[false,false,false,false,false,false],[false,false,false,false,false,false],[false,false,false,false,false,false],[false,false,false,false,false,false],[false,false,false,false,false,false],[false,false,false,false,false,false],[false,false,false,false,false,false],[false,false,false,false,false,false],[false,false,false,false,false,false],[false,false,false,false,false,false],[false,false,false,false,false,false],[false,false,false,false,false,false],[false,false,false,false,false,false],[false,false,false,false,false,false],[false,false,false,false,false,false],[false,false,false,false,false,false],[false,false,false,false,false,false],[false,false,false,false,false,false],[false,false,false,false,false,false],[false,false,false,false,false,false],[false,false,false,false,false,false],[false,false,false,false,false,false],[false,false,false,false,false,false],[false,false,false,false,false,false],[false,false,false,false,false,false],[false,false,false,false,false,false],[false,false,false,false,false,false],[false,false,false,false,false,false],[false,false,false,false,false,false]],()))])):=by kernel_rfl
def a8a (v12:List (Int×Int×Int×Unit)) (v13:Int) (v14:Int) (o11_1:List Int) (o11_2_1:List (List Bool)):St:=St.mk [(3,AV.ptr 11 []),(12,AV.val (Ty.d0 false p7) v12),(13,AV.val (Ty.int IntKind.i64) v13),(14,AV.val (Ty.int IntKind.i64) v14)] [(11,g9.var (Ty.pair (Ty.arr 30 (Ty.int IntKind.i64)) (Ty.pair (Ty.arr 30 (Ty.arr 6 Ty.bool)) Ty.unit)) (o11_1,o11_2_1,()))]
theorem b4R (v12:List (Int×Int×Int×Unit)) (v13:Int) (v14:Int) (o11_1:List Int) (o11_2_1:List (List Bool)):exec a6d 1000 (.code (e8 (d9 Try.prog 127) 5).1::.inLoop (e8 (d9 Try.prog 127) 5).1::(e8 (d9 Try.prog 127) 5).2) (a8a v12 v13 v14 o11_1 o11_2_1) =
  cond (decide (v14<v13)) (.i5 ((0:Int)≤v14∧v14<(↑(List.length v12):Int)) (.i5 (True) (cond (decide (a0D (o11_1,o11_2_1,()) (List.getD v12 (Int.toNat v14) ((0:Int),(0:Int),(0:Int),()))≠(0:Int))) (.ret ((a0D (o11_1,o11_2_1,()) (List.getD v12 (Int.toNat v14) ((0:Int),(0:Int),(0:Int),())),()))) (.i5 (v5 IntKind.i64 (v14+(1:Int))) (.cut (e8 (d9 Try.prog 127) 5).1 (e8 (d9 Try.prog 127) 5).2 (St.mk [(3,AV.ptr 11 []),(12,AV.val (Ty.d0 false p7) v12),(13,AV.val (Ty.int IntKind.i64) v13),(14,AV.val (Ty.int IntKind.i64) (v14+(1:Int)))] [(11,g9.var (Ty.pair (Ty.arr 30 (Ty.int IntKind.i64)) (Ty.pair (Ty.arr 30 (Ty.arr 6 Ty.bool)) Ty.unit)) (a4k (o11_1,o11_2_1,()) (List.getD v12 (Int.toNat v14) ((0:Int),(0:Int),(0:Int),()))))])))))) (.ret (((0:Int),()))):=by kernel_rfl
theorem a4L:a59.Valid Try.prog 127:=by
  refine D7.E6 a4z rfl rfl Try.func127 (c:=d9 Try.prog 127) rfl rfl a4v rfl ?_
  rintro ⟨(h:List Ev),⟨⟩⟩ - -
  refine s4 (n:=1000) a4z a4v ?_
  refine n9 (b6n h) ?_
  simp only [q8,Tree.holds,true_and,true_implies,decide_eq_true_eq,decide_eq_false_iff_not,Bool.not_eq_true',Bool.not_eq_false',Int.toNat_natCast,w7,List.length_set,List.length_cons,List.length_nil]
  refine ⟨fun a=>?_,fun a=>?_⟩
  · show ((2,()):Int×Unit)=(B0 h,()); simp [B0,show 60<h.length by omega]
  have ha:¬ 60<h.length:=by omega
  refine Reach.K1 a4z a4v (fun s:Nat×CkD=>a8a h (h.length:Int) (s.1:Int) s.2.1 s.2.2.1) (fun s=>s.1≤h.length∧B0 h=Y0 s.2 (h.drop s.1))
    (fun s=>h.length - s.1) 1000 (fun _=>⟨s6 rfl,s6 rfl⟩) ?_ (0,ck0) ⟨by simp,by simp [B0,ha]⟩
  rintro ⟨i,sd,tk,⟨⟩⟩ ⟨k1,k2⟩ - ih
  have k1:i≤h.length:=k1
  have k2:B0 h=Y0 (sd,tk,()) (h.drop i):=k2
  refine n9 (b4R ..) ?_
  by_cases hi:i<h.length
  · rw [V9 hi e0,Y0] at k2
    simp only [q8,Tree.holds,true_and,true_implies,decide_eq_true_eq,decide_eq_false_iff_not,Bool.not_eq_true',Bool.not_eq_false',Int.toNat_natCast,w7,List.length_set,List.length_cons,List.length_nil]
    refine ⟨fun _=>⟨by omega,fun _=>⟨fun b=>?_,fun b=>⟨by omega,fun _=>?_⟩⟩⟩,fun b=>absurd b (by omega)⟩
    · show ((_,()):Int×Unit)=(B0 h,()); rw [k2,if_pos b]
    · exact ih (i+1,a4k (sd,tk,()) (h.getD i e0)) ⟨hi,by rw [k2,if_neg b]⟩ (by show h.length - (i+1)<h.length - i; omega)
  · rw [List.drop_eq_nil_of_le (by omega)] at k2
    simp only [q8,Tree.holds,true_and,true_implies,decide_eq_true_eq,decide_eq_false_iff_not,Bool.not_eq_true',Bool.not_eq_false',Int.toNat_natCast,w7,List.length_set,List.length_cons,List.length_nil]
    refine ⟨fun b=>absurd b (by omega),fun b=>?_⟩
    show ((_,()):Int×Unit)=(B0 h,()); rw [k2]; rfl

def tOf (last sent:List Int) (e:Ev):Int:=(if e.2.1=3 then (if last.getD e.1.toNat 0<sent.getD e.2.2.1.toNat 0 then sent.getD e.2.2.1.toNat 0 else last.getD e.1.toNat 0) else last.getD e.1.toNat 0)+1
def a3k (last sent:List Int):List Ev→List Int
  | []=>[]
  | e::l=>tOf last sent e::a3k (last.set e.1.toNat (tOf last sent e)) (if e.2.1=2 then sent.set e.2.2.1.toNat (tOf last sent e) else sent) l
def stamps (h:List Ev):List Int×Int×Unit:=if B0 h≠0 then ([],B0 h,()) else (a3k (List.replicate 6 0) (List.replicate 30 0) h,0,())
def a8A:D7:={ ps:=[.v Es],rs:=[Is,C8],pre:=fun _=>True,fn:=fun x=>stamps x.1,out:=fun _=>() }
noncomputable def a6c:Env:={ P:=Try.prog,tt:=tt,H8:=[(127,a59)],res:=[Go.ResultVar.tmp 2,Go.ResultVar.tmp 3],rs:=[Ty.d0 true (Ty.int IntKind.i64),Ty.int IntKind.i64],ps:=[PK.v (Ty.d0 false p7)],K0:=[(8,[(5,some Is),(6,none),(7,none),(16,none),(17,none),(18,none)])],nt:=54 }
theorem a4x:I6 a6c:=L6 y7 ⟨a4L,trivial⟩
theorem a4u:M3 a6c Try.f71:=⟨rfl,rfl⟩
theorem b6m (x0:List (Int×Int×Int×Unit)):exec a6c 1000 [.code (d9 Try.prog 71)] (H7 a8A.ps ((x0,()))) =
  .i5 (True) (cond (decide (B0 x0≠(0:Int))) (.ret (([],B0 x0,()))) (.cut (e8 (d9 Try.prog 71) 8).1 (e8 (d9 Try.prog 71) 8).2 (St.mk [(5,AV.at_ 1000005 []),(6,AV.ptr 6 []),(7,AV.ptr 7 []),(16,AV.val (Ty.d0 false p7) x0),(17,AV.val (Ty.int IntKind.i64) (↑(List.length x0):Int)),(18,AV.val (Ty.int IntKind.i64) (0:Int))] [(6,g9.var Vec [(0:Int),(0:Int),(0:Int),(0:Int),(0:Int),(0:Int)]),(7,g9.var (Ty.arr 30 (Ty.int IntKind.i64)) [(0:Int),(0:Int),(0:Int),(0:Int),(0:Int),(0:Int),(0:Int),(0:Int),(0:Int),(0:Int),(0:Int),(0:Int),(0:Int),(0:Int),(0:Int),(0:Int),(0:Int),(0:Int),(0:Int),(0:Int),(0:Int),(0:Int),(0:Int),(0:Int),(0:Int),(0:Int),(0:Int),(0:Int),(0:Int),(0:Int)]),(1000005,g9.own Is [])]))):=by kernel_rfl
def a79 (v16:List (Int×Int×Int×Unit)) (v17:Int) (v18:Int) (o6:List Int) (o7:List Int) (o1000005:List Int):St:=St.mk [(5,AV.at_ 1000005 []),(6,AV.ptr 6 []),(7,AV.ptr 7 []),(16,AV.val (Ty.d0 false p7) v16),(17,AV.val (Ty.int IntKind.i64) v17),(18,AV.val (Ty.int IntKind.i64) v18)] [(6,g9.var Vec o6),(7,g9.var (Ty.arr 30 (Ty.int IntKind.i64)) o7),(1000005,g9.own Is o1000005)]
theorem b4Q (v16:List (Int×Int×Int×Unit)) (v17:Int) (v18:Int) (o6:List Int) (o7:List Int) (o1000005:List Int):exec a6c 1000 (.code (e8 (d9 Try.prog 71) 8).1::.inLoop (e8 (d9 Try.prog 71) 8).1::(e8 (d9 Try.prog 71) 8).2) (a79 v16 v17 v18 o6 o7 o1000005) =
  cond (decide (v18<v17)) (.i5 ((0:Int)≤v18∧v18<(↑(List.length v16):Int)) (.i5 ((0:Int)≤Prod.fst (List.getD v16 (Int.toNat v18) ((0:Int),(0:Int),(0:Int),()))∧Prod.fst (List.getD v16 (Int.toNat v18) ((0:Int),(0:Int),(0:Int),()))<(↑6:Int)) (cond (decide (Prod.fst (Prod.snd (List.getD v16 (Int.toNat v18) ((0:Int),(0:Int),(0:Int),())))=(3:Int))) (.i5 ((0:Int)≤Prod.fst (Prod.snd (Prod.snd (List.getD v16 (Int.toNat v18) ((0:Int),(0:Int),(0:Int),()))))∧Prod.fst (Prod.snd (Prod.snd (List.getD v16 (Int.toNat v18) ((0:Int),(0:Int),(0:Int),()))))<(↑30:Int)) (.i5 (v5 IntKind.i64 ((if List.getD o6 (Int.toNat (Prod.fst (List.getD v16 (Int.toNat v18) ((0:Int),(0:Int),(0:Int),())))) (0:Int)<List.getD o7 (Int.toNat (Prod.fst (Prod.snd (Prod.snd (List.getD v16 (Int.toNat v18) ((0:Int),(0:Int),(0:Int),())))))) (0:Int) then List.getD o7 (Int.toNat (Prod.fst (Prod.snd (Prod.snd (List.getD v16 (Int.toNat v18) ((0:Int),(0:Int),(0:Int),())))))) (0:Int) else List.getD o6 (Int.toNat (Prod.fst (List.getD v16 (Int.toNat v18) ((0:Int),(0:Int),(0:Int),())))) (0:Int))+(1:Int))) (.i5 ((0:Int)≤Prod.fst (List.getD v16 (Int.toNat v18) ((0:Int),(0:Int),(0:Int),()))∧Prod.fst (List.getD v16 (Int.toNat v18) ((0:Int),(0:Int),(0:Int),()))<(↑6:Int)) (cond (decide (Prod.fst (Prod.snd (List.getD v16 (Int.toNat v18) ((0:Int),(0:Int),(0:Int),())))=(2:Int))) (.i5 ((0:Int)≤Prod.fst (Prod.snd (Prod.snd (List.getD v16 (Int.toNat v18) ((0:Int),(0:Int),(0:Int),()))))∧Prod.fst (Prod.snd (Prod.snd (List.getD v16 (Int.toNat v18) ((0:Int),(0:Int),(0:Int),()))))<(↑30:Int)) (.i5 (List.length o1000005+List.length (List.set [(0:Int)] (Int.toNat (↑0:Int)) ((if List.getD o6 (Int.toNat (Prod.fst (List.getD v16 (Int.toNat v18) ((0:Int),(0:Int),(0:Int),())))) (0:Int)<List.getD o7 (Int.toNat (Prod.fst (Prod.snd (Prod.snd (List.getD v16 (Int.toNat v18) ((0:Int),(0:Int),(0:Int),())))))) (0:Int) then List.getD o7 (Int.toNat (Prod.fst (Prod.snd (Prod.snd (List.getD v16 (Int.toNat v18) ((0:Int),(0:Int),(0:Int),())))))) (0:Int) else List.getD o6 (Int.toNat (Prod.fst (List.getD v16 (Int.toNat v18) ((0:Int),(0:Int),(0:Int),())))) (0:Int))+(1:Int)))≤140737488355328∧(List.length o1000005+List.length (List.set [(0:Int)] (Int.toNat (↑0:Int)) ((if List.getD o6 (Int.toNat (Prod.fst (List.getD v16 (Int.toNat v18) ((0:Int),(0:Int),(0:Int),())))) (0:Int)<List.getD o7 (Int.toNat (Prod.fst (Prod.snd (Prod.snd (List.getD v16 (Int.toNat v18) ((0:Int),(0:Int),(0:Int),())))))) (0:Int) then List.getD o7 (Int.toNat (Prod.fst (Prod.snd (Prod.snd (List.getD v16 (Int.toNat v18) ((0:Int),(0:Int),(0:Int),())))))) (0:Int) else List.getD o6 (Int.toNat (Prod.fst (List.getD v16 (Int.toNat v18) ((0:Int),(0:Int),(0:Int),())))) (0:Int))+(1:Int))))*Ty.wb (Ty.int IntKind.i64)≤140737488355328) (.i5 (v5 IntKind.i64 (v18+(1:Int))) (.cut (e8 (d9 Try.prog 71) 8).1 (e8 (d9 Try.prog 71) 8).2 (St.mk [(5,AV.at_ 1000005 []),(6,AV.ptr 6 []),(7,AV.ptr 7 []),(16,AV.val (Ty.d0 false p7) v16),(17,AV.val (Ty.int IntKind.i64) v17),(18,AV.val (Ty.int IntKind.i64) (v18+(1:Int)))] [(6,g9.var Vec (List.set o6 (Int.toNat (Prod.fst (List.getD v16 (Int.toNat v18) ((0:Int),(0:Int),(0:Int),())))) ((if List.getD o6 (Int.toNat (Prod.fst (List.getD v16 (Int.toNat v18) ((0:Int),(0:Int),(0:Int),())))) (0:Int)<List.getD o7 (Int.toNat (Prod.fst (Prod.snd (Prod.snd (List.getD v16 (Int.toNat v18) ((0:Int),(0:Int),(0:Int),())))))) (0:Int) then List.getD o7 (Int.toNat (Prod.fst (Prod.snd (Prod.snd (List.getD v16 (Int.toNat v18) ((0:Int),(0:Int),(0:Int),())))))) (0:Int) else List.getD o6 (Int.toNat (Prod.fst (List.getD v16 (Int.toNat v18) ((0:Int),(0:Int),(0:Int),())))) (0:Int))+(1:Int)))),(7,g9.var (Ty.arr 30 (Ty.int IntKind.i64)) (List.set o7 (Int.toNat (Prod.fst (Prod.snd (Prod.snd (List.getD v16 (Int.toNat v18) ((0:Int),(0:Int),(0:Int),())))))) ((if List.getD o6 (Int.toNat (Prod.fst (List.getD v16 (Int.toNat v18) ((0:Int),(0:Int),(0:Int),())))) (0:Int)<List.getD o7 (Int.toNat (Prod.fst (Prod.snd (Prod.snd (List.getD v16 (Int.toNat v18) ((0:Int),(0:Int),(0:Int),())))))) (0:Int) then List.getD o7 (Int.toNat (Prod.fst (Prod.snd (Prod.snd (List.getD v16 (Int.toNat v18) ((0:Int),(0:Int),(0:Int),())))))) (0:Int) else List.getD o6 (Int.toNat (Prod.fst (List.getD v16 (Int.toNat v18) ((0:Int),(0:Int),(0:Int),())))) (0:Int))+(1:Int)))),(1000005,g9.own Is (o1000005++List.set [(0:Int)] (Int.toNat (↑0:Int)) ((if List.getD o6 (Int.toNat (Prod.fst (List.getD v16 (Int.toNat v18) ((0:Int),(0:Int),(0:Int),())))) (0:Int)<List.getD o7 (Int.toNat (Prod.fst (Prod.snd (Prod.snd (List.getD v16 (Int.toNat v18) ((0:Int),(0:Int),(0:Int),())))))) (0:Int) then List.getD o7 (Int.toNat (Prod.fst (Prod.snd (Prod.snd (List.getD v16 (Int.toNat v18) ((0:Int),(0:Int),(0:Int),())))))) (0:Int) else List.getD o6 (Int.toNat (Prod.fst (List.getD v16 (Int.toNat v18) ((0:Int),(0:Int),(0:Int),())))) (0:Int))+(1:Int))))]))))) (.i5 (List.length o1000005+List.length (List.set [(0:Int)] (Int.toNat (↑0:Int)) ((if List.getD o6 (Int.toNat (Prod.fst (List.getD v16 (Int.toNat v18) ((0:Int),(0:Int),(0:Int),())))) (0:Int)<List.getD o7 (Int.toNat (Prod.fst (Prod.snd (Prod.snd (List.getD v16 (Int.toNat v18) ((0:Int),(0:Int),(0:Int),())))))) (0:Int) then List.getD o7 (Int.toNat (Prod.fst (Prod.snd (Prod.snd (List.getD v16 (Int.toNat v18) ((0:Int),(0:Int),(0:Int),())))))) (0:Int) else List.getD o6 (Int.toNat (Prod.fst (List.getD v16 (Int.toNat v18) ((0:Int),(0:Int),(0:Int),())))) (0:Int))+(1:Int)))≤140737488355328∧(List.length o1000005+List.length (List.set [(0:Int)] (Int.toNat (↑0:Int)) ((if List.getD o6 (Int.toNat (Prod.fst (List.getD v16 (Int.toNat v18) ((0:Int),(0:Int),(0:Int),())))) (0:Int)<List.getD o7 (Int.toNat (Prod.fst (Prod.snd (Prod.snd (List.getD v16 (Int.toNat v18) ((0:Int),(0:Int),(0:Int),())))))) (0:Int) then List.getD o7 (Int.toNat (Prod.fst (Prod.snd (Prod.snd (List.getD v16 (Int.toNat v18) ((0:Int),(0:Int),(0:Int),())))))) (0:Int) else List.getD o6 (Int.toNat (Prod.fst (List.getD v16 (Int.toNat v18) ((0:Int),(0:Int),(0:Int),())))) (0:Int))+(1:Int))))*Ty.wb (Ty.int IntKind.i64)≤140737488355328) (.i5 (v5 IntKind.i64 (v18+(1:Int))) (.cut (e8 (d9 Try.prog 71) 8).1 (e8 (d9 Try.prog 71) 8).2 (St.mk [(5,AV.at_ 1000005 []),(6,AV.ptr 6 []),(7,AV.ptr 7 []),(16,AV.val (Ty.d0 false p7) v16),(17,AV.val (Ty.int IntKind.i64) v17),(18,AV.val (Ty.int IntKind.i64) (v18+(1:Int)))] [(6,g9.var Vec (List.set o6 (Int.toNat (Prod.fst (List.getD v16 (Int.toNat v18) ((0:Int),(0:Int),(0:Int),())))) ((if List.getD o6 (Int.toNat (Prod.fst (List.getD v16 (Int.toNat v18) ((0:Int),(0:Int),(0:Int),())))) (0:Int)<List.getD o7 (Int.toNat (Prod.fst (Prod.snd (Prod.snd (List.getD v16 (Int.toNat v18) ((0:Int),(0:Int),(0:Int),())))))) (0:Int) then List.getD o7 (Int.toNat (Prod.fst (Prod.snd (Prod.snd (List.getD v16 (Int.toNat v18) ((0:Int),(0:Int),(0:Int),())))))) (0:Int) else List.getD o6 (Int.toNat (Prod.fst (List.getD v16 (Int.toNat v18) ((0:Int),(0:Int),(0:Int),())))) (0:Int))+(1:Int)))),(7,g9.var (Ty.arr 30 (Ty.int IntKind.i64)) o7),(1000005,g9.own Is (o1000005++List.set [(0:Int)] (Int.toNat (↑0:Int)) ((if List.getD o6 (Int.toNat (Prod.fst (List.getD v16 (Int.toNat v18) ((0:Int),(0:Int),(0:Int),())))) (0:Int)<List.getD o7 (Int.toNat (Prod.fst (Prod.snd (Prod.snd (List.getD v16 (Int.toNat v18) ((0:Int),(0:Int),(0:Int),())))))) (0:Int) then List.getD o7 (Int.toNat (Prod.fst (Prod.snd (Prod.snd (List.getD v16 (Int.toNat v18) ((0:Int),(0:Int),(0:Int),())))))) (0:Int) else List.getD o6 (Int.toNat (Prod.fst (List.getD v16 (Int.toNat v18) ((0:Int),(0:Int),(0:Int),())))) (0:Int))+(1:Int))))])))))))) (.i5 (v5 IntKind.i64 (List.getD o6 (Int.toNat (Prod.fst (List.getD v16 (Int.toNat v18) ((0:Int),(0:Int),(0:Int),())))) (0:Int)+(1:Int))) (.i5 ((0:Int)≤Prod.fst (List.getD v16 (Int.toNat v18) ((0:Int),(0:Int),(0:Int),()))∧Prod.fst (List.getD v16 (Int.toNat v18) ((0:Int),(0:Int),(0:Int),()))<(↑6:Int)) (cond (decide (Prod.fst (Prod.snd (List.getD v16 (Int.toNat v18) ((0:Int),(0:Int),(0:Int),())))=(2:Int))) (.i5 ((0:Int)≤Prod.fst (Prod.snd (Prod.snd (List.getD v16 (Int.toNat v18) ((0:Int),(0:Int),(0:Int),()))))∧Prod.fst (Prod.snd (Prod.snd (List.getD v16 (Int.toNat v18) ((0:Int),(0:Int),(0:Int),()))))<(↑30:Int)) (.i5 (List.length o1000005+List.length (List.set [(0:Int)] (Int.toNat (↑0:Int)) (List.getD o6 (Int.toNat (Prod.fst (List.getD v16 (Int.toNat v18) ((0:Int),(0:Int),(0:Int),())))) (0:Int)+(1:Int)))≤140737488355328∧(List.length o1000005+List.length (List.set [(0:Int)] (Int.toNat (↑0:Int)) (List.getD o6 (Int.toNat (Prod.fst (List.getD v16 (Int.toNat v18) ((0:Int),(0:Int),(0:Int),())))) (0:Int)+(1:Int))))*Ty.wb (Ty.int IntKind.i64)≤140737488355328) (.i5 (v5 IntKind.i64 (v18+(1:Int))) (.cut (e8 (d9 Try.prog 71) 8).1 (e8 (d9 Try.prog 71) 8).2 (St.mk [(5,AV.at_ 1000005 []),(6,AV.ptr 6 []),(7,AV.ptr 7 []),(16,AV.val (Ty.d0 false p7) v16),(17,AV.val (Ty.int IntKind.i64) v17),(18,AV.val (Ty.int IntKind.i64) (v18+(1:Int)))] [(6,g9.var Vec (List.set o6 (Int.toNat (Prod.fst (List.getD v16 (Int.toNat v18) ((0:Int),(0:Int),(0:Int),())))) (List.getD o6 (Int.toNat (Prod.fst (List.getD v16 (Int.toNat v18) ((0:Int),(0:Int),(0:Int),())))) (0:Int)+(1:Int)))),(7,g9.var (Ty.arr 30 (Ty.int IntKind.i64)) (List.set o7 (Int.toNat (Prod.fst (Prod.snd (Prod.snd (List.getD v16 (Int.toNat v18) ((0:Int),(0:Int),(0:Int),())))))) (List.getD o6 (Int.toNat (Prod.fst (List.getD v16 (Int.toNat v18) ((0:Int),(0:Int),(0:Int),())))) (0:Int)+(1:Int)))),(1000005,g9.own Is (o1000005++List.set [(0:Int)] (Int.toNat (↑0:Int)) (List.getD o6 (Int.toNat (Prod.fst (List.getD v16 (Int.toNat v18) ((0:Int),(0:Int),(0:Int),())))) (0:Int)+(1:Int))))]))))) (.i5 (List.length o1000005+List.length (List.set [(0:Int)] (Int.toNat (↑0:Int)) (List.getD o6 (Int.toNat (Prod.fst (List.getD v16 (Int.toNat v18) ((0:Int),(0:Int),(0:Int),())))) (0:Int)+(1:Int)))≤140737488355328∧(List.length o1000005+List.length (List.set [(0:Int)] (Int.toNat (↑0:Int)) (List.getD o6 (Int.toNat (Prod.fst (List.getD v16 (Int.toNat v18) ((0:Int),(0:Int),(0:Int),())))) (0:Int)+(1:Int))))*Ty.wb (Ty.int IntKind.i64)≤140737488355328) (.i5 (v5 IntKind.i64 (v18+(1:Int))) (.cut (e8 (d9 Try.prog 71) 8).1 (e8 (d9 Try.prog 71) 8).2 (St.mk [(5,AV.at_ 1000005 []),(6,AV.ptr 6 []),(7,AV.ptr 7 []),(16,AV.val (Ty.d0 false p7) v16),(17,AV.val (Ty.int IntKind.i64) v17),(18,AV.val (Ty.int IntKind.i64) (v18+(1:Int)))] [(6,g9.var Vec (List.set o6 (Int.toNat (Prod.fst (List.getD v16 (Int.toNat v18) ((0:Int),(0:Int),(0:Int),())))) (List.getD o6 (Int.toNat (Prod.fst (List.getD v16 (Int.toNat v18) ((0:Int),(0:Int),(0:Int),())))) (0:Int)+(1:Int)))),(7,g9.var (Ty.arr 30 (Ty.int IntKind.i64)) o7),(1000005,g9.own Is (o1000005++List.set [(0:Int)] (Int.toNat (↑0:Int)) (List.getD o6 (Int.toNat (Prod.fst (List.getD v16 (Int.toNat v18) ((0:Int),(0:Int),(0:Int),())))) (0:Int)+(1:Int))))])))))))))) (.ret ((o1000005,(0:Int),()))):=by kernel_rfl

theorem a86 {c:CkD} {e:Ev} (h:a0D c e=0):(0≤e.1∧e.1≤5)∧(0≤e.2.2.1∧e.2.2.1≤29)∧(e.2.1=1∨e.2.1=2∨e.2.1=3):=by
  unfold a0D at h
  split at h
  · cases h
  · rename_i h1
    split at h
    · cases h
    · rename_i h2
      refine ⟨a3E.1 (by simpa using h1),a3E.1 (by simpa using h2),?_⟩
      split at h
      · rename_i h3; exact .inl h3
      · split at h
        · rename_i h3; exact .inr (.inl h3)
        · split at h
          · rename_i h3; exact .inr (.inr h3)
          · cases h
theorem a6B:∀ {l:List Ev} {c:CkD},Y0 c l=0→∀ e∈l,(0≤e.1∧e.1≤5)∧(0≤e.2.2.1∧e.2.2.1≤29)∧(e.2.1=1∨e.2.1=2∨e.2.1=3)
  | [],_,_,e,he=>by cases he
  | x::l,c,h,e,he=>by
    simp only [Y0] at h
    split at h
    · rename_i h1; exact absurd h h1
    · rename_i h1
      rcases List.mem_cons.1 he with rfl|he
      · exact a86 (Decidable.of_not_not h1)
      · exact a6B h e he
theorem Z3 {h:List Ev} (hh:B0 h=0):h.length≤60∧Y0 ck0 h=0:=by
  unfold B0 at hh
  split at hh
  · cases hh
  · exact ⟨by omega,hh⟩
theorem b3F {h:List Ev} (hh:B0 h=0) {i:Nat} (hi:i<h.length):(0≤(h.getD i e0).1∧(h.getD i e0).1≤5)∧(0≤(h.getD i e0).2.2.1∧(h.getD i e0).2.2.1≤29)∧((h.getD i e0).2.1=1∨(h.getD i e0).2.1=2∨(h.getD i e0).2.1=3) :=
  a6B (Z3 hh).2 _ (a1v hi)
theorem a6v {l:List Int} {i j:Nat} {x b:Int} (h:∀ j,l.getD j 0≤b∧0≤l.getD j 0) (hx:x≤b∧0≤x):(l.set i x).getD j 0≤b∧0≤(l.set i x).getD j 0:=by
  by_cases hi:i<l.length
  · rw [I7 hi]; split
    · exact hx
    · exact h j
  · rw [List.set_eq_of_length_le (by omega)]; exact h j
theorem b9a {last sent:List Int} {e:Ev} {b:Int} (hl:∀ j,last.getD j 0≤b∧0≤last.getD j 0) (hs:∀ j,sent.getD j 0≤b∧0≤sent.getD j 0):tOf last sent e≤b+1∧1≤tOf last sent e:=by
  have h1:=hl e.1.toNat
  have h2:=hs e.2.2.1.toNat
  unfold tOf
  repeat' split
  all_goals omega

theorem a9I:a8A.Valid Try.prog 71:=by
  refine D7.E6 a4x rfl rfl Try.func71 (c:=d9 Try.prog 71) rfl rfl a4u rfl ?_
  rintro ⟨(h:List Ev),⟨⟩⟩ - -
  refine s4 (n:=1000) a4x a4u ?_
  refine n9 (b6m h) ?_
  simp only [q8,Tree.holds,true_and,true_implies,decide_eq_true_eq,decide_eq_false_iff_not,Bool.not_eq_true',Bool.not_eq_false',Int.toNat_natCast,w7,List.length_set,List.length_cons,List.length_nil]
  refine ⟨fun a=>?_,fun a=>?_⟩
  · show (([],B0 h,()):List Int×Int×Unit)=stamps h; rw [stamps,if_pos a]
  have hh:B0 h=0:=Decidable.of_not_not a
  have hl:=(Z3 hh).1
  refine Reach.K1 a4x a4u (fun s:Nat×List Int×List Int×List Int=>a79 h (h.length:Int) (s.1:Int) s.2.1 s.2.2.1 s.2.2.2)
    (fun s=>s.1≤h.length∧s.2.2.2.length=s.1∧(∀ j,s.2.1.getD j 0≤s.1∧0≤s.2.1.getD j 0)∧(∀ j,s.2.2.1.getD j 0≤s.1∧0≤s.2.2.1.getD j 0)∧stamps h=(s.2.2.2++a3k s.2.1 s.2.2.1 (h.drop s.1),0,()))
    (fun s=>h.length - s.1) 1000 (fun _=>⟨s6 rfl,s6 rfl⟩) ?_ (0,List.replicate 6 0,List.replicate 30 0,[]) ⟨by simp,rfl,?_,?_,by rw [stamps,if_neg a]; rfl⟩
  · rintro ⟨i,last,sent,out⟩ ⟨k1,k2,k3,k4,k5⟩ - ih
    have k1:i≤h.length:=k1
    have k2:out.length=i:=k2
    have k3:∀ j,last.getD j 0≤i∧0≤last.getD j 0:=k3
    have k4:∀ j,sent.getD j 0≤i∧0≤sent.getD j 0:=k4
    have k5:stamps h=(out++a3k last sent (h.drop i),0,()):=k5
    refine n9 (b4Q ..) ?_
    by_cases hi:i<h.length
    · rw [V9 hi e0,a3k] at k5
      have hr:=b3F hh hi
      rw [show h.getD i e0=h.getD (Int.toNat (i:Int)) e0 from rfl] at k5 hr
      generalize h.getD (Int.toNat (i:Int)) e0=e at *
      obtain ⟨p,k,m,⟨⟩⟩:=e
      have hr:(0≤p∧p≤5)∧(0≤m∧m≤29)∧(k=1∨k=2∨k=3):=hr
      have ht:=b9a (e:=(p,k,m,())) k3 k4
      have hnext:=fun (sent':List Int) (hs:(if k=2 then sent.set m.toNat (tOf last sent (p,k,m,())) else sent)=sent')=>ih (i+1,last.set p.toNat (tOf last sent (p,k,m,())),sent',out++[tOf last sent (p,k,m,())]) (by
        subst hs
        refine ⟨hi,by simp [k2],fun j=>?_,fun j=>?_,?_⟩
        · exact a6v (fun j=>by have:=k3 j; show _≤((i+1:Nat):Int)∧_; omega) (by show _≤((i+1:Nat):Int)∧_; omega)
        · show (if k=2 then _ else sent).getD j 0≤((i+1:Nat):Int)∧_
          split
          · exact a6v (fun j=>by have:=k4 j; show _≤((i+1:Nat):Int)∧_; omega) (by show _≤((i+1:Nat):Int)∧_; omega)
          · have:=k4 j; show sent.getD j 0≤((i+1:Nat):Int)∧0≤sent.getD j 0; omega
        · rw [k5]; simp) (by show h.length - (i+1)<h.length - i; omega)
      have e3:k=3→tOf last sent (p,k,m,())=(if last.getD p.toNat 0<sent.getD m.toNat 0 then sent.getD m.toNat 0 else last.getD p.toNat 0)+1:=fun h=>by simp [tOf,h]
      have e1:k≠3→tOf last sent (p,k,m,())=last.getD p.toNat 0+1:=fun h=>by simp [tOf,h]
      generalize tOf last sent (p,k,m,())=t at *
      by_cases hk3:k=3
      · have e3:=e3 hk3
        simp only [← e3]
        simp only [q8,Tree.holds,true_and,true_implies,decide_eq_true_eq,decide_eq_false_iff_not,Bool.not_eq_true',Bool.not_eq_false',Int.toNat_natCast,w7,List.length_set,List.length_cons,List.length_nil,b46]
        have:=hnext _ (if_neg (by omega))
        exact ⟨fun _=>⟨by omega,fun _=>⟨by omega,fun _=>⟨fun _=>⟨by omega,fun _=>⟨by omega,fun _=>⟨by omega,fun _=>⟨fun h=>absurd h (by omega),fun _=>⟨by omega,fun _=>⟨by omega,fun _=>this⟩⟩⟩⟩⟩⟩,fun h=>absurd hk3 h⟩⟩⟩,fun h=>absurd h (by omega)⟩
      · have e1:=e1 hk3
        simp only [← e1]
        simp only [q8,Tree.holds,true_and,true_implies,decide_eq_true_eq,decide_eq_false_iff_not,Bool.not_eq_true',Bool.not_eq_false',Int.toNat_natCast,w7,List.length_set,List.length_cons,List.length_nil,b46]
        refine ⟨fun _=>⟨by omega,fun _=>⟨by omega,fun _=>⟨fun h=>absurd h hk3,fun _=>⟨by omega,fun _=>⟨by omega,fun _=>⟨fun h=>⟨by omega,fun _=>⟨by omega,fun _=>⟨by omega,fun _=>hnext _ (if_pos h)⟩⟩⟩,fun h=>⟨by omega,fun _=>⟨by omega,fun _=>hnext _ (if_neg h)⟩⟩⟩⟩⟩⟩⟩⟩,fun h=>absurd h (by omega)⟩
    · rw [List.drop_eq_nil_of_le (by omega)] at k5
      simp only [q8,Tree.holds,true_and,true_implies,decide_eq_true_eq,decide_eq_false_iff_not,Bool.not_eq_true',Bool.not_eq_false',Int.toNat_natCast,w7,List.length_set,List.length_cons,List.length_nil]
      refine ⟨fun b=>absurd b (by omega),fun b=>?_⟩
      show ((out,0,()):List Int×Int×Unit)=stamps h; rw [k5]; simp [a3k]
  · intro j
    show (List.replicate 6 (0:Int)).getD j 0≤0∧_
    have:(List.replicate 6 (0:Int)).getD j 0=0:=by rw [List.getD_eq_getElem?_getD,List.getElem?_replicate]; split<;>rfl
    rw [this]; omega
  · intro j
    show (List.replicate 30 (0:Int)).getD j 0≤0∧_
    have:(List.replicate 30 (0:Int)).getD j 0=0:=by rw [List.getD_eq_getElem?_getD,List.getElem?_replicate]; split<;>rfl
    rw [this]; omega
end Go.Proofs.Ytekbamiaenbhjaa
