/- The contracts of the package stamp's functions. -/
import Derived.Test.YtekbamiaenbhjaaBase
namespace Go.Proofs.Ytekbamiaenbhjaa
open Go.Ex
set_option maxRecDepth 100000
abbrev Ev:=Int×Int×Int×Unit
abbrev Ck:Ty:=.pair (.arr 30 i5) (.pair (.arr 30 (.arr 6 .bool)) .unit)
abbrev CkD:=List Int×List (List Bool)×Unit

theorem c4o:Ty.wb I2=48:=rfl
theorem c0I:Ty.wb r7=16:=rfl
def c1M:w9:={ ps:=[.v i5,.v i5,.v i5],rs:=[.bool],pre:=fun _=>True,fn:=fun x=>(N3 x.1 x.2.1 x.2.2.1,()),out:=fun _=>() }
noncomputable def c2m:Env:={ P:=Try.prog,tt:=tt,F2:=[],res:=[Go.ResultVar.tmp 6],rs:=[Ty.bool],ps:=[PK.v i5,PK.v i5,PK.v i5],D8:=[],nt:=15 }
theorem b6F:B6 c2m:=D0 w5 trivial
theorem b6A:E3 c2m Try.f277:=⟨rfl,rfl⟩
theorem c4W (x0:Int) (x1:Int) (x2:Int):exec c2m 1000 [.code (d8 Try.prog 277)] (A5 c1M.ps ((x0,x1,x2,()))) =
  cond (decide (x1≤x0)) (.ret ((decide (x0≤x2),()))) (.ret ((false,()))):=by kernel_rfl
theorem b7Q:c1M.Valid Try.prog 277:=by
  refine w9.u7 b6F rfl rfl Try.func277 (c:=d8 Try.prog 277) rfl rfl b6A rfl ?_
  rintro ⟨(a:Int),(b:Int),(c:Int),⟨⟩⟩ - -
  refine n7 (n:=1000) b6F b6A ?_
  refine g9 (c4W a b c) ?_
  simp only [i9,Tree.holds,true_and,true_implies,decide_eq_true_eq,decide_eq_false_iff_not,Bool.not_eq_true',Bool.not_eq_false',Int.toNat_natCast,l7,List.length_set,List.length_cons,List.length_nil]
  repeat' first|exact trivial|(refine And.intro ?_ ?_)|(intro _)
  all_goals (show ((_,()):Bool×Unit)=(N3 a b c,()); simp [N3, *])

abbrev f6:List Bool:=[false,false,false,false,false,false]
abbrev e0:Ev:=(0,0,0,())
def a1a (c:CkD) (e:Ev):Int :=
  if N3 e.1 0 5=false then 1 else if N3 e.2.2.1 0 29=false then 1
  else if e.2.1=1 then (if e.2.2.1≠0 then 4 else 0)
  else if e.2.1=2 then (if 0<c.1.getD e.2.2.1.toNat 0 then 4 else 0)
  else if e.2.1=3 then (if c.1.getD e.2.2.1.toNat 0=0 then 4 else if c.1.getD e.2.2.1.toNat 0=e.1+1 then 4 else if (c.2.1.getD e.2.2.1.toNat f6).getD e.1.toNat false=true then 4 else 0)
  else 4
def a5B (c:CkD) (e:Ev):CkD :=
  if a1a c e≠0 then c
  else if e.2.1=2 then (c.1.set e.2.2.1.toNat (e.1+1),c.2)
  else if e.2.1=3 then (c.1,c.2.1.set e.2.2.1.toNat ((c.2.1.getD e.2.2.1.toNat f6).set e.1.toNat true),())
  else c
def b30:w9:={ ps:=[.rw Ck,.v Event],rs:=[i5],pre:=fun _=>True,fn:=fun x=>(a1a x.1 x.2.1,()),out:=fun x=>(a5B x.1 x.2.1,()) }
noncomputable def b4K:Env:={ P:=Try.prog,tt:=tt,F2:=[(277,c1M)],res:=[Go.ResultVar.tmp 4],rs:=[Ty.int IntKind.i64],ps:=[PK.rw (Ty.pair (Ty.arr 30 i5) (Ty.pair (Ty.arr 30 (Ty.arr 6 Ty.bool)) Ty.unit)),PK.v r8],D8:=[],nt:=85 }
theorem b1Z:B6 b4K:=D0 w5 ⟨b7Q,trivial⟩
theorem b1M:E3 b4K Try.f221:=⟨rfl,rfl⟩
theorem c2B (x0_1:List Int) (x0_2_1:List (List Bool)) (x1_1:Int) (x1_2_1:Int) (x1_2_2_1:Int):exec b4K 1000 [.code (d8 Try.prog 221)] (A5 b30.ps (((x0_1,x0_2_1,()),(x1_1,x1_2_1,x1_2_2_1,()),()))) =
  .e8 (True) (cond (!N3 x1_1 (0:Int) (5:Int)) (.ret (((1:Int),(x0_1,x0_2_1,()),()))) (.e8 (True) (cond (!N3 x1_2_2_1 (0:Int) (29:Int)) (.ret (((1:Int),(x0_1,x0_2_1,()),()))) (cond (decide (x1_2_1=(1:Int))) (cond (decide (x1_2_2_1≠(0:Int))) (.ret (((4:Int),(x0_1,x0_2_1,()),()))) (.ret (((0:Int),(x0_1,x0_2_1,()),())))) (cond (decide (x1_2_1=(2:Int))) (.e8 ((0:Int)≤x1_2_2_1∧x1_2_2_1<(↑30:Int)) (cond (decide ((0:Int)<List.getD x0_1 (Int.toNat x1_2_2_1) (0:Int))) (.ret (((4:Int),(x0_1,x0_2_1,()),()))) (.e8 (r9 IntKind.i64 (x1_1+(1:Int))) (.e8 ((0:Int)≤x1_2_2_1∧x1_2_2_1<(↑30:Int)) (.ret (((0:Int),(List.set x0_1 (Int.toNat x1_2_2_1) (x1_1+(1:Int)),x0_2_1,()),()))))))) (cond (decide (x1_2_1=(3:Int))) (.e8 ((0:Int)≤x1_2_2_1∧x1_2_2_1<(↑30:Int)) (cond (decide (List.getD x0_1 (Int.toNat x1_2_2_1) (0:Int)=(0:Int))) (.ret (((4:Int),(x0_1,x0_2_1,()),()))) (.e8 ((0:Int)≤x1_2_2_1∧x1_2_2_1<(↑30:Int)) (.e8 (r9 IntKind.i64 (x1_1+(1:Int))) (cond (decide (List.getD x0_1 (Int.toNat x1_2_2_1) (0:Int)=x1_1+(1:Int))) (.ret (((4:Int),(x0_1,x0_2_1,()),()))) (.e8 ((0:Int)≤x1_2_2_1∧x1_2_2_1<(↑30:Int)) (.e8 ((0:Int)≤x1_1∧x1_1<(↑6:Int)) (cond (List.getD (List.getD x0_2_1 (Int.toNat x1_2_2_1) [false,false,false,false,false,false]) (Int.toNat x1_1) false) (.ret (((4:Int),(x0_1,x0_2_1,()),()))) (.e8 ((0:Int)≤x1_2_2_1∧x1_2_2_1<(↑30:Int)) (.e8 ((0:Int)≤x1_1∧x1_1<(↑6:Int)) (.ret (((0:Int),(x0_1,List.set x0_2_1 (Int.toNat x1_2_2_1) (List.set (List.getD x0_2_1 (Int.toNat x1_2_2_1) [false,false,false,false,false,false]) (Int.toNat x1_1) true),()),()))))))))))))) (.ret (((4:Int),(x0_1,x0_2_1,()),()))))))))):=by kernel_rfl
theorem b3Z:b30.Valid Try.prog 221:=by
  refine w9.u7 b1Z rfl rfl Try.func221 (c:=d8 Try.prog 221) rfl rfl b1M rfl ?_
  rintro ⟨⟨(sd:List Int),(tk:List (List Bool)),⟨⟩⟩,⟨(p:Int),(k:Int),(m:Int),⟨⟩⟩,⟨⟩⟩ - -
  refine n7 (n:=1000) b1Z b1M ?_
  refine g9 (c2B sd tk p k m) ?_
  simp only [i9,Tree.holds,true_and,true_implies,decide_eq_true_eq,decide_eq_false_iff_not,Bool.not_eq_true',Bool.not_eq_false',Int.toNat_natCast,l7,List.length_set,List.length_cons,List.length_nil]
  repeat' first|exact trivial|(refine And.intro ?_ ?_)|(intro _)
  all_goals first
    | (simp only [K0] at *; omega)
    | (show _=(a1a (sd,tk,()) (p,k,m,()),a5B (sd,tk,()) (p,k,m,()),()); simp [-List.getD_eq_getElem?_getD,a1a,a5B, *]; try rfl)

def ck0:CkD:=(List.replicate 30 0,List.replicate 30 f6,())
def S7 (c:CkD):List Ev→Int
  | []=>0
  | e::l=>if a1a c e≠0 then a1a c e else S7 (a5B c e) l
def t8 (h:List Ev):Int:=if 60<h.length then 2 else S7 ck0 h
def a3l:w9:={ ps:=[.v Es],rs:=[i5],pre:=fun _=>True,fn:=fun x=>(t8 x.1,()),out:=fun _=>() }
noncomputable def a7B:Env:={ P:=Try.prog,tt:=tt,F2:=[(221,b30)],res:=[Go.ResultVar.tmp 2],rs:=[Ty.int IntKind.i64],ps:=[PK.v (Ty.d0 false r8)],D8:=[(5,[(3,none),(12,none),(13,none),(14,none)])],nt:=25 }
theorem a5T:B6 a7B:=D0 w5 ⟨b3Z,trivial⟩
theorem a5N:E3 a7B Try.f127:=⟨rfl,rfl⟩
theorem c0u (x0:List (Int×Int×Int×Unit)):exec a7B 1000 [.code (d8 Try.prog 127)] (A5 a3l.ps ((x0,()))) =
  cond (decide ((60:Int)<(↑(List.length x0):Int))) (.ret (((2:Int),()))) (.ctL (d9 (d8 Try.prog 127) 5) (St.mk [(3,AV.ptr 11 []),(12,AV.val (Ty.d0 false r8) x0),(13,vI (↑(List.length x0):Int)),(14,vI (0:Int))] [(11,f7.var (Ty.pair (Ty.arr 30 i5) (Ty.pair (Ty.arr 30 (Ty.arr 6 Ty.bool)) Ty.unit)) ([(0:Int),(0:Int),(0:Int),(0:Int),(0:Int),(0:Int),(0:Int),(0:Int),(0:Int),(0:Int),(0:Int),(0:Int),(0:Int),(0:Int),(0:Int),(0:Int),(0:Int),(0:Int),(0:Int),(0:Int),(0:Int),(0:Int),(0:Int),(0:Int),(0:Int),(0:Int),(0:Int),(0:Int),(0:Int),(0:Int)],[[false,false,false,false,false,false],[false,false,false,false,false,false],[false,false,false,false,false,false],[false,false,false,false,false,false],[false,false,false,false,false,false],[false,false,false,false,false,false],[false,false,false,false,false,false],[false,false,false,false,false,false],[false,false,false,false,false,false],[false,false,false,false,false,false],[false,false,false,false,false,false],[false,false,false,false,false,false],[false,false,false,false,false,false],[false,false,false,false,false,false],[false,false,false,false,false,false],[false,false,false,false,false,false],[false,false,false,false,false,false],[false,false,false,false,false,false],[false,false,false,false,false,false],[false,false,false,false,false,false],[false,false,false,false,false,false],[false,false,false,false,false,false],[false,false,false,false,false,false],[false,false,false,false,false,false],[false,false,false,false,false,false],[false,false,false,false,false,false],[false,false,false,false,false,false],[false,false,false,false,false,false],[false,false,false,false,false,false],[false,false,false,false,false,false]],()))])):=by kernel_rfl
def a97 (v12:List (Int×Int×Int×Unit)) (v13:Int) (v14:Int) (o11_1:List Int) (o11_2_1:List (List Bool)):St:=St.mk [(3,AV.ptr 11 []),(12,AV.val (Ty.d0 false r8) v12),(13,vI v13),(14,vI v14)] [(11,f7.var (Ty.pair (Ty.arr 30 i5) (Ty.pair (Ty.arr 30 (Ty.arr 6 Ty.bool)) Ty.unit)) (o11_1,o11_2_1,()))]
theorem b8y (v12:List (Int×Int×Int×Unit)) (v13:Int) (v14:Int) (o11_1:List Int) (o11_2_1:List (List Bool)):exec a7B 1000 (.code (d9 (d8 Try.prog 127) 5).1::.inLoop (d9 (d8 Try.prog 127) 5).1::(d9 (d8 Try.prog 127) 5).2) (a97 v12 v13 v14 o11_1 o11_2_1) =
  cond (decide (v14<v13)) (.e8 ((0:Int)≤v14∧v14<(↑(List.length v12):Int)) (.e8 (True) (cond (decide (a1a (o11_1,o11_2_1,()) (List.getD v12 (Int.toNat v14) ((0:Int),(0:Int),(0:Int),()))≠(0:Int))) (.ret ((a1a (o11_1,o11_2_1,()) (List.getD v12 (Int.toNat v14) ((0:Int),(0:Int),(0:Int),())),()))) (.e8 (r9 IntKind.i64 (v14+(1:Int))) (.ctL (d9 (d8 Try.prog 127) 5) (St.mk [(3,AV.ptr 11 []),(12,AV.val (Ty.d0 false r8) v12),(13,vI v13),(14,vI (v14+(1:Int)))] [(11,f7.var (Ty.pair (Ty.arr 30 i5) (Ty.pair (Ty.arr 30 (Ty.arr 6 Ty.bool)) Ty.unit)) (a5B (o11_1,o11_2_1,()) (List.getD v12 (Int.toNat v14) ((0:Int),(0:Int),(0:Int),()))))])))))) (.ret (((0:Int),()))):=by kernel_rfl
theorem a1b:a3l.Valid Try.prog 127:=by
  refine w9.u7 a5T rfl rfl Try.func127 (c:=d8 Try.prog 127) rfl rfl a5N rfl ?_
  rintro ⟨(h:List Ev),⟨⟩⟩ - -
  refine n7 (n:=1000) a5T a5N ?_
  refine g9 (c0u h) ?_
  simp only [i9,Tree.holds,true_and,true_implies,decide_eq_true_eq,decide_eq_false_iff_not,Bool.not_eq_true',Bool.not_eq_false',Int.toNat_natCast,l7,List.length_set,List.length_cons,List.length_nil]
  refine ⟨fun a=>?_,fun a=>?_⟩
  · show ((2,()):Int×Unit)=(t8 h,()); simp [t8,show 60<h.length by omega]
  have ha:¬ 60<h.length:=by omega
  refine Reach.C1 a5T a5N (fun s:Nat×CkD=>a97 h (h.length:Int) (s.1:Int) s.2.1 s.2.2.1) (fun s=>s.1≤h.length∧t8 h=S7 s.2 (h.drop s.1))
    (fun s=>h.length - s.1) 1000 (fun _=>⟨j7 rfl,j7 rfl⟩) ?_ (0,ck0) ⟨by simp,by simp [t8,ha]⟩
  rintro ⟨i,sd,tk,⟨⟩⟩ ⟨k1,k2⟩ - ih
  have k1:i≤h.length:=k1
  have k2:t8 h=S7 (sd,tk,()) (h.drop i):=k2
  refine g9 (b8y ..) ?_
  by_cases hi:i<h.length
  · rw [S3 hi e0,S7] at k2
    simp only [i9,Tree.holds,true_and,true_implies,decide_eq_true_eq,decide_eq_false_iff_not,Bool.not_eq_true',Bool.not_eq_false',Int.toNat_natCast,l7,List.length_set,List.length_cons,List.length_nil]
    refine ⟨fun _=>⟨by omega,fun _=>⟨fun b=>?_,fun b=>⟨by omega,fun _=>?_⟩⟩⟩,fun b=>absurd b (by omega)⟩
    · show ((_,()):Int×Unit)=(t8 h,()); rw [k2,if_pos b]
    · exact ih (i+1,a5B (sd,tk,()) (h.getD i e0)) ⟨hi,by rw [k2,if_neg b]⟩ (by show h.length - (i+1)<h.length - i; omega)
  · rw [List.drop_eq_nil_of_le (by omega)] at k2
    simp only [i9,Tree.holds,true_and,true_implies,decide_eq_true_eq,decide_eq_false_iff_not,Bool.not_eq_true',Bool.not_eq_false',Int.toNat_natCast,l7,List.length_set,List.length_cons,List.length_nil]
    refine ⟨fun b=>absurd b (by omega),fun b=>?_⟩
    show ((_,()):Int×Unit)=(t8 h,()); rw [k2]; rfl

def b7t (a b:Int):Int:=if a<b then b else a
def tOf (last sent:List Int) (e:Ev):Int:=(if e.2.1=3 then (if last.getD e.1.toNat 0<sent.getD e.2.2.1.toNat 0 then sent.getD e.2.2.1.toNat 0 else last.getD e.1.toNat 0) else last.getD e.1.toNat 0)+1
def a4l (last sent:List Int):List Ev→List Int
  | []=>[]
  | e::l=>tOf last sent e::a4l (last.set e.1.toNat (tOf last sent e)) (if e.2.1=2 then sent.set e.2.2.1.toNat (tOf last sent e) else sent) l
def stamps (h:List Ev):List Int×Int×Unit:=if t8 h≠0 then ([],t8 h,()) else (a4l (List.replicate 6 0) (List.replicate 30 0) h,0,())
def b0J:w9:={ ps:=[.v Es],rs:=[Is,i5],pre:=fun _=>True,fn:=fun x=>stamps x.1,out:=fun _=>() }
noncomputable def a7z:Env:={ P:=Try.prog,tt:=tt,F2:=[(127,a3l)],res:=[Go.ResultVar.tmp 2,Go.ResultVar.tmp 3],rs:=[Ty.d0 true i5,Ty.int IntKind.i64],ps:=[PK.v (Ty.d0 false r8)],D8:=[(8,[(5,some Is),(6,none),(7,none),(16,none),(17,none),(18,none)])],nt:=54 }
theorem a5Q:B6 a7z:=D0 w5 ⟨a1b,trivial⟩
theorem a5L:E3 a7z Try.f71:=⟨rfl,rfl⟩
theorem c0s (x0:List (Int×Int×Int×Unit)):exec a7z 1000 [.code (d8 Try.prog 71)] (A5 b0J.ps ((x0,()))) =
  .e8 (True) (cond (decide (t8 x0≠(0:Int))) (.ret (([],t8 x0,()))) (.ctL (d9 (d8 Try.prog 71) 8) (St.mk [(5,AV.at_ 1000005 []),(6,AV.ptr 6 []),(7,AV.ptr 7 []),(16,AV.val (Ty.d0 false r8) x0),(17,vI (↑(List.length x0):Int)),(18,vI (0:Int))] [(6,f7.var I2 [(0:Int),(0:Int),(0:Int),(0:Int),(0:Int),(0:Int)]),(7,f7.var (Ty.arr 30 i5) [(0:Int),(0:Int),(0:Int),(0:Int),(0:Int),(0:Int),(0:Int),(0:Int),(0:Int),(0:Int),(0:Int),(0:Int),(0:Int),(0:Int),(0:Int),(0:Int),(0:Int),(0:Int),(0:Int),(0:Int),(0:Int),(0:Int),(0:Int),(0:Int),(0:Int),(0:Int),(0:Int),(0:Int),(0:Int),(0:Int)]),(1000005,f7.own Is [])]))):=by kernel_rfl
def a95 (v16:List (Int×Int×Int×Unit)) (v17:Int) (v18:Int) (o6:List Int) (o7:List Int) (o1000005:List Int):St:=St.mk [(5,AV.at_ 1000005 []),(6,AV.ptr 6 []),(7,AV.ptr 7 []),(16,AV.val (Ty.d0 false r8) v16),(17,vI v17),(18,vI v18)] [(6,f7.var I2 o6),(7,f7.var (Ty.arr 30 i5) o7),(1000005,f7.own Is o1000005)]
theorem b8w (v16:List (Int×Int×Int×Unit)) (v17:Int) (v18:Int) (o6:List Int) (o7:List Int) (o1000005:List Int):exec a7z 1000 (.code (d9 (d8 Try.prog 71) 8).1::.inLoop (d9 (d8 Try.prog 71) 8).1::(d9 (d8 Try.prog 71) 8).2) (a95 v16 v17 v18 o6 o7 o1000005) =
  let q0:=(List.getD v16 (Int.toNat v18) ((0:Int),(0:Int),(0:Int),())); let q1:=(Int.toNat (Prod.fst (Prod.snd (Prod.snd q0)))); let q2:=(List.getD o6 (Int.toNat (Prod.fst q0)) (0:Int)+(1:Int)); let q3:=(18,vI (v18+(1:Int))); let q4:=(List.set [(0:Int)] (Int.toNat (↑0:Int)) q2); let q5:=(17,vI v17); let q6:=(16,AV.val (Ty.d0 false r8) v16); let q7:=(r9 IntKind.i64 (v18+(1:Int))); let q8:=(1000005,f7.own Is (o1000005++List.set [(0:Int)] (Int.toNat (↑0:Int)) q2)); cond (decide (v18<v17)) (.e8 ((0:Int)≤v18∧v18<(↑(List.length v16):Int)) (.e8 ((0:Int)≤Prod.fst q0∧Prod.fst q0<(↑6:Int)) (cond (decide (Prod.fst (Prod.snd q0)=(3:Int))) (.e8 ((0:Int)≤Prod.fst (Prod.snd (Prod.snd q0))∧Prod.fst (Prod.snd (Prod.snd q0))<(↑30:Int)) (.e8 (r9 IntKind.i64 ((if List.getD o6 (Int.toNat (Prod.fst q0)) (0:Int)<List.getD o7 q1 (0:Int) then List.getD o7 q1 (0:Int) else List.getD o6 (Int.toNat (Prod.fst q0)) (0:Int))+(1:Int))) (.e8 ((0:Int)≤Prod.fst q0∧Prod.fst q0<(↑6:Int)) (cond (decide (Prod.fst (Prod.snd q0)=(2:Int))) (.e8 ((0:Int)≤Prod.fst (Prod.snd (Prod.snd q0))∧Prod.fst (Prod.snd (Prod.snd q0))<(↑30:Int)) (.e8 (List.length o1000005+List.length (List.set [(0:Int)] (Int.toNat (↑0:Int)) ((if List.getD o6 (Int.toNat (Prod.fst q0)) (0:Int)<List.getD o7 q1 (0:Int) then List.getD o7 q1 (0:Int) else List.getD o6 (Int.toNat (Prod.fst q0)) (0:Int))+(1:Int)))≤140737488355328∧(List.length o1000005+List.length (List.set [(0:Int)] (Int.toNat (↑0:Int)) ((if List.getD o6 (Int.toNat (Prod.fst q0)) (0:Int)<List.getD o7 q1 (0:Int) then List.getD o7 q1 (0:Int) else List.getD o6 (Int.toNat (Prod.fst q0)) (0:Int))+(1:Int))))*Ty.wb i5≤140737488355328) (.e8 q7 (.ctL (d9 (d8 Try.prog 71) 8) (St.mk [(5,AV.at_ 1000005 []),(6,AV.ptr 6 []),(7,AV.ptr 7 []),q6,q5,q3] [(6,f7.var I2 (List.set o6 (Int.toNat (Prod.fst q0)) ((if List.getD o6 (Int.toNat (Prod.fst q0)) (0:Int)<List.getD o7 q1 (0:Int) then List.getD o7 q1 (0:Int) else List.getD o6 (Int.toNat (Prod.fst q0)) (0:Int))+(1:Int)))),(7,f7.var (Ty.arr 30 i5) (List.set o7 q1 ((if List.getD o6 (Int.toNat (Prod.fst q0)) (0:Int)<List.getD o7 q1 (0:Int) then List.getD o7 q1 (0:Int) else List.getD o6 (Int.toNat (Prod.fst q0)) (0:Int))+(1:Int)))),(1000005,f7.own Is (o1000005++List.set [(0:Int)] (Int.toNat (↑0:Int)) ((if List.getD o6 (Int.toNat (Prod.fst q0)) (0:Int)<List.getD o7 q1 (0:Int) then List.getD o7 q1 (0:Int) else List.getD o6 (Int.toNat (Prod.fst q0)) (0:Int))+(1:Int))))]))))) (.e8 (List.length o1000005+List.length (List.set [(0:Int)] (Int.toNat (↑0:Int)) ((if List.getD o6 (Int.toNat (Prod.fst q0)) (0:Int)<List.getD o7 q1 (0:Int) then List.getD o7 q1 (0:Int) else List.getD o6 (Int.toNat (Prod.fst q0)) (0:Int))+(1:Int)))≤140737488355328∧(List.length o1000005+List.length (List.set [(0:Int)] (Int.toNat (↑0:Int)) ((if List.getD o6 (Int.toNat (Prod.fst q0)) (0:Int)<List.getD o7 q1 (0:Int) then List.getD o7 q1 (0:Int) else List.getD o6 (Int.toNat (Prod.fst q0)) (0:Int))+(1:Int))))*Ty.wb i5≤140737488355328) (.e8 q7 (.ctL (d9 (d8 Try.prog 71) 8) (St.mk [(5,AV.at_ 1000005 []),(6,AV.ptr 6 []),(7,AV.ptr 7 []),q6,q5,q3] [(6,f7.var I2 (List.set o6 (Int.toNat (Prod.fst q0)) ((if List.getD o6 (Int.toNat (Prod.fst q0)) (0:Int)<List.getD o7 q1 (0:Int) then List.getD o7 q1 (0:Int) else List.getD o6 (Int.toNat (Prod.fst q0)) (0:Int))+(1:Int)))),(7,f7.var (Ty.arr 30 i5) o7),(1000005,f7.own Is (o1000005++List.set [(0:Int)] (Int.toNat (↑0:Int)) ((if List.getD o6 (Int.toNat (Prod.fst q0)) (0:Int)<List.getD o7 q1 (0:Int) then List.getD o7 q1 (0:Int) else List.getD o6 (Int.toNat (Prod.fst q0)) (0:Int))+(1:Int))))])))))))) (.e8 (r9 IntKind.i64 q2) (.e8 ((0:Int)≤Prod.fst q0∧Prod.fst q0<(↑6:Int)) (cond (decide (Prod.fst (Prod.snd q0)=(2:Int))) (.e8 ((0:Int)≤Prod.fst (Prod.snd (Prod.snd q0))∧Prod.fst (Prod.snd (Prod.snd q0))<(↑30:Int)) (.e8 (List.length o1000005+List.length q4≤140737488355328∧(List.length o1000005+List.length q4)*Ty.wb i5≤140737488355328) (.e8 q7 (.ctL (d9 (d8 Try.prog 71) 8) (St.mk [(5,AV.at_ 1000005 []),(6,AV.ptr 6 []),(7,AV.ptr 7 []),q6,q5,q3] [(6,f7.var I2 (List.set o6 (Int.toNat (Prod.fst q0)) q2)),(7,f7.var (Ty.arr 30 i5) (List.set o7 q1 q2)),q8]))))) (.e8 (List.length o1000005+List.length q4≤140737488355328∧(List.length o1000005+List.length q4)*Ty.wb i5≤140737488355328) (.e8 q7 (.ctL (d9 (d8 Try.prog 71) 8) (St.mk [(5,AV.at_ 1000005 []),(6,AV.ptr 6 []),(7,AV.ptr 7 []),q6,q5,q3] [(6,f7.var I2 (List.set o6 (Int.toNat (Prod.fst q0)) q2)),(7,f7.var (Ty.arr 30 i5) o7),q8])))))))))) (.ret ((o1000005,(0:Int),()))):=by kernel_rfl

theorem b1t {c:CkD} {e:Ev} (h:a1a c e=0):(0≤e.1∧e.1≤5)∧(0≤e.2.2.1∧e.2.2.1≤29)∧(e.2.1=1∨e.2.1=2∨e.2.1=3):=by
  unfold a1a at h
  split at h
  · cases h
  · rename_i h1
    split at h
    · cases h
    · rename_i h2
      refine ⟨K0.1 (by simpa using h1),K0.1 (by simpa using h2),?_⟩
      split at h
      · rename_i h3; exact .inl h3
      · split at h
        · rename_i h3; exact .inr (.inl h3)
        · split at h
          · rename_i h3; exact .inr (.inr h3)
          · cases h
theorem a7Z:∀ {l:List Ev} {c:CkD},S7 c l=0→∀ e∈l,(0≤e.1∧e.1≤5)∧(0≤e.2.2.1∧e.2.2.1≤29)∧(e.2.1=1∨e.2.1=2∨e.2.1=3)
  | [],_,_,e,he=>by cases he
  | x::l,c,h,e,he=>by
    simp only [S7] at h
    split at h
    · rename_i h1; exact absurd h h1
    · rename_i h1
      rcases List.mem_cons.1 he with rfl|he
      · exact b1t (Decidable.of_not_not h1)
      · exact a7Z h e he
theorem U9 {h:List Ev} (hh:t8 h=0):h.length≤60∧S7 ck0 h=0:=by
  unfold t8 at hh
  split at hh
  · cases hh
  · exact ⟨by omega,hh⟩
theorem a27 {h:List Ev} (hh:t8 h=0) {i:Nat} (hi:i<h.length):(0≤(h.getD i e0).1∧(h.getD i e0).1≤5)∧(0≤(h.getD i e0).2.2.1∧(h.getD i e0).2.2.1≤29)∧((h.getD i e0).2.1=1∨(h.getD i e0).2.1=2∨(h.getD i e0).2.1=3) :=
  a7Z (U9 hh).2 _ (P6 hi)
theorem a4r {l:List Int} {i j:Nat} {x b:Int} (h:∀ j,l.getD j 0≤b∧0≤l.getD j 0) (hx:x≤b∧0≤x):(l.set i x).getD j 0≤b∧0≤(l.set i x).getD j 0:=by
  by_cases hi:i<l.length
  · rw [B8 hi]; split
    · exact hx
    · exact h j
  · rw [List.set_eq_of_length_le (by omega)]; exact h j
theorem c4q {last sent:List Int} {e:Ev} {b:Int} (hl:∀ j,last.getD j 0≤b∧0≤last.getD j 0) (hs:∀ j,sent.getD j 0≤b∧0≤sent.getD j 0):tOf last sent e≤b+1∧1≤tOf last sent e:=by
  have h1:=hl e.1.toNat
  have h2:=hs e.2.2.1.toNat
  unfold tOf
  repeat' split
  all_goals omega

theorem b2l:b0J.Valid Try.prog 71:=by
  refine w9.u7 a5Q rfl rfl Try.func71 (c:=d8 Try.prog 71) rfl rfl a5L rfl ?_
  rintro ⟨(h:List Ev),⟨⟩⟩ - -
  refine n7 (n:=1000) a5Q a5L ?_
  refine g9 (c0s h) ?_
  simp only [i9,Tree.holds,true_and,true_implies,decide_eq_true_eq,decide_eq_false_iff_not,Bool.not_eq_true',Bool.not_eq_false',Int.toNat_natCast,l7,List.length_set,List.length_cons,List.length_nil]
  refine ⟨fun a=>?_,fun a=>?_⟩
  · show (([],t8 h,()):List Int×Int×Unit)=stamps h; rw [stamps,if_pos a]
  have hh:t8 h=0:=Decidable.of_not_not a
  have hl:=(U9 hh).1
  refine Reach.C1 a5Q a5L (fun s:Nat×List Int×List Int×List Int=>a95 h (h.length:Int) (s.1:Int) s.2.1 s.2.2.1 s.2.2.2)
    (fun s=>s.1≤h.length∧s.2.2.2.length=s.1∧(∀ j,s.2.1.getD j 0≤s.1∧0≤s.2.1.getD j 0)∧(∀ j,s.2.2.1.getD j 0≤s.1∧0≤s.2.2.1.getD j 0)∧stamps h=(s.2.2.2++a4l s.2.1 s.2.2.1 (h.drop s.1),0,()))
    (fun s=>h.length - s.1) 1000 (fun _=>⟨j7 rfl,j7 rfl⟩) ?_ (0,List.replicate 6 0,List.replicate 30 0,[]) ⟨by simp,rfl,?_,?_,by rw [stamps,if_neg a]; rfl⟩
  · rintro ⟨i,last,sent,out⟩ ⟨k1,k2,k3,k4,k5⟩ - ih
    have k1:i≤h.length:=k1
    have k2:out.length=i:=k2
    have k3:∀ j,last.getD j 0≤i∧0≤last.getD j 0:=k3
    have k4:∀ j,sent.getD j 0≤i∧0≤sent.getD j 0:=k4
    have k5:stamps h=(out++a4l last sent (h.drop i),0,()):=k5
    refine g9 (b8w ..) ?_
    by_cases hi:i<h.length
    · rw [S3 hi e0,a4l] at k5
      have hr:=a27 hh hi
      rw [show h.getD i e0=h.getD (Int.toNat (i:Int)) e0 from rfl] at k5 hr
      generalize h.getD (Int.toNat (i:Int)) e0=e at *
      obtain ⟨p,k,m,⟨⟩⟩:=e
      have hr:(0≤p∧p≤5)∧(0≤m∧m≤29)∧(k=1∨k=2∨k=3):=hr
      have ht:=c4q (e:=(p,k,m,())) k3 k4
      have hnext:=fun (sent':List Int) (hs:(if k=2 then sent.set m.toNat (tOf last sent (p,k,m,())) else sent)=sent')=>ih (i+1,last.set p.toNat (tOf last sent (p,k,m,())),sent',out++[tOf last sent (p,k,m,())]) (by
        subst hs
        refine ⟨hi,by simp [k2],fun j=>?_,fun j=>?_,?_⟩
        · exact a4r (fun j=>by have:=k3 j; show _≤((i+1:Nat):Int)∧_; omega) (by show _≤((i+1:Nat):Int)∧_; omega)
        · show (if k=2 then _ else sent).getD j 0≤((i+1:Nat):Int)∧_
          split
          · exact a4r (fun j=>by have:=k4 j; show _≤((i+1:Nat):Int)∧_; omega) (by show _≤((i+1:Nat):Int)∧_; omega)
          · have:=k4 j; show sent.getD j 0≤((i+1:Nat):Int)∧0≤sent.getD j 0; omega
        · rw [k5]; simp) (by show h.length - (i+1)<h.length - i; omega)
      have e3:k=3→tOf last sent (p,k,m,())=(if last.getD p.toNat 0<sent.getD m.toNat 0 then sent.getD m.toNat 0 else last.getD p.toNat 0)+1:=fun h=>by simp [tOf,h]
      have e1:k≠3→tOf last sent (p,k,m,())=last.getD p.toNat 0+1:=fun h=>by simp [tOf,h]
      generalize tOf last sent (p,k,m,())=t at *
      by_cases hk3:k=3
      · have e3:=e3 hk3
        simp only [← e3]
        simp only [i9,Tree.holds,true_and,true_implies,decide_eq_true_eq,decide_eq_false_iff_not,Bool.not_eq_true',Bool.not_eq_false',Int.toNat_natCast,l7,List.length_set,List.length_cons,List.length_nil,b2N]
        have:=hnext _ (if_neg (by omega))
        exact ⟨fun _=>⟨by omega,fun _=>⟨by omega,fun _=>⟨fun _=>⟨by omega,fun _=>⟨by omega,fun _=>⟨by omega,fun _=>⟨fun h=>absurd h (by omega),fun _=>⟨by omega,fun _=>⟨by omega,fun _=>this⟩⟩⟩⟩⟩⟩,fun h=>absurd hk3 h⟩⟩⟩,fun h=>absurd h (by omega)⟩
      · have e1:=e1 hk3
        simp only [← e1]
        simp only [i9,Tree.holds,true_and,true_implies,decide_eq_true_eq,decide_eq_false_iff_not,Bool.not_eq_true',Bool.not_eq_false',Int.toNat_natCast,l7,List.length_set,List.length_cons,List.length_nil,b2N]
        refine ⟨fun _=>⟨by omega,fun _=>⟨by omega,fun _=>⟨fun h=>absurd h hk3,fun _=>⟨by omega,fun _=>⟨by omega,fun _=>⟨fun h=>⟨by omega,fun _=>⟨by omega,fun _=>⟨by omega,fun _=>hnext _ (if_pos h)⟩⟩⟩,fun h=>⟨by omega,fun _=>⟨by omega,fun _=>hnext _ (if_neg h)⟩⟩⟩⟩⟩⟩⟩⟩,fun h=>absurd h (by omega)⟩
    · rw [List.drop_eq_nil_of_le (by omega)] at k5
      simp only [i9,Tree.holds,true_and,true_implies,decide_eq_true_eq,decide_eq_false_iff_not,Bool.not_eq_true',Bool.not_eq_false',Int.toNat_natCast,l7,List.length_set,List.length_cons,List.length_nil]
      refine ⟨fun b=>absurd b (by omega),fun b=>?_⟩
      show ((out,0,()):List Int×Int×Unit)=stamps h; rw [k5]; simp [a4l]
  · intro j
    show (List.replicate 6 (0:Int)).getD j 0≤0∧_
    have:(List.replicate 6 (0:Int)).getD j 0=0:=by rw [List.getD_eq_getElem?_getD,List.getElem?_replicate]; split<;>rfl
    rw [this]; omega
  · intro j
    show (List.replicate 30 (0:Int)).getD j 0≤0∧_
    have:(List.replicate 30 (0:Int)).getD j 0=0:=by rw [List.getD_eq_getElem?_getD,List.getElem?_replicate]; split<;>rfl
    rw [this]; omega
end Go.Proofs.Ytekbamiaenbhjaa
