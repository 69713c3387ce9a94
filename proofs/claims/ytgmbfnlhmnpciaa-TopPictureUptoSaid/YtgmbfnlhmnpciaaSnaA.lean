/- snap.record: a process takes its picture. -/
import Derived.Test.YtgmbfnlhmnpciaaListD
namespace Go.Proofs.Ytgmbfnlhmnpciaa
open Go.Ex
set_option maxRecDepth 100000
abbrev LaneD:=List Int×Bool×Int×Unit
abbrev GameD:=List Int×List Int×List Bool×List (List LaneD)×Unit
def l0:LaneD:=([],false,0,())
def laneAt (L:List (List LaneD)) (i j:Nat):LaneD:=(L.getD i []).getD j l0
def setLane (L:List (List LaneD)) (i j:Nat) (l:LaneD):List (List LaneD):=L.set i ((L.getD i []).set j l)
def markTo (L:List (List LaneD)) (p:Nat):Nat→List (List LaneD)
  | 0=>L
  | i+1=>if i=p then markTo L p i else setLane (markTo L p i) p i ((laneAt (markTo L p i) p i).1++[-1],(laneAt (markTo L p i) p i).2)
def recG (g:GameD) (p:Nat):GameD:=(g.1,g.2.1.set p (g.1.getD p 0),g.2.2.1.set p true,markTo g.2.2.2.1 p g.1.length,())
def recF (g:GameD) (p:Nat):GameD:=if g.2.2.1.getD p false=true then g else recG g p
def Sized (n:Nat) (g:GameD):Prop:=g.1.length=n∧g.2.1.length=n∧g.2.2.1.length=n∧g.2.2.2.1.length=n∧(∀ i,i<n→(g.2.2.2.1.getD i []).length=n)∧∀ i j,i<n→j<n→(laneAt g.2.2.2.1 i j).1.length≤1000
def crec:Ctr:={ ps:=[.rw Game,.v I64],rs:=[],pre:=fun x=>∃ n,Sized n x.1∧LE.le (α:=Int) 0 x.2.1∧LT.lt (α:=Int) x.2.1 (n:Int),fn:=fun _=>(),out:=fun x=>(recF x.1 (Int.toNat x.2.1),()) }
noncomputable def Erec:Env:={ P:=Try.prog,tt:=tt,ctr:=[],res:=[],rs:=[],ps:=[PK.rw (Ty.pair Is (Ty.pair Is (Ty.pair (Ty.slc true Ty.bool) (Ty.pair (Ty.slc true (Ty.slc true (Ty.pair Is (Ty.pair Ty.bool (Ty.pair (Ty.int IntKind.i64) Ty.unit))))) Ty.unit)))),PK.v (Ty.int IntKind.i64)],cuts:=[(4,[(0,none),(1,none),(35,none),(36,none)])],nt:=66 }
theorem Erec_ok:EnvOk Erec:=envOk tt_ok trivial
theorem Frec_ok:FnOk Erec Try.f47:=⟨rfl,rfl⟩
theorem Erec_t (x0_1:List Int) (x0_2_1:List Int) (x0_2_2_1:List Bool) (x0_2_2_2_1:List (List (List Int×Bool×Int×Unit))) (x1:Int):exec Erec 1000 [.code (bodyOf Try.prog 47)] (initSt crec.ps (((x0_1,x0_2_1,x0_2_2_1,x0_2_2_2_1,()),x1,()))) =
  .need ((0:Int)≤x1∧x1<(↑(List.length x0_2_2_1):Int)) (cond (List.getD x0_2_2_1 (Int.toNat x1) false) (.ret (((x0_1,x0_2_1,x0_2_2_1,x0_2_2_2_1,()),()))) (.need ((0:Int)≤x1∧x1<(↑(List.length x0_2_2_1):Int)) (.need ((0:Int)≤x1∧x1<(↑(List.length x0_1):Int)) (.need ((0:Int)≤x1∧x1<(↑(List.length x0_2_1):Int)) (.cut (loopAt (bodyOf Try.prog 47) 4).1 (loopAt (bodyOf Try.prog 47) 4).2 (St.mk [(0,AV.ptr 2000000 []),(1,AV.val (Ty.int IntKind.i64) x1),(35,AV.val (Ty.int IntKind.i64) (↑(List.length x0_1):Int)),(36,AV.val (Ty.int IntKind.i64) (0:Int))] [(2000000,Ent.var (Ty.pair Is (Ty.pair Is (Ty.pair (Ty.slc true Ty.bool) (Ty.pair (Ty.slc true (Ty.slc true (Ty.pair Is (Ty.pair Ty.bool (Ty.pair (Ty.int IntKind.i64) Ty.unit))))) Ty.unit)))) (x0_1,List.set x0_2_1 (Int.toNat x1) (List.getD x0_1 (Int.toNat x1) (0:Int)),List.set x0_2_2_1 (Int.toNat x1) true,x0_2_2_2_1,()))])))))):=by kernel_rfl
def Erec_s4 (v1:Int) (v35:Int) (v36:Int) (o2000000_1:List Int) (o2000000_2_1:List Int) (o2000000_2_2_1:List Bool) (o2000000_2_2_2_1:List (List (List Int×Bool×Int×Unit))):St:=St.mk [(0,AV.ptr 2000000 []),(1,AV.val (Ty.int IntKind.i64) v1),(35,AV.val (Ty.int IntKind.i64) v35),(36,AV.val (Ty.int IntKind.i64) v36)] [(2000000,Ent.var (Ty.pair Is (Ty.pair Is (Ty.pair (Ty.slc true Ty.bool) (Ty.pair (Ty.slc true (Ty.slc true (Ty.pair Is (Ty.pair Ty.bool (Ty.pair (Ty.int IntKind.i64) Ty.unit))))) Ty.unit)))) (o2000000_1,o2000000_2_1,o2000000_2_2_1,o2000000_2_2_2_1,()))]
theorem Erec_l4 (v1:Int) (v35:Int) (v36:Int) (o2000000_1:List Int) (o2000000_2_1:List Int) (o2000000_2_2_1:List Bool) (o2000000_2_2_2_1:List (List (List Int×Bool×Int×Unit))):exec Erec 1000 (.code (loopAt (bodyOf Try.prog 47) 4).1::.inLoop (loopAt (bodyOf Try.prog 47) 4).1::(loopAt (bodyOf Try.prog 47) 4).2) (Erec_s4 v1 v35 v36 o2000000_1 o2000000_2_1 o2000000_2_2_1 o2000000_2_2_2_1) =
  cond (decide (v36<v35)) (cond (decide (v36≠v1)) (.need ((0:Int)≤v1∧v1<(↑(List.length o2000000_2_2_2_1):Int)) (.need ((0:Int)≤v1∧v1<(↑(List.length o2000000_2_2_2_1):Int)) (.need ((0:Int)≤v36∧v36<(↑(List.length (List.getD o2000000_2_2_2_1 (Int.toNat v1) [])):Int)) (.need ((0:Int)≤v36∧v36<(↑(List.length (List.getD o2000000_2_2_2_1 (Int.toNat v1) [])):Int)) (.need ([]++[Step.fld 3]++[Step.idx v1]++[Step.idx v36]++[Step.fld 0]=[]++[Step.fld 3]++[Step.idx v1]++[Step.idx v36]++[Step.fld 0]∧List.length (Prod.fst (List.getD (List.getD o2000000_2_2_2_1 (Int.toNat v1) []) (Int.toNat v36) ([],false,(0:Int),())))+List.length (List.set [(0:Int)] (Int.toNat (↑0:Int)) (-1:Int))≤140737488355328∧(List.length (Prod.fst (List.getD (List.getD o2000000_2_2_2_1 (Int.toNat v1) []) (Int.toNat v36) ([],false,(0:Int),())))+List.length (List.set [(0:Int)] (Int.toNat (↑0:Int)) (-1:Int)))*Ty.wb (Ty.int IntKind.i64)≤140737488355328) (.need (inK IntKind.i64 (v36+(1:Int))) (.cut (loopAt (bodyOf Try.prog 47) 4).1 (loopAt (bodyOf Try.prog 47) 4).2 (St.mk [(0,AV.ptr 2000000 []),(1,AV.val (Ty.int IntKind.i64) v1),(35,AV.val (Ty.int IntKind.i64) v35),(36,AV.val (Ty.int IntKind.i64) (v36+(1:Int)))] [(2000000,Ent.var (Ty.pair Is (Ty.pair Is (Ty.pair (Ty.slc true Ty.bool) (Ty.pair (Ty.slc true (Ty.slc true (Ty.pair Is (Ty.pair Ty.bool (Ty.pair (Ty.int IntKind.i64) Ty.unit))))) Ty.unit)))) (o2000000_1,o2000000_2_1,o2000000_2_2_1,List.set o2000000_2_2_2_1 (Int.toNat v1) (List.set (List.getD o2000000_2_2_2_1 (Int.toNat v1) []) (Int.toNat v36) (Prod.fst (List.getD (List.getD o2000000_2_2_2_1 (Int.toNat v1) []) (Int.toNat v36) ([],false,(0:Int),()))++List.set [(0:Int)] (Int.toNat (↑0:Int)) (-1:Int),Prod.snd (List.getD (List.getD o2000000_2_2_2_1 (Int.toNat v1) []) (Int.toNat v36) ([],false,(0:Int),())))),()))])))))))) (.need (inK IntKind.i64 (v36+(1:Int))) (.cut (loopAt (bodyOf Try.prog 47) 4).1 (loopAt (bodyOf Try.prog 47) 4).2 (St.mk [(0,AV.ptr 2000000 []),(1,AV.val (Ty.int IntKind.i64) v1),(35,AV.val (Ty.int IntKind.i64) v35),(36,AV.val (Ty.int IntKind.i64) (v36+(1:Int)))] [(2000000,Ent.var (Ty.pair Is (Ty.pair Is (Ty.pair (Ty.slc true Ty.bool) (Ty.pair (Ty.slc true (Ty.slc true (Ty.pair Is (Ty.pair Ty.bool (Ty.pair (Ty.int IntKind.i64) Ty.unit))))) Ty.unit)))) (o2000000_1,o2000000_2_1,o2000000_2_2_1,o2000000_2_2_2_1,()))])))) (.ret (((o2000000_1,o2000000_2_1,o2000000_2_2_1,o2000000_2_2_2_1,()),()))):=by kernel_rfl
noncomputable def ErecK (gp:List Step):Env:={ P:=Try.prog,tt:=tt,ctr:=[],res:=[],rs:=[],ps:=[PK.rw (Ty.pair Is (Ty.pair Is (Ty.pair (Ty.slc true Ty.bool) (Ty.pair (Ty.slc true (Ty.slc true (Ty.pair Is (Ty.pair Ty.bool (Ty.pair (Ty.int IntKind.i64) Ty.unit))))) Ty.unit)))),PK.v (Ty.int IntKind.i64)],cuts:=[(4,[(0,none),(1,none),(35,none),(36,none),(5000000,none)])],nt:=66,gp:=some gp }
theorem ErecK_ok (gp:List Step):EnvOk (ErecK gp):=envOk tt_ok trivial
theorem FrecK_ok (gp:List Step):FnOk (ErecK gp) Try.f47:=⟨rfl,rfl⟩
theorem ErecK_t (g0 g1:Int) (x0_1:List Int) (x0_2_1:List Int) (x0_2_2_1:List Bool) (x0_2_2_2_1:List (List (List Int×Bool×Int×Unit))) (x1:Int):exec (ErecK [.fld 3,.idx g0,.idx g1]) 1000 [.code (bodyOf Try.prog 47)] (ghostSt [.fld 3,.idx g0,.idx g1] (initSt crec.ps (((x0_1,x0_2_1,x0_2_2_1,x0_2_2_2_1,()),x1,())))) =
  .need ((0:Int)≤x1∧x1<(↑(List.length x0_2_2_1):Int)) (cond (List.getD x0_2_2_1 (Int.toNat x1) false) (.need (2000000=2000000∧[Step.fld 3,Step.idx g0,Step.idx g1]=[Step.fld 3,Step.idx g0,Step.idx g1]∧Env.nt (Env.mk Go.Proofs.Try.prog tt [] [] [] [PK.rw (Ty.pair Is (Ty.pair Is (Ty.pair (Ty.slc true Ty.bool) (Ty.pair (Ty.slc true (Ty.slc true (Ty.pair Is (Ty.pair Ty.bool (Ty.pair (Ty.int IntKind.i64) Ty.unit))))) Ty.unit)))),PK.v (Ty.int IntKind.i64)] [(4,[(0,none),(1,none),(35,none),(36,none),(5000000,none)])] 66 [] (some [Step.fld 3,Step.idx g0,Step.idx g1]))≤ghostSlot) (.ret (((x0_1,x0_2_1,x0_2_2_1,x0_2_2_2_1,()),())))) (.need ((0:Int)≤x1∧x1<(↑(List.length x0_2_2_1):Int)) (.need ((0:Int)≤x1∧x1<(↑(List.length x0_1):Int)) (.need ((0:Int)≤x1∧x1<(↑(List.length x0_2_1):Int)) (.cut (loopAt (bodyOf Try.prog 47) 4).1 (loopAt (bodyOf Try.prog 47) 4).2 (St.mk [(0,AV.ptr 2000000 []),(1,AV.val (Ty.int IntKind.i64) x1),(35,AV.val (Ty.int IntKind.i64) (↑(List.length x0_1):Int)),(36,AV.val (Ty.int IntKind.i64) (0:Int)),(5000000,AV.ptr 2000000 [Step.fld 3,Step.idx g0,Step.idx g1])] [(2000000,Ent.var (Ty.pair Is (Ty.pair Is (Ty.pair (Ty.slc true Ty.bool) (Ty.pair (Ty.slc true (Ty.slc true (Ty.pair Is (Ty.pair Ty.bool (Ty.pair (Ty.int IntKind.i64) Ty.unit))))) Ty.unit)))) (x0_1,List.set x0_2_1 (Int.toNat x1) (List.getD x0_1 (Int.toNat x1) (0:Int)),List.set x0_2_2_1 (Int.toNat x1) true,x0_2_2_2_1,()))])))))):=by kernel_rfl
def ErecK_s4 (v1:Int) (v35:Int) (v36:Int) (v5000000i:Int) (v5000000pi:Int) (o2000000_1:List Int) (o2000000_2_1:List Int) (o2000000_2_2_1:List Bool) (o2000000_2_2_2_1:List (List (List Int×Bool×Int×Unit))):St:=St.mk [(0,AV.ptr 2000000 []),(1,AV.val (Ty.int IntKind.i64) v1),(35,AV.val (Ty.int IntKind.i64) v35),(36,AV.val (Ty.int IntKind.i64) v36),(5000000,AV.ptr 2000000 [Step.fld 3,Step.idx v5000000i,Step.idx v5000000pi])] [(2000000,Ent.var (Ty.pair Is (Ty.pair Is (Ty.pair (Ty.slc true Ty.bool) (Ty.pair (Ty.slc true (Ty.slc true (Ty.pair Is (Ty.pair Ty.bool (Ty.pair (Ty.int IntKind.i64) Ty.unit))))) Ty.unit)))) (o2000000_1,o2000000_2_1,o2000000_2_2_1,o2000000_2_2_2_1,()))]
theorem ErecK_l4 (g0 g1:Int) (v1:Int) (v35:Int) (v36:Int) (v5000000i:Int) (v5000000pi:Int) (o2000000_1:List Int) (o2000000_2_1:List Int) (o2000000_2_2_1:List Bool) (o2000000_2_2_2_1:List (List (List Int×Bool×Int×Unit))):exec (ErecK [.fld 3,.idx g0,.idx g1]) 1000 (.code (loopAt (bodyOf Try.prog 47) 4).1::.inLoop (loopAt (bodyOf Try.prog 47) 4).1::(loopAt (bodyOf Try.prog 47) 4).2) (ErecK_s4 v1 v35 v36 v5000000i v5000000pi o2000000_1 o2000000_2_1 o2000000_2_2_1 o2000000_2_2_2_1) =
  cond (decide (v36<v35)) (cond (decide (v36≠v1)) (.need ((0:Int)≤v1∧v1<(↑(List.length o2000000_2_2_2_1):Int)) (.need ((0:Int)≤v1∧v1<(↑(List.length o2000000_2_2_2_1):Int)) (.need ((0:Int)≤v36∧v36<(↑(List.length (List.getD o2000000_2_2_2_1 (Int.toNat v1) [])):Int)) (.need ((0:Int)≤v36∧v36<(↑(List.length (List.getD o2000000_2_2_2_1 (Int.toNat v1) [])):Int)) (.need ([]++[Step.fld 3]++[Step.idx v1]++[Step.idx v36]++[Step.fld 0]=[]++[Step.fld 3]++[Step.idx v1]++[Step.idx v36]++[Step.fld 0]∧List.length (Prod.fst (List.getD (List.getD o2000000_2_2_2_1 (Int.toNat v1) []) (Int.toNat v36) ([],false,(0:Int),())))+List.length (List.set [(0:Int)] (Int.toNat (↑0:Int)) (-1:Int))≤140737488355328∧(List.length (Prod.fst (List.getD (List.getD o2000000_2_2_2_1 (Int.toNat v1) []) (Int.toNat v36) ([],false,(0:Int),())))+List.length (List.set [(0:Int)] (Int.toNat (↑0:Int)) (-1:Int)))*Ty.wb (Ty.int IntKind.i64)≤140737488355328) (.need (inK IntKind.i64 (v36+(1:Int))) (.cut (loopAt (bodyOf Try.prog 47) 4).1 (loopAt (bodyOf Try.prog 47) 4).2 (St.mk [(0,AV.ptr 2000000 []),(1,AV.val (Ty.int IntKind.i64) v1),(35,AV.val (Ty.int IntKind.i64) v35),(36,AV.val (Ty.int IntKind.i64) (v36+(1:Int))),(5000000,AV.ptr 2000000 [Step.fld 3,Step.idx v5000000i,Step.idx v5000000pi])] [(2000000,Ent.var (Ty.pair Is (Ty.pair Is (Ty.pair (Ty.slc true Ty.bool) (Ty.pair (Ty.slc true (Ty.slc true (Ty.pair Is (Ty.pair Ty.bool (Ty.pair (Ty.int IntKind.i64) Ty.unit))))) Ty.unit)))) (o2000000_1,o2000000_2_1,o2000000_2_2_1,List.set o2000000_2_2_2_1 (Int.toNat v1) (List.set (List.getD o2000000_2_2_2_1 (Int.toNat v1) []) (Int.toNat v36) (Prod.fst (List.getD (List.getD o2000000_2_2_2_1 (Int.toNat v1) []) (Int.toNat v36) ([],false,(0:Int),()))++List.set [(0:Int)] (Int.toNat (↑0:Int)) (-1:Int),Prod.snd (List.getD (List.getD o2000000_2_2_2_1 (Int.toNat v1) []) (Int.toNat v36) ([],false,(0:Int),())))),()))])))))))) (.need (inK IntKind.i64 (v36+(1:Int))) (.cut (loopAt (bodyOf Try.prog 47) 4).1 (loopAt (bodyOf Try.prog 47) 4).2 (St.mk [(0,AV.ptr 2000000 []),(1,AV.val (Ty.int IntKind.i64) v1),(35,AV.val (Ty.int IntKind.i64) v35),(36,AV.val (Ty.int IntKind.i64) (v36+(1:Int))),(5000000,AV.ptr 2000000 [Step.fld 3,Step.idx v5000000i,Step.idx v5000000pi])] [(2000000,Ent.var (Ty.pair Is (Ty.pair Is (Ty.pair (Ty.slc true Ty.bool) (Ty.pair (Ty.slc true (Ty.slc true (Ty.pair Is (Ty.pair Ty.bool (Ty.pair (Ty.int IntKind.i64) Ty.unit))))) Ty.unit)))) (o2000000_1,o2000000_2_1,o2000000_2_2_1,o2000000_2_2_2_1,()))])))) (.need (2000000=2000000∧[Step.fld 3,Step.idx v5000000i,Step.idx v5000000pi]=[Step.fld 3,Step.idx g0,Step.idx g1]∧Env.nt (Env.mk Go.Proofs.Try.prog tt [] [] [] [PK.rw (Ty.pair Is (Ty.pair Is (Ty.pair (Ty.slc true Ty.bool) (Ty.pair (Ty.slc true (Ty.slc true (Ty.pair Is (Ty.pair Ty.bool (Ty.pair (Ty.int IntKind.i64) Ty.unit))))) Ty.unit)))),PK.v (Ty.int IntKind.i64)] [(4,[(0,none),(1,none),(35,none),(36,none),(5000000,none)])] 66 [] (some [Step.fld 3,Step.idx g0,Step.idx g1]))≤ghostSlot) (.ret (((o2000000_1,o2000000_2_1,o2000000_2_2_1,o2000000_2_2_2_1,()),())))):=by kernel_rfl
theorem len_setLane {L:List (List LaneD)} {i j:Nat} {l:LaneD}:(setLane L i j l).length=L.length:=by rw [setLane,List.length_set]
theorem row_setLane {L:List (List LaneD)} {i j a:Nat} {l:LaneD}:((setLane L i j l).getD a []).length=(L.getD a []).length:=by
  rw [setLane]
  by_cases h:i<L.length
  · rw [getD_set h]
    split
    · rename_i e; subst e; rw [List.length_set]
    · rfl
  · rw [List.set_eq_of_length_le (by omega)]
theorem laneAt_set {L:List (List LaneD)} {i j:Nat} {l:LaneD} (hi:i<L.length) (hj:j<(L.getD i []).length) (a b:Nat):laneAt (setLane L i j l) a b=if a=i∧b=j then l else laneAt L a b:=by
  rw [laneAt,setLane,getD_set hi]
  by_cases e:a=i
  · subst e
    rw [if_pos rfl,getD_set hj]
    by_cases e2:b=j
    · subst e2; rw [if_pos rfl,if_pos ⟨rfl,rfl⟩]
    · rw [if_neg e2,if_neg (fun h=>e2 h.2)]; rfl
  · rw [if_neg e,if_neg (fun h=>e h.1)]; rfl
theorem len_markTo {L:List (List LaneD)} {p:Nat}:∀ i,(markTo L p i).length=L.length
  | 0=>rfl
  | i+1=>by
    rw [markTo]
    split
    · exact len_markTo i
    · rw [len_setLane]; exact len_markTo i
theorem row_markTo {L:List (List LaneD)} {p a:Nat}:∀ i,((markTo L p i).getD a []).length=(L.getD a []).length
  | 0=>rfl
  | i+1=>by
    rw [markTo]
    split
    · exact row_markTo i
    · rw [row_setLane]; exact row_markTo i
theorem laneAt_mark {L:List (List LaneD)} {p:Nat} (hp:p<L.length) (a b:Nat):∀ i,i≤(L.getD p []).length→laneAt (markTo L p i) a b=if a=p∧b<i∧b≠p then ((laneAt L p b).1++[-1],(laneAt L p b).2) else laneAt L a b
  | 0,_=>by rw [if_neg (by omega)]; rfl
  | i+1,hi=>by
    rw [markTo]
    have ih:=fun a b=>laneAt_mark (L:=L) hp a b i (by omega)
    split
    · rename_i e
      rw [laneAt_mark hp a b i (by omega)]
      by_cases c:a=p∧b<i∧b≠p
      · rw [if_pos c,if_pos ⟨c.1,by omega,c.2.2⟩]
      · rw [if_neg c,if_neg (by omega)]
    · rename_i e
      rw [laneAt_set (by rw [len_markTo]; exact hp) (by rw [row_markTo]; omega)]
      by_cases c:a=p∧b=i
      · obtain ⟨rfl,rfl⟩:=c
        rw [if_pos ⟨rfl,rfl⟩,if_pos ⟨rfl,by omega,e⟩,laneAt_mark hp a b b (by omega),if_neg (by omega)]
      · rw [if_neg c,laneAt_mark hp a b i (by omega)]
        by_cases d:a=p∧b<i∧b≠p
        · rw [if_pos d,if_pos ⟨d.1,by omega,d.2.2⟩]
        · rw [if_neg d,if_neg (by omega)]
theorem crec_valid:crec.Valid Try.prog 47:=by
  refine Ctr.valid_of Erec_ok rfl rfl Try.func47 (c:=bodyOf Try.prog 47) rfl rfl Frec_ok rfl ?_
  rintro ⟨⟨(N:List Int),(H:List Int),(R:List Bool),(L:List (List LaneD)),⟨⟩⟩,(p:Int),⟨⟩⟩ ⟨n,⟨(s1:N.length=n),(s2:H.length=n),(s3:R.length=n),(s4:L.length=n),s5,s6⟩,(p0:0≤p),(p1:p<(n:Int))⟩ ⟨⟨⟨hN,-⟩,-⟩,-⟩
  have hN:N.length≤9223372036854775807:=hN
  obtain ⟨q,rfl⟩:∃ q:Nat,p=q:=⟨p.toNat,by omega⟩
  refine exec_sound (n:=1000) Erec_ok Frec_ok ?_
  refine holds_of_eq (Erec_t N H R L q) ?_
  simp only [holds_cond,Tree.holds,true_and,true_implies,decide_eq_true_eq,decide_eq_false_iff_not,Bool.not_eq_true',Bool.not_eq_false',Int.toNat_natCast,inK_i64,List.length_set,List.length_cons,List.length_nil]
  have hd:recF (N,H,R,L,()) q=if R.getD q false=true then (N,H,R,L,()) else (N,H.set q (N.getD q 0),R.set q true,markTo L q N.length,()):=rfl
  refine ⟨⟨by omega,by omega⟩,fun _=>⟨fun c=>?_,fun c=>⟨⟨by omega,by omega⟩,fun _=>⟨⟨by omega,by omega⟩,fun _=>⟨⟨by omega,by omega⟩,fun _=>?_⟩⟩⟩⟩⟩
  · rw [if_pos c] at hd
    show (((N,H,R,L,()),()):GameD×Unit)=(recF (N,H,R,L,()) q,())
    rw [hd]
  rw [if_neg (by rw [c]; simp)] at hd
  refine Reach.loopI Erec_ok Frec_ok (fun i:Nat=>Erec_s4 (q:Int) (N.length:Int) (i:Int) N (H.set q (N.getD q 0)) (R.set q true) (markTo L q i)) (fun i=>i≤n) (fun i=>n - i) 1000 (fun _=>⟨uniq_of rfl,uniq_of rfl⟩) ?_ 0 (Nat.zero_le _)
  rintro i (k1:i≤n) - ih
  refine holds_of_eq (Erec_l4 ..) ?_
  have e1:(markTo L q i).length=n:=by rw [len_markTo,s4]
  have e2:(List.getD (markTo L q i) q []).length=n:=by rw [row_markTo]; exact s5 q (by omega)
  simp only [holds_cond,Tree.holds,true_and,true_implies,decide_eq_true_eq,decide_eq_false_iff_not,Bool.not_eq_true',Bool.not_eq_false',Int.toNat_natCast,inK_i64,List.length_set,List.length_cons,List.length_nil]
  refine ⟨fun c=>⟨fun d=>?_,fun d=>?_⟩,fun c=>?_⟩
  · have hq:i≠q:=by omega
    have e3:laneAt (markTo L q i) q i=laneAt L q i:=by rw [laneAt_mark (by omega) q i i (by rw [s5 q (by omega)]; omega),if_neg (by omega)]
    have e4:=s6 q i (by omega) (by omega)
    have next:=ih (i+1) (by omega) (by omega)
    rw [markTo,if_neg hq] at next
    have e5:(laneAt (markTo L q i) q i).1.length≤1000:=by rw [e3]; exact e4
    have e5:(List.getD (List.getD (markTo L q i) q []) i ([],false,0,())).1.length≤1000:=e5
    have w8:Ty.wb (.int .i64)=8:=rfl
    refine ⟨⟨by omega,by omega⟩,fun _=>⟨⟨by omega,by omega⟩,fun _=>⟨⟨by omega,by omega⟩,fun _=>⟨⟨by omega,by omega⟩,fun _=>⟨⟨?_,?_⟩,fun _=>⟨by omega,fun _=>next⟩⟩⟩⟩⟩⟩
    · show _+1≤_; omega
    · show (_+1)*8≤_; omega
  · have next:=ih (i+1) (by omega) (by omega)
    rw [markTo,if_pos (by omega)] at next
    exact ⟨by omega,fun _=>next⟩
  · obtain rfl:i=n:=by omega
    show (((N,H.set q (N.getD q 0),R.set q true,markTo L q i,()),()):GameD×Unit)=(recF (N,H,R,L,()) q,())
    rw [hd,s1]
theorem pm3 {P:List Step} (h:pm [some 3,none,none] P=true):∃ g0 g1:Int,P=[.fld 3,.idx g0,.idx g1]:=by
  match P,h with
  | [.fld n,.idx a,.idx b],h =>
    simp only [pm,Bool.and_true,Nat.beq_eq] at h
    subst h
    exact ⟨a,b,rfl⟩
  | [],h=>cases h
  | [.fld n],h=>simp [pm] at h
  | [.idx n],h=>cases h
  | .fld n::.fld m::l,h=>simp [pm] at h
  | [.fld n,.idx a],h=>simp [pm] at h
  | .idx n::_::l,h=>cases h
  | .fld n::.idx a::.fld m::l,h=>simp [pm] at h
  | .fld n::.idx a::.idx b::c::l,h=>simp [pm] at h
theorem crec_kept:crec.Kept Try.prog 47 [some 3,none,none]:=by
  refine Ctr.kept_of (E:=ErecK) (fun _=>rfl) (fun _=>rfl) (fun _=>rfl) (fun _=>rfl) Try.func47 (c:=bodyOf Try.prog 47) rfl rfl ⟨_,rfl⟩ ?_
  rintro ⟨⟨(N:List Int),(H:List Int),(R:List Bool),(L:List (List LaneD)),⟨⟩⟩,(p:Int),⟨⟩⟩ P hpm ⟨n,⟨(s1:N.length=n),(s2:H.length=n),(s3:R.length=n),(s4:L.length=n),s5,s6⟩,(p0:0≤p),(p1:p<(n:Int))⟩ - ⟨⟨⟨hN,-⟩,-⟩,-⟩
  obtain ⟨g0,g1,rfl⟩:∃ g0 g1:Int,P=[.fld 3,.idx g0,.idx g1]:=pm3 hpm
  have hN:N.length≤9223372036854775807:=hN
  obtain ⟨q,rfl⟩:∃ q:Nat,p=q:=⟨p.toNat,by omega⟩
  refine exec_sound (n:=1000) (ErecK_ok _) (FrecK_ok _) ?_
  refine holds_of_eq (ErecK_t g0 g1 N H R L q) ?_
  simp only [holds_cond,Tree.holds,true_and,true_implies,decide_eq_true_eq,decide_eq_false_iff_not,Bool.not_eq_true',Bool.not_eq_false',Int.toNat_natCast,inK_i64,List.length_set,List.length_cons,List.length_nil]
  have hd:recF (N,H,R,L,()) q=if R.getD q false=true then (N,H,R,L,()) else (N,H.set q (N.getD q 0),R.set q true,markTo L q N.length,()):=rfl
  refine ⟨⟨by omega,by omega⟩,fun _=>⟨fun c=>?_,fun c=>⟨⟨by omega,by omega⟩,fun _=>⟨⟨by omega,by omega⟩,fun _=>⟨⟨by omega,by omega⟩,fun _=>?_⟩⟩⟩⟩⟩
  · rw [if_pos c] at hd
    refine ⟨(by first|exact ⟨rfl,rfl,(by show (66:Nat)≤5000000; omega)⟩|(show (66:Nat)≤5000000; omega)),fun _=>?_⟩
    show (((N,H,R,L,()),()):GameD×Unit)=(recF (N,H,R,L,()) q,())
    rw [hd]
  rw [if_neg (by rw [c]; simp)] at hd
  refine Reach.loopI (ErecK_ok _) (FrecK_ok _) (fun i:Nat=>ErecK_s4 (q:Int) (N.length:Int) (i:Int) g0 g1 N (H.set q (N.getD q 0)) (R.set q true) (markTo L q i)) (fun i=>i≤n) (fun i=>n - i) 1000 (fun _=>⟨uniq_of rfl,uniq_of rfl⟩) ?_ 0 (Nat.zero_le _)
  rintro i (k1:i≤n) - ih
  refine holds_of_eq (ErecK_l4 ..) ?_
  have e1:(markTo L q i).length=n:=by rw [len_markTo,s4]
  have e2:(List.getD (markTo L q i) q []).length=n:=by rw [row_markTo]; exact s5 q (by omega)
  simp only [holds_cond,Tree.holds,true_and,true_implies,decide_eq_true_eq,decide_eq_false_iff_not,Bool.not_eq_true',Bool.not_eq_false',Int.toNat_natCast,inK_i64,List.length_set,List.length_cons,List.length_nil]
  refine ⟨fun c=>⟨fun d=>?_,fun d=>?_⟩,fun c=>?_⟩
  · have hq:i≠q:=by omega
    have e3:laneAt (markTo L q i) q i=laneAt L q i:=by rw [laneAt_mark (by omega) q i i (by rw [s5 q (by omega)]; omega),if_neg (by omega)]
    have e4:=s6 q i (by omega) (by omega)
    have next:=ih (i+1) (by omega) (by omega)
    rw [markTo,if_neg hq] at next
    have e5:(laneAt (markTo L q i) q i).1.length≤1000:=by rw [e3]; exact e4
    have e5:(List.getD (List.getD (markTo L q i) q []) i ([],false,0,())).1.length≤1000:=e5
    have w8:Ty.wb (.int .i64)=8:=rfl
    refine ⟨⟨by omega,by omega⟩,fun _=>⟨⟨by omega,by omega⟩,fun _=>⟨⟨by omega,by omega⟩,fun _=>⟨⟨by omega,by omega⟩,fun _=>⟨⟨?_,?_⟩,fun _=>⟨by omega,fun _=>next⟩⟩⟩⟩⟩⟩
    · show _+1≤_; omega
    · show (_+1)*8≤_; omega
  · have next:=ih (i+1) (by omega) (by omega)
    rw [markTo,if_pos (by omega)] at next
    exact ⟨by omega,fun _=>next⟩
  · obtain rfl:i=n:=by omega
    refine ⟨(by first|exact ⟨rfl,rfl,(by show (66:Nat)≤5000000; omega)⟩|(show (66:Nat)≤5000000; omega)),fun _=>?_⟩
    show (((N,H.set q (N.getD q 0),R.set q true,markTo L q i,()),()):GameD×Unit)=(recF (N,H,R,L,()) q,())
    rw [hd,s1]
end Go.Proofs.Ytgmbfnlhmnpciaa
