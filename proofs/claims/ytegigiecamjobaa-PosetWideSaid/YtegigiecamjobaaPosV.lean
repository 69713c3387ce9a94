/- poset.Levels. No condition. -/
import Derived.Test.YtegigiecamjobaaPosT
namespace Go.Proofs.Ytegigiecamjobaa
open Go.Ex
set_option maxRecDepth 100000
def padR (out:List (List Int)) (k:Nat):List (List Int):=out++List.replicate (k+1 - out.length) []
def rowS (out:List (List Int)) (b:Nat) (k:Int):List (List Int):=(padR out k.toNat).set k.toNat ((padR out k.toNat).getD k.toNat []++[(b:Int)])
def rowsF (lev:List Int) (m:Nat):List (List Int):=(List.range m).foldl (fun out b=>rowS out b (lev.getD b 0)) []
def levelsR (n:Int) (l:List PairD):List (List Int)×Int×Unit:=if pcheck n l≠0 then ([],pcheck n l,()) else (rowsF (levF (wk (relP l) n.toNat) n.toNat (orderN (wk (relP l) n.toNat) n.toNat n.toNat [])) n.toNat,0,())
def clevels:Ctr:={ ps:=[.v Pos],rs:=[.slc true (.slc true I64),I64],pre:=fun _=>True,fn:=fun x=>levelsR x.1.1 x.1.2.1,out:=fun _=>() }
abbrev Nil1:List (List Int):=[[]]
noncomputable def Elevels:Env:={ P:=Try.prog,tt:=tt,ctr:=[(109,corder),(110,cclosed)],res:=[Go.ResultVar.tmp 2,Go.ResultVar.tmp 3],rs:=[Ty.slc true Is,Ty.int IntKind.i64],ps:=[PK.v (Ty.pair (Ty.int IntKind.i64) (Ty.pair (Ty.slc false PairT) Ty.unit))],cuts:=[(8,[(1,none),(6,none),(7,some Is),(8,none),(27,some Is),(28,none),(29,none)]),(11,[(1,none),(6,none),(7,some Is),(8,none),(10,none),(27,some Is),(28,none),(29,none),(34,none),(35,none)]),(18,[(8,some (Ty.slc true Is)),(58,some Is),(59,none),(60,none)]),(20,[(8,some (Ty.slc true Is)),(12,none),(13,none),(58,some Is),(59,none),(60,none)])],nt:=84 }
def Elevels_s8 (v28:Int) (v29:Int) (o1_1:Int) (o1_2_1:List (Int×Int×Unit)) (o6:List (List Bool)) (o1000007:List Int) (o1000027:List Int):St:=St.mk [(1,AV.ptr 1 []),(6,AV.ptr 6 []),(7,AV.at_ 1000007 []),(8,AV.raw (Go.Value.slice none 0 0)),(27,AV.at_ 1000027 []),(28,AV.val (Ty.int IntKind.i64) v28),(29,AV.val (Ty.int IntKind.i64) v29)] [(1,Ent.var (Ty.pair (Ty.int IntKind.i64) (Ty.pair (Ty.slc false PairT) Ty.unit)) (o1_1,o1_2_1,())),(6,Ent.var (Ty.arr 20 (Ty.arr 20 Ty.bool)) o6),(1000007,Ent.own Is o1000007),(1000027,Ent.own Is o1000027)]
def Elevels_s11 (v10:Int) (v28:Int) (v29:Int) (v34:Int) (v35:Int) (o1_1:Int) (o1_2_1:List (Int×Int×Unit)) (o6:List (List Bool)) (o1000007:List Int) (o1000027:List Int):St:=St.mk [(1,AV.ptr 1 []),(6,AV.ptr 6 []),(7,AV.at_ 1000007 []),(8,AV.raw (Go.Value.slice none 0 0)),(10,AV.val (Ty.int IntKind.i64) v10),(27,AV.at_ 1000027 []),(28,AV.val (Ty.int IntKind.i64) v28),(29,AV.val (Ty.int IntKind.i64) v29),(34,AV.val (Ty.int IntKind.i64) v34),(35,AV.val (Ty.int IntKind.i64) v35)] [(1,Ent.var (Ty.pair (Ty.int IntKind.i64) (Ty.pair (Ty.slc false PairT) Ty.unit)) (o1_1,o1_2_1,())),(6,Ent.var (Ty.arr 20 (Ty.arr 20 Ty.bool)) o6),(1000007,Ent.own Is o1000007),(1000027,Ent.own Is o1000027)]
def Elevels_s18 (v59:Int) (v60:Int) (o1000008:List (List Int)) (o1000058:List Int):St:=St.mk [(8,AV.at_ 1000008 []),(58,AV.at_ 1000058 []),(59,AV.val (Ty.int IntKind.i64) v59),(60,AV.val (Ty.int IntKind.i64) v60)] [(1000008,Ent.own (Ty.slc true Is) o1000008),(1000058,Ent.own Is o1000058)]
def Elevels_s20 (v12:Int) (v13:Int) (v59:Int) (v60:Int) (o1000008:List (List Int)) (o1000058:List Int):St:=St.mk [(8,AV.at_ 1000008 []),(12,AV.val (Ty.int IntKind.i64) v12),(13,AV.val (Ty.int IntKind.i64) v13),(58,AV.at_ 1000058 []),(59,AV.val (Ty.int IntKind.i64) v59),(60,AV.val (Ty.int IntKind.i64) v60)] [(1000008,Ent.own (Ty.slc true Is) o1000008),(1000058,Ent.own Is o1000058)]
theorem levF_bd {R:Nat→Nat→Bool} {n:Nat}:∀ (ord:List Int),Bd (n*ord.length) (levF R n ord):=by
  have:∀ (ord lev:List Int) (c:Nat),Bd c lev→Bd (c+n*ord.length) (ord.foldl (lvB R n) lev):=by
    intro ord
    induction ord with
    | nil=>intro lev c h; exact h
    | cons b ord ih =>
      intro lev c h
      have:=ih _ _ (h.fold R b.toNat n)
      rw [List.foldl_cons,List.length_cons,Nat.mul_succ,show c+(n*ord.length+n)=c+n+n*ord.length by omega]
      exact this
  intro ord
  have:=this ord _ 0 (Bd.zero n)
  rw [Nat.zero_add] at this
  exact this
theorem rowS_len {out:List (List Int)} {b:Nat} {k:Int}:(rowS out b k).length=max out.length (k.toNat+1):=by
  rw [rowS,List.length_set,padR,List.length_append,List.length_replicate]; omega
theorem rowsF_succ {lev:List Int} {m:Nat}:rowsF lev (m+1)=rowS (rowsF lev m) m (lev.getD m 0):=by rw [rowsF,List.range_succ,List.foldl_append]; rfl
end Go.Proofs.Ytegigiecamjobaa
