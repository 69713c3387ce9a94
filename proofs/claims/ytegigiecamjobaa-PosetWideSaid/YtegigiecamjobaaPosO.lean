/- poset.Order. No condition. -/
import Derived.Test.YtegigiecamjobaaPosA
import Derived.Test.YtegigiecamjobaaMatchK
namespace Go.Proofs.Ytegigiecamjobaa
open Go.Ex
set_option maxRecDepth 100000
def readyB (R:Nat→Nat→Bool) (n:Nat) (out:List Int) (b:Nat):Bool:=!decide ((b:Int)∈out) && (List.range n).all (fun a=>!R a b || decide ((a:Int)∈out))
def nextO (R:Nat→Nat→Bool) (n:Nat) (out:List Int):Nat→Nat→Option Nat
  | 0,_=>none
  | k+1,b=>if readyB R n out b=true then some b else nextO R n out k (b+1)
def orderN (R:Nat→Nat→Bool) (n:Nat):Nat→List Int→List Int
  | 0,out=>out
  | k+1,out=>match nextO R n out n 0 with
    | some b=>orderN R n k (out++[(b:Int)])
    | none=>out
theorem nextO_none {R:Nat→Nat→Bool} {n:Nat} {out:List Int}:∀ {k b:Nat},nextO R n out k b=none→∀ c,b≤c→c<b+k→readyB R n out c=false
  | 0,b,_,c,h1,h2=>by omega
  | k+1,b,h,c,h1,h2=>by
    rw [nextO] at h
    split at h
    · cases h
    · rename_i hr
      by_cases e:c=b
      · subst e; exact Bool.not_eq_true _ |>.mp hr
      · exact nextO_none h c (by omega) (by omega)
theorem nextO_some {R:Nat→Nat→Bool} {n:Nat} {out:List Int}:∀ {k b c:Nat},nextO R n out k b=some c→(b≤c∧c<b+k)∧readyB R n out c=true
  | 0,b,c,h=>by cases h
  | k+1,b,c,h=>by
    rw [nextO] at h
    split at h
    · rename_i hr; cases h; exact ⟨⟨by omega,by omega⟩,hr⟩
    · obtain ⟨h1,h2⟩:=nextO_some h
      exact ⟨⟨by omega,by omega⟩,h2⟩
def before (R:Nat→Nat→Bool) (n b:Nat):List Nat:=(List.range n).filter (fun a=>R a b)
theorem before_lt {R:Nat→Nat→Bool} {n a b:Nat} (ht:∀ x y z,R x y=true→R y z=true→R x z=true) (hi:∀ x,R x x=false) (ha:a<n) (h:R a b=true):(before R n a).length<(before R n b).length:=by
  have hnd:∀ c,(before R n c).Nodup:=fun c=>List.Pairwise.sublist List.filter_sublist List.nodup_range
  have h1:(a::before R n a).Nodup:=List.nodup_cons.2 ⟨fun h=>(by have:=(List.mem_filter.1 h).2; rw [hi] at this; cases this),hnd a⟩
  have:=nodup_sub h1 (S:=before R n b) (fun x hx=>by
    rcases List.mem_cons.1 hx with rfl|hx
    · exact List.mem_filter.2 ⟨List.mem_range.2 ha,h⟩
    · obtain ⟨h2,h3⟩:=List.mem_filter.1 hx
      exact List.mem_filter.2 ⟨h2,ht _ _ _ h3 h⟩)
  rw [List.length_cons] at this
  omega
theorem ready_of {R:Nat→Nat→Bool} {n:Nat} {out:List Int} (ht:∀ x y z,R x y=true→R y z=true→R x z=true) (hi:∀ x,R x x=false):∀ k b:Nat,(before R n b).length<k→b<n→(b:Int)∉out→∃ c,c<n∧readyB R n out c=true
  | 0,b,h,_,_=>by omega
  | k+1,b,h,hb,hno=>by
    by_cases hr:readyB R n out b=true
    · exact ⟨b,hb,hr⟩
    · rw [readyB,decide_eq_false hno,Bool.not_false,Bool.true_and,List.all_eq_true] at hr
      obtain ⟨a,ha⟩:=Classical.not_forall.1 hr
      obtain ⟨h1,h2⟩:=Classical.not_imp.1 ha
      have h1:=List.mem_range.1 h1
      simp only [Bool.or_eq_true,Bool.not_eq_true',decide_eq_true_eq,not_or,Bool.not_eq_false] at h2
      have:=before_lt ht hi h1 h2.1
      exact ready_of ht hi k a (by omega) h1 h2.2
theorem next_is {R:Nat→Nat→Bool} {n:Nat} {out:List Int} (ht:∀ x y z,R x y=true→R y z=true→R x z=true) (hi:∀ x,R x x=false) (hl:out.length<n):nextO R n out n 0≠none:=by
  intro h
  have h1:∃ b,b<n∧(b:Int)∉out:=by
    refine Classical.byContradiction (fun hno=>?_)
    have:=nodup_sub (l:=(List.range n).map (fun a:Nat=>(a:Int))) (S:=out) (by
      rw [List.nodup_iff_pairwise_ne,List.pairwise_map]
      exact List.pairwise_lt_range.imp (fun h=>by omega)) (fun x hx=>by
      obtain ⟨a,ha,rfl⟩:=List.mem_map.1 hx
      exact Classical.byContradiction (fun hh=>hno ⟨a,List.mem_range.1 ha,hh⟩))
    rw [List.length_map,List.length_range] at this
    omega
  obtain ⟨b,hb,hno⟩:=h1
  obtain ⟨c,hc,hr⟩:=ready_of ht hi (n:=n) (out:=out) _ b (Nat.lt_succ_self _) hb hno
  rw [nextO_none h c (by omega) (by omega)] at hr
  cases hr
def orderR (n:Int) (l:List PairD):List Int×Int×Unit:=if pcheck n l≠0 then ([],pcheck n l,()) else (orderN (wk (relP l) n.toNat) n.toNat n.toNat [],0,())
def corder:Ctr:={ ps:=[.v Pos],rs:=[.slc true I64,I64],pre:=fun _=>True,fn:=fun x=>orderR x.1.1 x.1.2.1,out:=fun _=>() }
noncomputable def Eorder:Env:={ P:=Try.prog,tt:=tt,ctr:=[(102,cpcheckR),(34,ccontI)],res:=[Go.ResultVar.tmp 2,Go.ResultVar.tmp 3],rs:=[Ty.slc true (Ty.int IntKind.i64),Ty.int IntKind.i64],ps:=[PK.v (Ty.pair (Ty.int IntKind.i64) (Ty.pair (Ty.slc false PairT) Ty.unit))],cuts:=[(5,[(1,none),(4,none),(6,some Is)]),(7,[(1,none),(4,none),(6,some Is),(24,none),(25,none)]),(12,[(1,none),(4,none),(6,some Is),(7,none),(8,none),(24,none),(25,none),(32,none),(33,none)])],nt:=58 }
def Eorder_s5 (o1_1:Int) (o1_2_1:List (Int×Int×Unit)) (o4:List (List Bool)) (o1000006:List Int):St:=St.mk [(1,AV.ptr 1 []),(4,AV.ptr 4 []),(6,AV.at_ 1000006 [])] [(1,Ent.var (Ty.pair (Ty.int IntKind.i64) (Ty.pair (Ty.slc false PairT) Ty.unit)) (o1_1,o1_2_1,())),(4,Ent.var (Ty.arr 20 (Ty.arr 20 Ty.bool)) o4),(1000006,Ent.own Is o1000006)]
def Eorder_s7 (v24:Int) (v25:Int) (o1_1:Int) (o1_2_1:List (Int×Int×Unit)) (o4:List (List Bool)) (o1000006:List Int):St:=St.mk [(1,AV.ptr 1 []),(4,AV.ptr 4 []),(6,AV.at_ 1000006 []),(24,AV.val (Ty.int IntKind.i64) v24),(25,AV.val (Ty.int IntKind.i64) v25)] [(1,Ent.var (Ty.pair (Ty.int IntKind.i64) (Ty.pair (Ty.slc false PairT) Ty.unit)) (o1_1,o1_2_1,())),(4,Ent.var (Ty.arr 20 (Ty.arr 20 Ty.bool)) o4),(1000006,Ent.own Is o1000006)]
def Eorder_s12 (v7:Int) (v8:Bool) (v24:Int) (v25:Int) (v32:Int) (v33:Int) (o1_1:Int) (o1_2_1:List (Int×Int×Unit)) (o4:List (List Bool)) (o1000006:List Int):St:=St.mk [(1,AV.ptr 1 []),(4,AV.ptr 4 []),(6,AV.at_ 1000006 []),(7,AV.val (Ty.int IntKind.i64) v7),(8,AV.val Ty.bool v8),(24,AV.val (Ty.int IntKind.i64) v24),(25,AV.val (Ty.int IntKind.i64) v25),(32,AV.val (Ty.int IntKind.i64) v32),(33,AV.val (Ty.int IntKind.i64) v33)] [(1,Ent.var (Ty.pair (Ty.int IntKind.i64) (Ty.pair (Ty.slc false PairT) Ty.unit)) (o1_1,o1_2_1,())),(4,Ent.var (Ty.arr 20 (Ty.arr 20 Ty.bool)) o4),(1000006,Ent.own Is o1000006)]
end Go.Proofs.Ytegigiecamjobaa
